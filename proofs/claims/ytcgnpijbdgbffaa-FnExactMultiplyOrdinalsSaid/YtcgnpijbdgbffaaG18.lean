/-
  Ordinals: the difference: its law.
-/
import Derived.Test.YtcgnpijbdgbffaaG17
import Derived.Test.YtcgnpijbdgbffaaO3
namespace Go.Proofs.Ytcgnpijbdgbffaa
open Go K Od
set_option linter.unusedSimpArgs false
set_option linter.unusedVariables false
set_option maxHeartbeats 800000

theorem elems_from {a d r : Od} (h : a = d.app r) : (elems a).drop d.len = elems r := by rw [h]; exact elems_drop d r
theorem elems_from1 {a d e r : Od} {c : Int} (h : a = d.app (.cons e c r)) : (elems a).drop (d.len + 1) = elems r := by
  have : a = (d.app (.cons e c .nil)).app r := by rw [app_assoc]; exact h
  have h2 := elems_from this
  rw [len_app] at h2; exact h2

theorem take_all (a : Od) : (elems a).take a.len = elems a := List.take_of_length_le (by rw [elems_length]; exact Nat.le_refl _)

theorem elems_all (a : Od) : ((elems a).all fun z => z.cells.length == 2) = true := by
  rw [List.all_eq_true]; intro y hy; rw [elems_cells a y hy]; rfl
theorem elems_mem : ∀ (a : Od) (x : AV), x ∈ elems a → ∃ (e : Od) (c : Int), x = .agg [.sl false (elems e), .int .i64 c]
  | .nil, x, h => by simp [elems] at h
  | .cons e c r, x, h => by
    simp only [elems, List.mem_cons] at h
    rcases h with rfl | h
    · exact ⟨e, c, rfl⟩
    · exact elems_mem r x h
theorem Vw_elems {L : List AObj} {id g n : Nat} {T : TypeId} {a : Od} {es : List AV} (hL : L[id]? = some (.vec T 2 g es)) (he : es = elems a) (hn : n = a.len) : Vw L (.ref id [] g n) (.sl false (elems a)) := by
  subst he hn
  have := Vw.refPur (o := false) hL (n := a.len) (by rw [elems_length]; exact Nat.le_refl _) (fun e he c hc => by
    obtain ⟨e', c', rfl⟩ := elems_mem a e he
    simp only [AV.cells, List.mem_cons, List.not_mem_nil, or_false] at hc
    rcases hc with rfl | rfl
    · exact ⟨.of (by simp only [pureB, elems_pure]), fun xs h => by cases h⟩
    · exact ⟨.int _ _, fun xs h => by cases h⟩)
  rwa [take_all] at this

theorem odLess_ok (a b : Od) (ha : a.sz ≤ 1048576) (hb : b.sz ≤ 1048576) (ra : rng a) (rb : rng b) : Ct Try.prog 66 [av a, av b] [] (av (lessS a b)) [] := by
  refine Ct.by_ hmix [ 8000000, 1000000 + 57] Try.func66 rfl ?_
  simp only [run0, run1, run2, run3, run4, run5, run6, run7, run8, run9, run10, run11, run12, run13, run14, run15, run16, run17, run18, run19, run20, run21, run22, reduceCtorEq, Nat.reduceEqDiff, Nat.reduceAdd, Nat.reduceSub, Nat.reduceLeDiff, indexAddrA, indexRefA, appendA, strA, Nat.reduceMul, Nat.zero_mul, Nat.reduceMod, Int.reduceEq, Int.reduceLT, Int.reduceLE, Nat.reduceLT, Nat.lt_irrefl, Nat.reduceBEq, tys0, tys1, tys2, tys3, tys4, tys5, tys6, tys7, tys8, tys9, tys10, Try.ntmps66, Try.results66, av, elems_length]
  refine AWp.loop_inv (ι := (Od × Od) × (Od × Od) × List AObj) (fun p => ⟨[.agg [.sl false (elems a)], .agg [.sl false (elems b)], .ptr 0 0, .ptr 1 0, .ptr 2 0, .junk, .junk, .junk, .junk, .junk, .sl false (elems a), .int .i64 a.len, .int .i64 p.1.1.len, .junk, .junk, .junk, .junk, .junk, .junk, .junk, .junk, .junk, .junk, .junk, .junk, .junk, .junk, .junk, .junk, .junk, .junk, .junk, .junk, .junk, .junk, .junk, .junk, .junk, .junk, .junk, .junk, .junk, .junk, .junk, .junk, .junk, .junk, .junk, .junk, .junk, .junk, .junk, .junk, .junk, .junk, .junk, .junk, .junk, .junk, .junk, .junk, .junk, .junk, .junk, .junk, .junk, .junk], .box 29 [.sl false (elems a)] :: .box 29 [.sl false (elems b)] :: .box 29 [nilV] :: p.2.2⟩)
    (fun p => a = p.1.1.app p.1.2 ∧ b = p.2.1.1.app p.2.1.2 ∧ p.1.1.len = p.2.1.1.len ∧ lessS p.1.2 p.2.1.2 = lessS a b) (fun p => p.1.2.len) ((.nil, a), (.nil, b), []) ⟨rfl, rfl, rfl, rfl⟩ ⟨by simp only [len, Int.natCast_zero]; repeat constructor, rfl⟩ ?_
  rintro ⟨⟨d, r⟩, ⟨d', r'⟩, X⟩ ⟨h1, h2, h3, h4⟩
  refine W.sound hmix (E := [8000000, 1000000 + 57]) ?_
  simp only at h1 h2 h3 h4
  cases r with
  | nil =>
    obtain ⟨e1, rfl⟩ := od_end h1
    simp only [run0, run1, run2, run3, run4, run5, run6, run7, run8, run9, run10, run11, run12, run13, run14, run15, run16, run17, run18, run19, run20, run21, run22, reduceCtorEq, Nat.reduceEqDiff, Nat.reduceAdd, Nat.reduceSub, Nat.reduceLeDiff, indexAddrA, indexRefA, appendA, strA, Nat.reduceMul, Nat.zero_mul, Nat.reduceMod, Int.reduceEq, Int.reduceLT, Int.reduceLE, Nat.reduceLT, Nat.lt_irrefl, Nat.reduceBEq, tys0, tys1, tys2, tys3, tys4, tys5, tys6, tys7, tys8, tys9, tys10, Try.ntmps66, Try.results66, elems_length, e1]
    exact Fin.value (by rw [← h4]; exact Vw.agg (.cons (Vw.nil false) .nil))
  | cons e c r =>
    obtain ⟨e1, e2, e5, hlt, hn, _⟩ := od_step h1 ha
    have e6 := elems_from h1
    have e7 := elems_from1 h1
    rw [h1] at ra
    have ra := rng_app ra
    have e8 : (d.len : Int) ≤ (a.len : Int) := by omega
    cases r' with
    | nil =>
      obtain ⟨_, rfl⟩ := od_end h2
      have e3 : ((d.len : Int) == (b.len : Int)) = true := by simp; omega
      simp only [run0, run1, run2, run3, run4, run5, run6, run7, run8, run9, run10, run11, run12, run13, run14, run15, run16, run17, run18, run19, run20, run21, run22, reduceCtorEq, Nat.reduceEqDiff, Nat.reduceAdd, Nat.reduceSub, Nat.reduceLeDiff, indexAddrA, indexRefA, appendA, strA, Nat.reduceMul, Nat.zero_mul, Nat.reduceMod, Int.reduceEq, Int.reduceLT, Int.reduceLE, Nat.reduceLT, Nat.lt_irrefl, Nat.reduceBEq, tys0, tys1, tys2, tys3, tys4, tys5, tys6, tys7, tys8, tys9, tys10, Try.ntmps66, Try.results66, elems_length, e1, e2, e3, e6, e8, take_all, Int.le_refl, elems_cells_t, Int.toNat_natCast, Int.natCast_nonneg]
      exact Fin.eq (by rw [← h4]; rfl) (by simp only [pureB, pureL, elems_pure, Bool.and_self])
    | cons e' c' r' =>
      obtain ⟨f1, f2, f5, hlt', hn', _⟩ := od_step h2 hb
      rw [h2] at rb
      have rb := rng_app rb
      rw [← h3] at f1 f2
      have e3 : ((d.len : Int) == (b.len : Int)) = false := by simp; omega
      have hw : IntKind.i64.wrap (c - c') = c - c' := w64_id (by have := ra.1; have := rb.2.1; omega) (by have := ra.2.1; have := rb.1; omega)
      simp only [run0, run1, run2, run3, run4, run5, run6, run7, run8, run9, run10, run11, run12, run13, run14, run15, run16, run17, run18, run19, run20, run21, run22, reduceCtorEq, Nat.reduceEqDiff, Nat.reduceAdd, Nat.reduceSub, Nat.reduceLeDiff, indexAddrA, indexRefA, appendA, strA, Nat.reduceMul, Nat.zero_mul, Nat.reduceMod, Int.reduceEq, Int.reduceLT, Int.reduceLE, Nat.reduceLT, Nat.lt_irrefl, Nat.reduceBEq, tys0, tys1, tys2, tys3, tys4, tys5, tys6, tys7, tys8, tys9, tys10, Try.ntmps66, Try.results66, elems_length, e1, e2, e3, f2, Int.toNat_natCast, Int.natCast_nonneg]
      refine RunL.callp rfl rfl ok_f49 (odCmp_ok e e' (by omega) (by omega) ra.2.2.1 rb.2.2.1) (by first | rfl | simp only [pureL, pureB, Bool.and_self, Bool.and_true, Bool.true_and, Od.elems_pure, Od.pay_pure, Od.av_pure]) rfl ?_
      simp only [run0, run1, run2, run3, run4, run5, run6, run7, run8, run9, run10, run11, run12, run13, run14, run15, run16, run17, run18, run19, run20, run21, run22, reduceCtorEq, Nat.reduceEqDiff, Nat.reduceAdd, Nat.reduceSub, Nat.reduceLeDiff, indexAddrA, indexRefA, appendA, strA, Nat.reduceMul, Nat.zero_mul, Nat.reduceMod, Int.reduceEq, Int.reduceLT, Int.reduceLE, Nat.reduceLT, Nat.lt_irrefl, Nat.reduceBEq, tys0, tys1, tys2, tys3, tys4, tys5, tys6, tys7, tys8, tys9, tys10, Try.ntmps66, Try.results66, elems_length, e1, e2, e3, f2, Int.toNat_natCast, Int.natCast_nonneg]
      rw [lessS_cons] at h4
      by_cases q : cmpT e e' = 0
      · simp only [q, ne_eq, not_true_eq_false, if_false] at h4
        have q1 : (cmpT e e' != 0) = false := by simp [q]
        simp only [run0, run1, run2, run3, run4, run5, run6, run7, run8, run9, run10, run11, run12, run13, run14, run15, run16, run17, run18, run19, run20, run21, run22, reduceCtorEq, Nat.reduceEqDiff, Nat.reduceAdd, Nat.reduceSub, Nat.reduceLeDiff, indexAddrA, indexRefA, appendA, strA, Nat.reduceMul, Nat.zero_mul, Nat.reduceMod, Int.reduceEq, Int.reduceLT, Int.reduceLE, Nat.reduceLT, Nat.lt_irrefl, Nat.reduceBEq, tys0, tys1, tys2, tys3, tys4, tys5, tys6, tys7, tys8, tys9, tys10, Try.ntmps66, Try.results66, elems_length, q1, f2, Int.toNat_natCast, Int.natCast_nonneg]
        by_cases qc : c = c'
        · subst qc
          simp only [ne_eq, not_true_eq_false, if_false] at h4
          simp only [run0, run1, run2, run3, run4, run5, run6, run7, run8, run9, run10, run11, run12, run13, run14, run15, run16, run17, run18, run19, run20, run21, run22, reduceCtorEq, Nat.reduceEqDiff, Nat.reduceAdd, Nat.reduceSub, Nat.reduceLeDiff, indexAddrA, indexRefA, appendA, strA, Nat.reduceMul, Nat.zero_mul, Nat.reduceMod, Int.reduceEq, Int.reduceLT, Int.reduceLE, Nat.reduceLT, Nat.lt_irrefl, Nat.reduceBEq, tys0, tys1, tys2, tys3, tys4, tys5, tys6, tys7, tys8, tys9, tys10, Try.ntmps66, Try.results66, bne_self_eq_false, e5]
          exact ⟨((d.app (cons e c nil), r), (d'.app (cons e' c nil), r'), _), ⟨hn.symm, hn'.symm, by simp only [len_app, len, h3], h4⟩, by simp [len], by repeat constructor, rfl⟩
        · simp only [qc, ne_eq, not_false_eq_true, if_true] at h4
          have q2 : (c != c') = true := by simp [qc]
          have w1 : IntKind.i64.wrap ((d.len : Int) + 1) = ((d.len + 1 : Nat) : Int) := by rw [e5, len_app]; rfl
          have w3 : 1 + r.len ≤ 137438953472 := by have := len_le r; have := len_le a; omega
          have w2 : ((d.len + 1 : Nat) : Int) ≤ (a.len : Int) := by omega
          simp only [run0, run1, run2, run3, run4, run5, run6, run7, run8, run9, run10, run11, run12, run13, run14, run15, run16, run17, run18, run19, run20, run21, run22, reduceCtorEq, Nat.reduceEqDiff, Nat.reduceAdd, Nat.reduceSub, Nat.reduceLeDiff, indexAddrA, indexRefA, appendA, strA, Nat.reduceMul, Nat.zero_mul, Nat.reduceMod, Int.reduceEq, Int.reduceLT, Int.reduceLE, Nat.reduceLT, Nat.lt_irrefl, Nat.reduceBEq, tys0, tys1, tys2, tys3, tys4, tys5, tys6, tys7, tys8, tys9, tys10, Try.ntmps66, Try.results66, q2, f2, hw, Int.toNat_natCast, Int.natCast_nonneg]
          refine ⟨[0,2,3,4,5,6,1,7,8,9], by kernel_rfl, ?_⟩
          simp only [run0, run1, run2, run3, run4, run5, run6, run7, run8, run9, run10, run11, run12, run13, run14, run15, run16, run17, run18, run19, run20, run21, run22, reduceCtorEq, Nat.reduceEqDiff, Nat.reduceAdd, Nat.reduceSub, Nat.reduceLeDiff, indexAddrA, indexRefA, appendA, strA, Nat.reduceMul, Nat.zero_mul, Nat.reduceMod, Int.reduceEq, Int.reduceLT, Int.reduceLE, Nat.reduceLT, Nat.lt_irrefl, Nat.reduceBEq, tys0, tys1, tys2, tys3, tys4, tys5, tys6, tys7, tys8, tys9, tys10, Try.ntmps66, Try.results66, w1, w2, e7, take_all, Int.le_refl, elems_length, elems_cells_t, elems_all, elems_noOwn, w3, Int.toNat_natCast, Int.natCast_nonneg]
          rw [← h4]
          exact Fin.value (Vw.agg (.cons (Vw_elems (T := 53) (by simp only [List.getElem?_cons_succ]; rw [getXn]; rfl) rfl (by simp only [len]; omega)) .nil))
      · simp only [q, ne_eq, not_false_eq_true, if_true] at h4
        have q1 : (cmpT e e' != 0) = true := by simp [q]
        simp only [run0, run1, run2, run3, run4, run5, run6, run7, run8, run9, run10, run11, run12, run13, run14, run15, run16, run17, run18, run19, run20, run21, run22, reduceCtorEq, Nat.reduceEqDiff, Nat.reduceAdd, Nat.reduceSub, Nat.reduceLeDiff, indexAddrA, indexRefA, appendA, strA, Nat.reduceMul, Nat.zero_mul, Nat.reduceMod, Int.reduceEq, Int.reduceLT, Int.reduceLE, Nat.reduceLT, Nat.lt_irrefl, Nat.reduceBEq, tys0, tys1, tys2, tys3, tys4, tys5, tys6, tys7, tys8, tys9, tys10, Try.ntmps66, Try.results66, q1, e6, e8, take_all, Int.le_refl, elems_length, elems_cells_t, Int.toNat_natCast, Int.natCast_nonneg]
        exact Fin.eq (by rw [← h4]) (by simp only [pureB, pureL, elems_pure, Bool.and_self])

theorem less_ok (a b : Od) (ha : a.sz ≤ 1048576) (hb : b.sz ≤ 1048576) (ra : rng a) (rb : rng b) (hc : 0 ≤ cmpT a b) : Ct Try.prog 67 [av a, av b] [] (av (lessS a b)) [] := by
  refine Ct.by_ hmix [ 8000000, 1000000 + 47] Try.func67 rfl ?_
  simp only [run0, run1, run2, run3, run4, run5, run6, run7, run8, run9, run10, run11, run12, run13, run14, run15, run16, run17, run18, run19, run20, run21, run22, reduceCtorEq, Nat.reduceEqDiff, Nat.reduceAdd, Nat.reduceSub, Nat.reduceLeDiff, indexAddrA, indexRefA, appendA, strA, Nat.reduceMul, Nat.zero_mul, Nat.reduceMod, Int.reduceEq, Int.reduceLT, Int.reduceLE, Nat.reduceLT, Nat.lt_irrefl, Nat.reduceBEq, tys0, tys1, tys2, tys3, tys4, tys5, tys6, tys7, tys8, tys9, tys10, Try.ntmps67, Try.results67, av, elems_length]
  refine AWp.loop_inv (ι := (Od × Od) × (Od × Od) × List AObj) (fun p => ⟨[.agg [.sl false (elems a)], .agg [.sl false (elems b)], .ptr 0 0, .ptr 1 0, .ptr 2 0, .junk, .junk, .junk, .junk, .sl false (elems b), .int .i64 b.len, .int .i64 p.1.1.len, .junk, .junk, .junk, .junk, .junk, .junk, .junk, .junk, .junk, .junk, .junk, .junk, .junk, .junk, .junk, .junk, .junk, .junk, .junk, .junk, .junk, .junk, .junk, .junk, .junk, .junk, .junk, .junk, .junk, .junk, .junk, .junk, .junk, .junk, .junk, .junk, .junk, .junk, .junk, .junk, .junk, .junk, .junk, .junk, .junk, .junk, .junk, .junk, .junk, .junk, .junk], .box 29 [.sl false (elems a)] :: .box 29 [.sl false (elems b)] :: .box 29 [nilV] :: p.2.2⟩)
    (fun p => a = p.1.1.app p.1.2 ∧ b = p.2.1.1.app p.2.1.2 ∧ p.1.1.len = p.2.1.1.len ∧ lessS p.1.2 p.2.1.2 = lessS a b ∧ 0 ≤ cmpT p.1.2 p.2.1.2) (fun p => p.2.1.2.len) ((.nil, a), (.nil, b), []) ⟨rfl, rfl, rfl, rfl, hc⟩ ⟨by simp only [len, Int.natCast_zero]; repeat constructor, rfl⟩ ?_
  rintro ⟨⟨d, r⟩, ⟨d', r'⟩, X⟩ ⟨h1, h2, h3, h4, h5⟩
  refine W.sound hmix (E := [8000000, 1000000 + 47]) ?_
  simp only at h1 h2 h3 h4 h5
  cases r' with
  | nil =>
    obtain ⟨e1, rfl⟩ := od_end h2
    have e6 := elems_from h1
    rw [h3] at e6
    have e7 : (b.len : Int) ≤ (a.len : Int) := by rw [h1, len_app]; omega
    have e3 : ¬ ((d.len : Int) < (b.len : Int)) := by omega
    simp only [run0, run1, run2, run3, run4, run5, run6, run7, run8, run9, run10, run11, run12, run13, run14, run15, run16, run17, run18, run19, run20, run21, run22, reduceCtorEq, Nat.reduceEqDiff, Nat.reduceAdd, Nat.reduceSub, Nat.reduceLeDiff, indexAddrA, indexRefA, appendA, strA, Nat.reduceMul, Nat.zero_mul, Nat.reduceMod, Int.reduceEq, Int.reduceLT, Int.reduceLE, Nat.reduceLT, Nat.lt_irrefl, Nat.reduceBEq, tys0, tys1, tys2, tys3, tys4, tys5, tys6, tys7, tys8, tys9, tys10, Try.ntmps67, Try.results67, elems_length, e1, e3, e6, e7, take_all, Int.le_refl, elems_cells_t, Int.toNat_natCast, Int.natCast_nonneg]
    rw [lessS_nil] at h4
    exact Fin.eq (by rw [← h4]) (by simp only [pureB, pureL, elems_pure, Bool.and_self])
  | cons e' c' r' =>
    obtain ⟨f1, f2, f5, hlt', hn', _⟩ := od_step h2 hb
    rw [h2] at rb
    have rb := rng_app rb
    rw [← h3] at f1 f2
    cases r with
    | nil => simp [cmpT] at h5
    | cons e c r =>
      obtain ⟨e1, e2, e5, hlt, hn, _⟩ := od_step h1 ha
      have e6 := elems_from h1
      have e7 := elems_from1 h1
      rw [h1] at ra
      have ra := rng_app ra
      have e8 : (d.len : Int) ≤ (a.len : Int) := by omega
      have hw : IntKind.i64.wrap (c - c') = c - c' := w64_id (by have := ra.1; have := rb.2.1; omega) (by have := ra.2.1; have := rb.1; omega)
      have e5' : IntKind.i64.wrap ((d.len : Int) + 1) = ((d'.app (cons e' c' nil)).len : Int) := by rw [h3]; exact f5
      simp only [run0, run1, run2, run3, run4, run5, run6, run7, run8, run9, run10, run11, run12, run13, run14, run15, run16, run17, run18, run19, run20, run21, run22, reduceCtorEq, Nat.reduceEqDiff, Nat.reduceAdd, Nat.reduceSub, Nat.reduceLeDiff, indexAddrA, indexRefA, appendA, strA, Nat.reduceMul, Nat.zero_mul, Nat.reduceMod, Int.reduceEq, Int.reduceLT, Int.reduceLE, Nat.reduceLT, Nat.lt_irrefl, Nat.reduceBEq, tys0, tys1, tys2, tys3, tys4, tys5, tys6, tys7, tys8, tys9, tys10, Try.ntmps67, Try.results67, elems_length, e1, e2, f1, f2, Int.toNat_natCast, Int.natCast_nonneg]
      refine RunL.callp rfl rfl ok_f51 (cmp_ok e e' (by omega) (by omega)) (by first | rfl | simp only [pureL, pureB, Bool.and_self, Bool.and_true, Bool.true_and, Od.elems_pure, Od.pay_pure, Od.av_pure]) rfl ?_
      simp only [run0, run1, run2, run3, run4, run5, run6, run7, run8, run9, run10, run11, run12, run13, run14, run15, run16, run17, run18, run19, run20, run21, run22, reduceCtorEq, Nat.reduceEqDiff, Nat.reduceAdd, Nat.reduceSub, Nat.reduceLeDiff, indexAddrA, indexRefA, appendA, strA, Nat.reduceMul, Nat.zero_mul, Nat.reduceMod, Int.reduceEq, Int.reduceLT, Int.reduceLE, Nat.reduceLT, Nat.lt_irrefl, Nat.reduceBEq, tys0, tys1, tys2, tys3, tys4, tys5, tys6, tys7, tys8, tys9, tys10, Try.ntmps67, Try.results67, elems_length, e1, e2, f2, Int.toNat_natCast, Int.natCast_nonneg]
      rw [lessS_cons] at h4
      rw [cmpT_cons] at h5
      by_cases q : cmpT e e' = 0
      · simp only [q, ne_eq, not_true_eq_false, if_false] at h4 h5
        have q1 : (cmpT e e' != 0) = false := by simp [q]
        simp only [run0, run1, run2, run3, run4, run5, run6, run7, run8, run9, run10, run11, run12, run13, run14, run15, run16, run17, run18, run19, run20, run21, run22, reduceCtorEq, Nat.reduceEqDiff, Nat.reduceAdd, Nat.reduceSub, Nat.reduceLeDiff, indexAddrA, indexRefA, appendA, strA, Nat.reduceMul, Nat.zero_mul, Nat.reduceMod, Int.reduceEq, Int.reduceLT, Int.reduceLE, Nat.reduceLT, Nat.lt_irrefl, Nat.reduceBEq, tys0, tys1, tys2, tys3, tys4, tys5, tys6, tys7, tys8, tys9, tys10, Try.ntmps67, Try.results67, elems_length, q1, f2, Int.toNat_natCast, Int.natCast_nonneg]
        by_cases qc : c = c'
        · subst qc
          simp only [ne_eq, not_true_eq_false, if_false] at h4 h5
          simp only [run0, run1, run2, run3, run4, run5, run6, run7, run8, run9, run10, run11, run12, run13, run14, run15, run16, run17, run18, run19, run20, run21, run22, reduceCtorEq, Nat.reduceEqDiff, Nat.reduceAdd, Nat.reduceSub, Nat.reduceLeDiff, indexAddrA, indexRefA, appendA, strA, Nat.reduceMul, Nat.zero_mul, Nat.reduceMod, Int.reduceEq, Int.reduceLT, Int.reduceLE, Nat.reduceLT, Nat.lt_irrefl, Nat.reduceBEq, tys0, tys1, tys2, tys3, tys4, tys5, tys6, tys7, tys8, tys9, tys10, Try.ntmps67, Try.results67, bne_self_eq_false, e5]
          exact ⟨((d.app (cons e c nil), r), (d'.app (cons e' c nil), r'), _), ⟨hn.symm, hn'.symm, by simp only [len_app, len, h3], h4, h5⟩, by simp [len], by repeat constructor, rfl⟩
        · simp only [qc, ne_eq, not_false_eq_true, if_true] at h4
          have q2 : (c != c') = true := by simp [qc]
          have w1 : IntKind.i64.wrap ((d.len : Int) + 1) = ((d.len + 1 : Nat) : Int) := by rw [e5, len_app]; rfl
          have w3 : 1 + r.len ≤ 137438953472 := by have := len_le r; have := len_le a; omega
          have w2 : ((d.len + 1 : Nat) : Int) ≤ (a.len : Int) := by omega
          simp only [run0, run1, run2, run3, run4, run5, run6, run7, run8, run9, run10, run11, run12, run13, run14, run15, run16, run17, run18, run19, run20, run21, run22, reduceCtorEq, Nat.reduceEqDiff, Nat.reduceAdd, Nat.reduceSub, Nat.reduceLeDiff, indexAddrA, indexRefA, appendA, strA, Nat.reduceMul, Nat.zero_mul, Nat.reduceMod, Int.reduceEq, Int.reduceLT, Int.reduceLE, Nat.reduceLT, Nat.lt_irrefl, Nat.reduceBEq, tys0, tys1, tys2, tys3, tys4, tys5, tys6, tys7, tys8, tys9, tys10, Try.ntmps67, Try.results67, q2, f2, hw, Int.toNat_natCast, Int.natCast_nonneg]
          refine ⟨[0,1,2,3,4,5,6,7,9,10,11,12,13,8,14,15,16], by kernel_rfl, ?_⟩
          simp only [run0, run1, run2, run3, run4, run5, run6, run7, run8, run9, run10, run11, run12, run13, run14, run15, run16, run17, run18, run19, run20, run21, run22, reduceCtorEq, Nat.reduceEqDiff, Nat.reduceAdd, Nat.reduceSub, Nat.reduceLeDiff, indexAddrA, indexRefA, appendA, strA, Nat.reduceMul, Nat.zero_mul, Nat.reduceMod, Int.reduceEq, Int.reduceLT, Int.reduceLE, Nat.reduceLT, Nat.lt_irrefl, Nat.reduceBEq, tys0, tys1, tys2, tys3, tys4, tys5, tys6, tys7, tys8, tys9, tys10, Try.ntmps67, Try.results67, w1, w2, hw, e7, take_all, Int.le_refl, elems_length, elems_cells_t, elems_all, elems_noOwn, w3, Int.toNat_natCast, Int.natCast_nonneg]
          rw [← h4]
          exact Fin.value (Vw.agg (.cons (Vw_elems (T := 53) (by simp only [List.getElem?_cons_succ]; rw [getXn]; rfl) rfl (by simp only [len]; omega)) .nil))
      · simp only [q, ne_eq, not_false_eq_true, if_true] at h4
        have q1 : (cmpT e e' != 0) = true := by simp [q]
        simp only [run0, run1, run2, run3, run4, run5, run6, run7, run8, run9, run10, run11, run12, run13, run14, run15, run16, run17, run18, run19, run20, run21, run22, reduceCtorEq, Nat.reduceEqDiff, Nat.reduceAdd, Nat.reduceSub, Nat.reduceLeDiff, indexAddrA, indexRefA, appendA, strA, Nat.reduceMul, Nat.zero_mul, Nat.reduceMod, Int.reduceEq, Int.reduceLT, Int.reduceLE, Nat.reduceLT, Nat.lt_irrefl, Nat.reduceBEq, tys0, tys1, tys2, tys3, tys4, tys5, tys6, tys7, tys8, tys9, tys10, Try.ntmps67, Try.results67, q1, e6, e8, take_all, Int.le_refl, elems_length, elems_cells_t, Int.toNat_natCast, Int.natCast_nonneg]
        exact Fin.eq (by rw [← h4]) (by simp only [pureB, pureL, elems_pure, Bool.and_self])

end Go.Proofs.Ytcgnpijbdgbffaa
