/-
  Ordinals: natural sums: the walks.
-/
import Derived.Test.YtcgnpijbdgbffaaG22
import Derived.Test.YtcgnpijbdgbffaaO5
namespace Go.Proofs.Ytcgnpijbdgbffaa
open Go K Od
set_option linter.unusedSimpArgs false
set_option linter.unusedVariables false
set_option maxHeartbeats 1600000
set_option maxRecDepth 8000

theorem nil_merge (b : Od) : mergeT .nil b = b := by rw [mergeT]

structure NsS where
  d : Od
  r : Od
  d' : Od
  r' : Od
  o : Od
  X : List AObj

theorem naturalSum_ok (a b : Od) (ha : a.sz ≤ 1048576) (hb : b.sz ≤ 1048576) {m : Int} (hm : m ≤ 2305843009213693952) (ba : bnd m a) (bb : bnd m b) : Ct Try.prog 71 [av a, av b] [] (av (mergeT a b)) [] := by
  have hla := len_le a
  have hlb := len_le b
  refine Ct.by_ hmix [] Try.func71 rfl ?_
  simp only [run0, run1, run2, run3, run4, run5, run6, run7, run8, run9, run10, run11, run12, run13, run14, run15, run16, run17, run18, run19, run20, run21, run22, reduceCtorEq, Nat.reduceEqDiff, Nat.reduceAdd, Nat.reduceSub, Nat.reduceLeDiff, indexAddrA, indexRefA, appendA, strA, Nat.reduceMul, Nat.zero_mul, Nat.reduceMod, Int.reduceEq, Int.reduceLT, Int.reduceLE, Nat.reduceLT, Nat.lt_irrefl, Nat.reduceBEq, tys0, tys1, tys2, tys3, tys4, tys5, tys6, tys7, tys8, tys9, tys10, Try.ntmps71, Try.results71, av]
  refine AWp.nilB 3 0 53 2 rfl rfl ?_
  simp only [run0, run1, run2, run3, run4, run5, run6, run7, run8, run9, run10, run11, run12, run13, run14, run15, run16, run17, run18, run19, run20, run21, run22, reduceCtorEq, Nat.reduceEqDiff, Nat.reduceAdd, Nat.reduceSub, Nat.reduceLeDiff, indexAddrA, indexRefA, appendA, strA, Nat.reduceMul, Nat.zero_mul, Nat.reduceMod, Int.reduceEq, Int.reduceLT, Int.reduceLE, Nat.reduceLT, Nat.lt_irrefl, Nat.reduceBEq, tys0, tys1, tys2, tys3, tys4, tys5, tys6, tys7, tys8, tys9, tys10, Try.ntmps71, Try.results71]
  refine AWp.loop_inv (ι := NsS) (fun p => ⟨[.agg [.sl false (elems a)], .agg [.sl false (elems b)], .ptr 0 0, .ptr 1 0, .ptr 2 0, .ptr 3 0, .int .i64 p.d.len, .int .i64 p.d'.len, .junk, .junk, .junk, .junk, .junk, .junk, .junk, .junk, .junk, .junk, .junk, .junk, .junk, .junk, .junk, .junk, .junk, .junk, .junk, .junk, .junk, .junk, .junk, .junk, .junk, .junk, .junk, .junk, .junk, .junk, .junk, .junk, .junk, .junk, .junk, .junk, .junk, .junk, .junk, .junk, .junk, .junk, .junk, .junk, .junk, .junk, .junk, .junk, .junk, .junk, .junk, .junk, .junk, .junk, .junk, .junk, .junk, .junk, .junk, .junk, .junk, .junk, .junk, .junk, .junk, .junk, .junk, .junk, .junk, .junk, .junk, .junk, .junk, .junk, .junk, .junk, .junk],
      .box 29 [.sl false (elems a)] :: .box 29 [.sl false (elems b)] :: .box 29 [nilV] :: .box 29 [.ref 4 [] p.o.len p.o.len] :: .vec 53 2 p.o.len (elems p.o) :: p.X⟩)
    (fun p => a = p.d.app p.r ∧ b = p.d'.app p.r' ∧ p.o.app (mergeT p.r p.r') = mergeT a b ∧ p.o.len ≤ p.d.len + p.d'.len) (fun p => p.r.len + p.r'.len) ⟨.nil, a, .nil, b, .nil, []⟩ ⟨rfl, rfl, rfl, Nat.le_refl _⟩ ⟨by simp only [len, Int.natCast_zero]; repeat constructor, rfl⟩ ?_
  rintro ⟨d, r, d', r', o, X⟩ ⟨h1, h2, h3, h4⟩
  simp only at h1 h2 h3 h4
  refine W.sound hmix (E := []) ?_
  have hda : d.len + r.len = a.len := by rw [h1, len_app]
  have hdb : d'.len + r'.len = b.len := by rw [h2, len_app]
  have f3 : o.len ≤ 137438953471 := by omega
  have f4 : noOwn (elems o) = true := elems_noOwn o
  cases r with
  | nil =>
    have hda' : d.len = a.len := by simpa [len] using hda
    have p1 : ¬ ((d.len : Int) < (a.len : Int)) := by omega
    cases r' with
    | nil =>
      have hdb' : d'.len = b.len := by simpa [len] using hdb
      have p2 : ¬ ((d'.len : Int) < (b.len : Int)) := by omega
      simp only [run0, run1, run2, run3, run4, run5, run6, run7, run8, run9, run10, run11, run12, run13, run14, run15, run16, run17, run18, run19, run20, run21, run22, reduceCtorEq, Nat.reduceEqDiff, Nat.reduceAdd, Nat.reduceSub, Nat.reduceLeDiff, indexAddrA, indexRefA, appendA, strA, Nat.reduceMul, Nat.zero_mul, Nat.reduceMod, Int.reduceEq, Int.reduceLT, Int.reduceLE, Nat.reduceLT, Nat.lt_irrefl, Nat.reduceBEq, tys0, tys1, tys2, tys3, tys4, tys5, tys6, tys7, tys8, tys9, tys10, Try.ntmps71, Try.results71, elems_length, p1, p2]
      have h5 : mergeT a b = o := by rw [← h3, merge_nil, app_nil]
      rw [h5]
      exact Fin.value (Vw.agg (.cons (Vw_elems (T := 53) rfl rfl rfl) .nil))
    | cons e c q' =>
      obtain ⟨p2, p3, p4, _, hn', _⟩ := od_step h2 hb
      have bx := bnd_len (bnd_app.1 (h2 ▸ bb)).2
      have p5 : ((d'.len : Int) == (b.len : Int)) = false := by simp; omega
      have p6 : ((d.len : Int) == (a.len : Int)) = true := by simp; omega
      have p7 : IntKind.i64.wrap (0 + c) = c := by rw [Int.zero_add]; exact w64_id (by omega) (by omega)
      simp only [run0, run1, run2, run3, run4, run5, run6, run7, run8, run9, run10, run11, run12, run13, run14, run15, run16, run17, run18, run19, run20, run21, run22, reduceCtorEq, Nat.reduceEqDiff, Nat.reduceAdd, Nat.reduceSub, Nat.reduceLeDiff, indexAddrA, indexRefA, appendA, strA, Nat.reduceMul, Nat.zero_mul, Nat.reduceMod, Int.reduceEq, Int.reduceLT, Int.reduceLE, Nat.reduceLT, Nat.lt_irrefl, Nat.reduceBEq, tys0, tys1, tys2, tys3, tys4, tys5, tys6, tys7, tys8, tys9, tys10, Try.ntmps71, Try.results71, elems_length, p1, p2, p3, p4, p5, p6, p7, f3, f4, Int.toNat_natCast, Int.natCast_nonneg]
      refine ⟨by kernel_rfl, ⟨d, nil, d'.app (cons e c nil), q', o.app (cons e c nil), X ++ [.box 53 [.sl false (elems e), .int .i64 c]]⟩, ⟨h1, hn'.symm, ?_, by simp only [len_app, len]; omega⟩, by simp [len], by simp only [len_app, elems_app, elems, pay, len]; repeat constructor, by simp only [len_app, elems_app, elems, pay, len]⟩
      rw [← h3, app_assoc, nil_merge, nil_merge]; rfl
  | cons x k q =>
    obtain ⟨p1, q3, q4, _, hn, _⟩ := od_step h1 ha
    have by1 := bnd_len (bnd_app.1 (h1 ▸ ba)).2
    have q6 : ((d.len : Int) == (a.len : Int)) = false := by simp; omega
    cases r' with
    | nil =>
      have hdb' : d'.len = b.len := by simpa [len] using hdb
      have p5 : ((d'.len : Int) == (b.len : Int)) = true := by simp; omega
      simp only [run0, run1, run2, run3, run4, run5, run6, run7, run8, run9, run10, run11, run12, run13, run14, run15, run16, run17, run18, run19, run20, run21, run22, reduceCtorEq, Nat.reduceEqDiff, Nat.reduceAdd, Nat.reduceSub, Nat.reduceLeDiff, indexAddrA, indexRefA, appendA, strA, Nat.reduceMul, Nat.zero_mul, Nat.reduceMod, Int.reduceEq, Int.reduceLT, Int.reduceLE, Nat.reduceLT, Nat.lt_irrefl, Nat.reduceBEq, tys0, tys1, tys2, tys3, tys4, tys5, tys6, tys7, tys8, tys9, tys10, Try.ntmps71, Try.results71, elems_length, p1, q3, q4, p5, q6, f3, f4, Int.toNat_natCast, Int.natCast_nonneg]
      refine ⟨⟨d.app (cons x k nil), q, d', nil, o.app (cons x k nil), X ++ [.box 53 [.sl false (elems x), .int .i64 k]]⟩, ⟨hn.symm, h2, ?_, by simp only [len_app, len]; omega⟩, by simp [len], by simp only [len_app, elems_app, elems, pay, len]; repeat constructor, by simp only [len_app, elems_app, elems, pay, len]⟩
      rw [← h3, app_assoc, merge_nil, merge_nil]; rfl
    | cons e c q' =>
      obtain ⟨p2, p3, p4, _, hn', _⟩ := od_step h2 hb
      have bx := bnd_len (bnd_app.1 (h2 ▸ bb)).2
      have p5 : ((d'.len : Int) == (b.len : Int)) = false := by simp; omega
      have p7 : IntKind.i64.wrap (0 + c) = c := by rw [Int.zero_add]; exact w64_id (by omega) (by omega)
      have p8 : IntKind.i64.wrap (k + c) = k + c := w64_id (by omega) (by omega)
      simp only [run0, run1, run2, run3, run4, run5, run6, run7, run8, run9, run10, run11, run12, run13, run14, run15, run16, run17, run18, run19, run20, run21, run22, reduceCtorEq, Nat.reduceEqDiff, Nat.reduceAdd, Nat.reduceSub, Nat.reduceLeDiff, indexAddrA, indexRefA, appendA, strA, Nat.reduceMul, Nat.zero_mul, Nat.reduceMod, Int.reduceEq, Int.reduceLT, Int.reduceLE, Nat.reduceLT, Nat.lt_irrefl, Nat.reduceBEq, tys0, tys1, tys2, tys3, tys4, tys5, tys6, tys7, tys8, tys9, tys10, Try.ntmps71, Try.results71, elems_length, p1, p2, p3, p4, p5, q3, q4, q6, f3, f4, Int.toNat_natCast, Int.natCast_nonneg]
      refine ⟨by kernel_rfl, ?_⟩
      refine RunL.callp rfl rfl ok_f51 (cmp_ok x e by1.2.1 bx.2.1) (by first | rfl | simp only [pureL, pureB, Bool.and_self, Bool.and_true, Bool.true_and, Od.elems_pure, Od.pay_pure, Od.av_pure]) rfl ?_
      simp only [run0, run1, run2, run3, run4, run5, run6, run7, run8, run9, run10, run11, run12, run13, run14, run15, run16, run17, run18, run19, run20, run21, run22, reduceCtorEq, Nat.reduceEqDiff, Nat.reduceAdd, Nat.reduceSub, Nat.reduceLeDiff, indexAddrA, indexRefA, appendA, strA, Nat.reduceMul, Nat.zero_mul, Nat.reduceMod, Int.reduceEq, Int.reduceLT, Int.reduceLE, Nat.reduceLT, Nat.lt_irrefl, Nat.reduceBEq, tys0, tys1, tys2, tys3, tys4, tys5, tys6, tys7, tys8, tys9, tys10, Try.ntmps71, Try.results71, elems_length, p1, p2, p3, p4, p5, q3, q4, q6, f3, f4, Int.toNat_natCast, Int.natCast_nonneg]
      rw [merge_cons] at h3
      rcases Int.lt_trichotomy (cmpT x e) 0 with hc | hc | hc
      · rw [if_neg (by omega), if_neg (by omega)] at h3
        have g1 : ¬ (0 ≤ cmpT x e) := by omega
        have g2 : cmpT x e ≤ 0 := by omega
        simp only [run0, run1, run2, run3, run4, run5, run6, run7, run8, run9, run10, run11, run12, run13, run14, run15, run16, run17, run18, run19, run20, run21, run22, reduceCtorEq, Nat.reduceEqDiff, Nat.reduceAdd, Nat.reduceSub, Nat.reduceLeDiff, indexAddrA, indexRefA, appendA, strA, Nat.reduceMul, Nat.zero_mul, Nat.reduceMod, Int.reduceEq, Int.reduceLT, Int.reduceLE, Nat.reduceLT, Nat.lt_irrefl, Nat.reduceBEq, tys0, tys1, tys2, tys3, tys4, tys5, tys6, tys7, tys8, tys9, tys10, Try.ntmps71, Try.results71, g1, g2, elems_length, p1, p2, p3, p4, p5, p7, q3, q4, q6, f3, f4, Int.toNat_natCast, Int.natCast_nonneg]
        refine ⟨by kernel_rfl, ⟨d, cons x k q, d'.app (cons e c nil), q', o.app (cons e c nil), X ++ [.box 53 [.sl false (elems e), .int .i64 c]]⟩, ⟨h1, hn'.symm, ?_, by simp only [len_app, len]; omega⟩, by simp [len], by simp only [len_app, elems_app, elems, pay, len]; repeat constructor, by simp only [len_app, elems_app, elems, pay, len]⟩
        rw [← h3, app_assoc]; rfl
      · rw [if_neg (by omega), if_pos hc] at h3
        have g1 : 0 ≤ cmpT x e := by omega
        have g2 : cmpT x e ≤ 0 := by omega
        simp only [run0, run1, run2, run3, run4, run5, run6, run7, run8, run9, run10, run11, run12, run13, run14, run15, run16, run17, run18, run19, run20, run21, run22, reduceCtorEq, Nat.reduceEqDiff, Nat.reduceAdd, Nat.reduceSub, Nat.reduceLeDiff, indexAddrA, indexRefA, appendA, strA, Nat.reduceMul, Nat.zero_mul, Nat.reduceMod, Int.reduceEq, Int.reduceLT, Int.reduceLE, Nat.reduceLT, Nat.lt_irrefl, Nat.reduceBEq, tys0, tys1, tys2, tys3, tys4, tys5, tys6, tys7, tys8, tys9, tys10, Try.ntmps71, Try.results71, g1, g2, elems_length, p1, p2, p3, p4, p5, p8, q3, q4, q6, f3, f4, Int.toNat_natCast, Int.natCast_nonneg]
        refine ⟨by kernel_rfl, ⟨d.app (cons x k nil), q, d'.app (cons e c nil), q', o.app (cons e (k + c) nil), X ++ [.box 53 [.sl false (elems e), .int .i64 (k + c)]]⟩, ⟨hn.symm, hn'.symm, ?_, by simp only [len_app, len]; omega⟩, by simp [len]; omega, by simp only [len_app, elems_app, elems, pay, len]; repeat constructor, by simp only [len_app, elems_app, elems, pay, len]⟩
        rw [← h3, app_assoc]; rfl
      · rw [if_pos hc] at h3
        have g1 : 0 ≤ cmpT x e := by omega
        have g2 : ¬ (cmpT x e ≤ 0) := by omega
        simp only [run0, run1, run2, run3, run4, run5, run6, run7, run8, run9, run10, run11, run12, run13, run14, run15, run16, run17, run18, run19, run20, run21, run22, reduceCtorEq, Nat.reduceEqDiff, Nat.reduceAdd, Nat.reduceSub, Nat.reduceLeDiff, indexAddrA, indexRefA, appendA, strA, Nat.reduceMul, Nat.zero_mul, Nat.reduceMod, Int.reduceEq, Int.reduceLT, Int.reduceLE, Nat.reduceLT, Nat.lt_irrefl, Nat.reduceBEq, tys0, tys1, tys2, tys3, tys4, tys5, tys6, tys7, tys8, tys9, tys10, Try.ntmps71, Try.results71, g1, g2, elems_length, p1, p2, p3, p4, p5, q3, q4, q6, f3, f4, Int.toNat_natCast, Int.natCast_nonneg]
        refine ⟨⟨d.app (cons x k nil), q, d', cons e c q', o.app (cons x k nil), X ++ [.box 53 [.sl false (elems x), .int .i64 k]]⟩, ⟨hn.symm, h2, ?_, by simp only [len_app, len]; omega⟩, by simp [len], by simp only [len_app, elems_app, elems, pay, len]; repeat constructor, by simp only [len_app, elems_app, elems, pay, len]⟩
        rw [← h3, app_assoc]; rfl

theorem meetT_sz (e : Od) (c : Int) : ∀ a : Od, (meetT e c a).sz ≤ a.sz + (e.sz + 1)
  | .nil => by simp [meetT, sz]
  | .cons x k r => by
    have := meetT_sz e c r
    simp only [meetT]
    split
    · simp only [sz]; omega
    · split
      · simp only [sz]; omega
      · simp only [sz]; omega

structure MtS where
  d : Od
  r : Od
  o : Od
  t : Bool
  X : List AObj

theorem odMeet_ok (a e : Od) (c : Int) (ha : a.sz ≤ 1048576) {m : Int} (hm : m ≤ 2305843009213693952) (ba : bnd m a) (be : bnd m (.cons e c .nil)) : Ct Try.prog 88 [av a, .agg [.sl false (elems e), .int .i64 c]] [] (av (meetT e c a)) [] := by
  have hla := len_le a
  have bx := bnd_len be
  refine Ct.by_ hmix [] Try.func88 rfl ?_
  simp only [run0, run1, run2, run3, run4, run5, run6, run7, run8, run9, run10, run11, run12, run13, run14, run15, run16, run17, run18, run19, run20, run21, run22, reduceCtorEq, Nat.reduceEqDiff, Nat.reduceAdd, Nat.reduceSub, Nat.reduceLeDiff, indexAddrA, indexRefA, appendA, strA, Nat.reduceMul, Nat.zero_mul, Nat.reduceMod, Int.reduceEq, Int.reduceLT, Int.reduceLE, Nat.reduceLT, Nat.lt_irrefl, Nat.reduceBEq, tys0, tys1, tys2, tys3, tys4, tys5, tys6, tys7, tys8, tys9, tys10, Try.ntmps88, Try.results88, av, elems_length]
  refine AWp.nilB 3 0 53 2 rfl rfl ?_
  simp only [run0, run1, run2, run3, run4, run5, run6, run7, run8, run9, run10, run11, run12, run13, run14, run15, run16, run17, run18, run19, run20, run21, run22, reduceCtorEq, Nat.reduceEqDiff, Nat.reduceAdd, Nat.reduceSub, Nat.reduceLeDiff, indexAddrA, indexRefA, appendA, strA, Nat.reduceMul, Nat.zero_mul, Nat.reduceMod, Int.reduceEq, Int.reduceLT, Int.reduceLE, Nat.reduceLT, Nat.lt_irrefl, Nat.reduceBEq, tys0, tys1, tys2, tys3, tys4, tys5, tys6, tys7, tys8, tys9, tys10, Try.ntmps88, Try.results88]
  refine AWp.loop_inv (ι := MtS) (fun p => ⟨[.agg [.sl false (elems a)], .agg [.sl false (elems e), .int .i64 c], .ptr 0 0, .ptr 1 0, .ptr 2 0, .ptr 3 0, .bool p.t, .junk, .junk, .junk, .junk, .junk, .sl false (elems a), .int .i64 a.len, .int .i64 p.d.len, .junk, .junk, .junk, .junk, .junk, .junk, .junk, .junk, .junk, .junk, .junk, .junk, .junk, .junk, .junk, .junk, .junk, .junk, .junk, .junk, .junk, .junk, .junk, .junk, .junk, .junk, .junk, .junk, .junk, .junk, .junk, .junk, .junk, .junk, .junk, .junk, .junk, .junk, .junk, .junk, .junk, .junk, .junk, .junk, .junk, .junk, .junk, .junk, .junk, .junk, .junk],
      .box 29 [.sl false (elems a)] :: .box 53 [.sl false (elems e), .int .i64 c] :: .box 29 [nilV] :: .box 29 [.ref 4 [] p.o.len p.o.len] :: .vec 53 2 p.o.len (elems p.o) :: p.X⟩)
    (fun p => a = p.d.app p.r ∧ p.o.app (if p.t then p.r else meetT e c p.r) = meetT e c a ∧ p.o.len ≤ p.d.len + p.t.toNat) (fun p => p.r.len) ⟨.nil, a, .nil, false, []⟩ ⟨rfl, rfl, Nat.zero_le _⟩ ⟨by simp only [len, Int.natCast_zero]; repeat constructor, rfl⟩ ?_
  rintro ⟨d, r, o, t, X⟩ ⟨h1, h2, h3⟩
  simp only at h1 h2 h3
  refine W.sound hmix (E := []) ?_
  have hda : d.len + r.len = a.len := by rw [h1, len_app]
  have htn : t.toNat ≤ 1 := by cases t <;> simp
  have f3 : o.len ≤ 137438953471 := by omega
  have f5 : o.len ≤ 137438953470 := by omega
  have f6 : noOwn (elems o ++ [.agg [.sl false (elems e), .int .i64 c]]) = true := by
    have := elems_noOwn (o.app (cons e c nil)); rw [elems_app] at this; exact this
  have f4 : noOwn (elems o) = true := elems_noOwn o
  cases r with
  | nil =>
    obtain ⟨e1, rfl⟩ := od_end h1
    cases t
    · simp only [run0, run1, run2, run3, run4, run5, run6, run7, run8, run9, run10, run11, run12, run13, run14, run15, run16, run17, run18, run19, run20, run21, run22, reduceCtorEq, Nat.reduceEqDiff, Nat.reduceAdd, Nat.reduceSub, Nat.reduceLeDiff, indexAddrA, indexRefA, appendA, strA, Nat.reduceMul, Nat.zero_mul, Nat.reduceMod, Int.reduceEq, Int.reduceLT, Int.reduceLE, Nat.reduceLT, Nat.lt_irrefl, Nat.reduceBEq, tys0, tys1, tys2, tys3, tys4, tys5, tys6, tys7, tys8, tys9, tys10, Try.ntmps88, Try.results88, elems_length, e1, f3, f4]
      have h5 : meetT e c a = o.app (cons e c nil) := h2.symm
      rw [h5]
      exact Fin.value (Vw.agg (.cons (Vw_elems (T := 53) rfl (by rw [elems_app]; rfl) (by rw [len_app]; rfl)) .nil))
    · simp only [run0, run1, run2, run3, run4, run5, run6, run7, run8, run9, run10, run11, run12, run13, run14, run15, run16, run17, run18, run19, run20, run21, run22, reduceCtorEq, Nat.reduceEqDiff, Nat.reduceAdd, Nat.reduceSub, Nat.reduceLeDiff, indexAddrA, indexRefA, appendA, strA, Nat.reduceMul, Nat.zero_mul, Nat.reduceMod, Int.reduceEq, Int.reduceLT, Int.reduceLE, Nat.reduceLT, Nat.lt_irrefl, Nat.reduceBEq, tys0, tys1, tys2, tys3, tys4, tys5, tys6, tys7, tys8, tys9, tys10, Try.ntmps88, Try.results88, elems_length, e1]
      have h5 : meetT e c a = o := by rw [← h2]; exact app_nil o
      rw [h5]
      exact Fin.value (Vw.agg (.cons (Vw_elems (T := 53) rfl rfl rfl) .nil))
  | cons x k q =>
    obtain ⟨e1, e2, e5, _, hn, _⟩ := od_step h1 ha
    have by1 := bnd_len (bnd_app.1 (h1 ▸ ba)).2
    have w1 : IntKind.i64.wrap (c + k) = c + k := w64_id (by omega) (by omega)
    simp only [run0, run1, run2, run3, run4, run5, run6, run7, run8, run9, run10, run11, run12, run13, run14, run15, run16, run17, run18, run19, run20, run21, run22, reduceCtorEq, Nat.reduceEqDiff, Nat.reduceAdd, Nat.reduceSub, Nat.reduceLeDiff, indexAddrA, indexRefA, appendA, strA, Nat.reduceMul, Nat.zero_mul, Nat.reduceMod, Int.reduceEq, Int.reduceLT, Int.reduceLE, Nat.reduceLT, Nat.lt_irrefl, Nat.reduceBEq, tys0, tys1, tys2, tys3, tys4, tys5, tys6, tys7, tys8, tys9, tys10, Try.ntmps88, Try.results88, elems_length, e1, e2, Int.toNat_natCast, Int.natCast_nonneg]
    refine RunL.callp rfl rfl ok_f49 (odCmp_ok x e by1.2.1 bx.2.1 by1.1 bx.1) (by first | rfl | simp only [pureL, pureB, Bool.and_self, Bool.and_true, Bool.true_and, Od.elems_pure, Od.pay_pure, Od.av_pure]) rfl ?_
    cases t
    · simp only [Bool.false_eq_true, if_false, meetT] at h2
      rcases Int.lt_trichotomy (cmpT x e) 0 with hc | hc | hc
      · rw [if_neg (by omega), if_neg (by omega)] at h2
        have g1 : cmpT x e ≤ 0 := by omega
        have g2 : (cmpT x e == 0) = false := by simp; omega
        simp only [run0, run1, run2, run3, run4, run5, run6, run7, run8, run9, run10, run11, run12, run13, run14, run15, run16, run17, run18, run19, run20, run21, run22, reduceCtorEq, Nat.reduceEqDiff, Nat.reduceAdd, Nat.reduceSub, Nat.reduceLeDiff, indexAddrA, indexRefA, appendA, strA, Nat.reduceMul, Nat.zero_mul, Nat.reduceMod, Int.reduceEq, Int.reduceLT, Int.reduceLE, Nat.reduceLT, Nat.lt_irrefl, Nat.reduceBEq, tys0, tys1, tys2, tys3, tys4, tys5, tys6, tys7, tys8, tys9, tys10, Try.ntmps88, Try.results88, g1, g2, e5, f3, f4, f5, f6, elems_length]
        refine ⟨⟨d.app (cons x k nil), q, o.app (cons e c (cons x k nil)), true, X ++ [.box 53 [.sl false (elems x), .int .i64 k]]⟩, ⟨hn.symm, ?_, by simp only [len_app, len, Bool.toNat] at h3 ⊢; simp at h3; simp; omega⟩, by simp [len], by simp only [len_app, elems_app, elems, pay, len]; repeat constructor, by simp only [len_app, elems_app, elems, pay, len]⟩
        rw [← h2, app_assoc]; rfl
      · rw [if_neg (by omega), if_pos hc] at h2
        have g1 : cmpT x e ≤ 0 := by omega
        have g2 : (cmpT x e == 0) = true := by simp; omega
        simp only [run0, run1, run2, run3, run4, run5, run6, run7, run8, run9, run10, run11, run12, run13, run14, run15, run16, run17, run18, run19, run20, run21, run22, reduceCtorEq, Nat.reduceEqDiff, Nat.reduceAdd, Nat.reduceSub, Nat.reduceLeDiff, indexAddrA, indexRefA, appendA, strA, Nat.reduceMul, Nat.zero_mul, Nat.reduceMod, Int.reduceEq, Int.reduceLT, Int.reduceLE, Nat.reduceLT, Nat.lt_irrefl, Nat.reduceBEq, tys0, tys1, tys2, tys3, tys4, tys5, tys6, tys7, tys8, tys9, tys10, Try.ntmps88, Try.results88, g1, g2, w1, e5, f3, f4, f5, elems_length]
        refine ⟨⟨d.app (cons x k nil), q, o.app (cons e (c + k) nil), true, X ++ [.box 53 [.sl false (elems x), .int .i64 k]]⟩, ⟨hn.symm, ?_, by simp only [len_app, len, Bool.toNat] at h3 ⊢; simp at h3; simp; omega⟩, by simp [len], by simp only [len_app, elems_app, elems, pay, len]; repeat constructor, by simp only [len_app, elems_app, elems, pay, len]⟩
        rw [← h2, app_assoc]; rfl
      · rw [if_pos hc] at h2
        have g1 : ¬ (cmpT x e ≤ 0) := by omega
        simp only [run0, run1, run2, run3, run4, run5, run6, run7, run8, run9, run10, run11, run12, run13, run14, run15, run16, run17, run18, run19, run20, run21, run22, reduceCtorEq, Nat.reduceEqDiff, Nat.reduceAdd, Nat.reduceSub, Nat.reduceLeDiff, indexAddrA, indexRefA, appendA, strA, Nat.reduceMul, Nat.zero_mul, Nat.reduceMod, Int.reduceEq, Int.reduceLT, Int.reduceLE, Nat.reduceLT, Nat.lt_irrefl, Nat.reduceBEq, tys0, tys1, tys2, tys3, tys4, tys5, tys6, tys7, tys8, tys9, tys10, Try.ntmps88, Try.results88, g1, e5, f3, f4, f5, elems_length]
        refine ⟨⟨d.app (cons x k nil), q, o.app (cons x k nil), false, X ++ [.box 53 [.sl false (elems x), .int .i64 k]]⟩, ⟨hn.symm, ?_, by simp only [len_app, len, Bool.toNat] at h3 ⊢; simp at h3; simp; omega⟩, by simp [len], by simp only [len_app, elems_app, elems, pay, len]; repeat constructor, by simp only [len_app, elems_app, elems, pay, len]⟩
        rw [← h2, app_assoc]; rfl
    · simp only [run0, run1, run2, run3, run4, run5, run6, run7, run8, run9, run10, run11, run12, run13, run14, run15, run16, run17, run18, run19, run20, run21, run22, reduceCtorEq, Nat.reduceEqDiff, Nat.reduceAdd, Nat.reduceSub, Nat.reduceLeDiff, indexAddrA, indexRefA, appendA, strA, Nat.reduceMul, Nat.zero_mul, Nat.reduceMod, Int.reduceEq, Int.reduceLT, Int.reduceLE, Nat.reduceLT, Nat.lt_irrefl, Nat.reduceBEq, tys0, tys1, tys2, tys3, tys4, tys5, tys6, tys7, tys8, tys9, tys10, Try.ntmps88, Try.results88, e5, f3, f4, f5, elems_length]
      refine ⟨⟨d.app (cons x k nil), q, o.app (cons x k nil), true, X ++ [.box 53 [.sl false (elems x), .int .i64 k]]⟩, ⟨hn.symm, ?_, by simp only [len_app, len, Bool.toNat] at h3 ⊢; simp at h3; simp; omega⟩, by simp [len], by simp only [len_app, elems_app, elems, pay, len]; repeat constructor, by simp only [len_app, elems_app, elems, pay, len]⟩
      rw [← h2, app_assoc]; rfl

theorem meetT_bnd {M m : Int} {e : Od} {c : Int} (h0 : 0 ≤ m) (be : bnd m (.cons e c .nil)) (hM : 0 ≤ M) : ∀ {a : Od}, bnd M a → bnd (M + m) (meetT e c a)
  | .nil, _ => ⟨be.1, be.2.1, by have := be.2.2.1; omega, by have := be.2.2.2.1; omega, trivial⟩
  | .cons x k r, h => by
    have h1 := bnd_mono (m' := M + m) (by omega) h
    have h2 := meetT_bnd h0 be hM h.2.2.2.2
    have h3 := h.2.2.1
    have h4 := h.2.2.2.1
    have h5 := be.2.2.1
    have h6 := be.2.2.2.1
    simp only [meetT]
    split
    · exact ⟨h.1, h.2.1, by omega, by omega, h2⟩
    · split
      · exact ⟨be.1, be.2.1, by omega, by omega, h1.2.2.2.2⟩
      · exact ⟨be.1, be.2.1, by omega, by omega, h1⟩

structure JnS where
  d : Od
  r : Od
  o : Od
  X : List AObj

theorem odJoin_ok (a b : Od) (hab : a.sz + b.sz ≤ 1048576) {m : Int} (h0 : 0 ≤ m) (hm : m ≤ 1099511627776) (ba : bnd m a) (bb : bnd m b) : Ct Try.prog 70 [av a, av b] [] (av (joinT a b)) [] := by
  have hla := len_le a
  have hlb := len_le b
  have hb : b.sz ≤ 1048576 := by omega
  refine Ct.by_ hmix [] Try.func70 rfl ?_
  simp only [run0, run1, run2, run3, run4, run5, run6, run7, run8, run9, run10, run11, run12, run13, run14, run15, run16, run17, run18, run19, run20, run21, run22, reduceCtorEq, Nat.reduceEqDiff, Nat.reduceAdd, Nat.reduceSub, Nat.reduceLeDiff, indexAddrA, indexRefA, appendA, strA, Nat.reduceMul, Nat.zero_mul, Nat.reduceMod, Int.reduceEq, Int.reduceLT, Int.reduceLE, Nat.reduceLT, Nat.lt_irrefl, Nat.reduceBEq, tys0, tys1, tys2, tys3, tys4, tys5, tys6, tys7, tys8, tys9, tys10, Try.ntmps70, Try.results70, av, elems_length]
  refine AWp.loop_inv (ι := JnS) (fun p => ⟨[.agg [.sl false (elems a)], .agg [.sl false (elems b)], .ptr 0 0, .ptr 1 0, .ptr 2 0, .ptr 3 0, .junk, .junk, .junk, .junk, .sl false (elems b), .int .i64 b.len, .int .i64 p.d.len, .junk, .junk, .junk, .junk, .junk, .junk, .junk, .junk],
      .box 29 [.sl false (elems a)] :: .box 29 [.sl false (elems b)] :: .box 29 [nilV] :: .box 29 [.sl false (elems p.o)] :: p.X⟩)
    (fun p => b = p.d.app p.r ∧ joinT p.o p.r = joinT a b ∧ p.o.sz ≤ a.sz + p.d.sz ∧ bnd (m + m * p.d.len) p.o) (fun p => p.r.len) ⟨.nil, b, a, []⟩ ⟨rfl, rfl, Nat.le_refl _, bnd_mono (by simp [len]) ba⟩ ⟨by simp only [len, Int.natCast_zero]; repeat constructor, rfl⟩ ?_
  rintro ⟨d, r, o, X⟩ ⟨h1, h2, h3, h4⟩
  simp only at h1 h2 h3 h4
  refine W.sound hmix (E := []) ?_
  have hds : b.sz = d.sz + r.sz := by rw [h1, sz_app]
  cases r with
  | nil =>
    obtain ⟨e1, rfl⟩ := od_end h1
    simp only [run0, run1, run2, run3, run4, run5, run6, run7, run8, run9, run10, run11, run12, run13, run14, run15, run16, run17, run18, run19, run20, run21, run22, reduceCtorEq, Nat.reduceEqDiff, Nat.reduceAdd, Nat.reduceSub, Nat.reduceLeDiff, indexAddrA, indexRefA, appendA, strA, Nat.reduceMul, Nat.zero_mul, Nat.reduceMod, Int.reduceEq, Int.reduceLT, Int.reduceLE, Nat.reduceLT, Nat.lt_irrefl, Nat.reduceBEq, tys0, tys1, tys2, tys3, tys4, tys5, tys6, tys7, tys8, tys9, tys10, Try.ntmps70, Try.results70, elems_length, e1]
    exact Fin.eq (by rw [← h2]; rfl) (by simp only [pureB, pureL, elems_pure, Bool.and_self])
  | cons e c q =>
    obtain ⟨e1, e2, e5, hlt, hn, _⟩ := od_step h1 hb
    have be : bnd m (.cons e c .nil) := by
      have := (bnd_app.1 (h1 ▸ bb)).2
      exact ⟨this.1, this.2.1, this.2.2.1, this.2.2.2.1, trivial⟩
    have hd1 : (d.app (cons e c nil)).len = d.len + 1 := by rw [len_app]; rfl
    have hdb : d.len + (q.len + 1) = b.len := by rw [h1, len_app]; rfl
    have hdm : m * (d.len : Int) ≤ 1099511627776 * 1048576 := Int.mul_le_mul hm (by omega) (by omega) (by omega)
    have hd0 : 0 ≤ m * (d.len : Int) := Int.mul_nonneg h0 (by omega)
    simp only [sz] at hds
    have hc := odMeet_ok o e c (by omega) (m := m + m * d.len) (by omega) h4 (bnd_mono (by omega) be)
    simp only [run0, run1, run2, run3, run4, run5, run6, run7, run8, run9, run10, run11, run12, run13, run14, run15, run16, run17, run18, run19, run20, run21, run22, reduceCtorEq, Nat.reduceEqDiff, Nat.reduceAdd, Nat.reduceSub, Nat.reduceLeDiff, indexAddrA, indexRefA, appendA, strA, Nat.reduceMul, Nat.zero_mul, Nat.reduceMod, Int.reduceEq, Int.reduceLT, Int.reduceLE, Nat.reduceLT, Nat.lt_irrefl, Nat.reduceBEq, tys0, tys1, tys2, tys3, tys4, tys5, tys6, tys7, tys8, tys9, tys10, Try.ntmps70, Try.results70, elems_length, e1, e2, Int.toNat_natCast, Int.natCast_nonneg]
    refine RunL.callp rfl rfl ok_f88 (hc) (by first | rfl | simp only [pureL, pureB, Bool.and_self, Bool.and_true, Bool.true_and, Od.elems_pure, Od.pay_pure, Od.av_pure]) rfl ?_
    simp only [run0, run1, run2, run3, run4, run5, run6, run7, run8, run9, run10, run11, run12, run13, run14, run15, run16, run17, run18, run19, run20, run21, run22, reduceCtorEq, Nat.reduceEqDiff, Nat.reduceAdd, Nat.reduceSub, Nat.reduceLeDiff, indexAddrA, indexRefA, appendA, strA, Nat.reduceMul, Nat.zero_mul, Nat.reduceMod, Int.reduceEq, Int.reduceLT, Int.reduceLE, Nat.reduceLT, Nat.lt_irrefl, Nat.reduceBEq, tys0, tys1, tys2, tys3, tys4, tys5, tys6, tys7, tys8, tys9, tys10, Try.ntmps70, Try.results70, av, e5]
    refine ⟨⟨d.app (cons e c nil), q, meetT e c o, X ++ [.box 53 [.sl false (elems e), .int .i64 c]]⟩, ⟨hn.symm, by rw [← joinT_cons]; exact h2, ?_, ?_⟩, by simp [len], by repeat constructor, rfl⟩
    · have := meetT_sz e c o
      simp only [sz_app, sz]; omega
    · have hh := meetT_bnd h0 be (by omega) h4
      have hmm : m + m * ((d.len + 1 : Nat) : Int) = m + m * (d.len : Int) + m := by rw [Int.natCast_add, Int.mul_add]; omega
      simp only [hd1, hmm]; exact hh

end Go.Proofs.Ytcgnpijbdgbffaa
