/-
  Texts joined in one: HG, H10, K21, K22, K23, I1, H11, I2, H12, K24, K25, K26, K27, K28, K29, SB1, SB2, H13, PH1.
-/
import Derived.Test.YtphmkhaboghagaaMHydraOC
import Derived.Test.YtphmkhaboghagaaMHydraOB
import Derived.Maps.Keyed
import Derived.WideKeyPair
import Derived.ChangeMaps5
import Derived.Lib.Builder
import Derived.Lib.UnsafeStr
import Derived.Laws.Externs
/-
  Ordinals: natural sums and meetings of terms: the walks alone.
-/
namespace Go.Proofs.Ytphmkhaboghagaa
open Go K Od
set_option linter.unusedSimpArgs false
set_option linter.unusedVariables false
set_option maxHeartbeats 1600000
set_option maxRecDepth 8000

def powT (a : Od) : Od := .cons a 1 .nil
theorem power_ok (a : Od) : Ct Try.prog 114 [av a, .int .i64 1] [] (av (powT a)) [] := by
  refine Ct.by_ hmix [] Try.func114 rfl ?_
  have w1 : ((1 : Int) == 0) = false := rfl
  simp only [run0, run1, run2, run3, run4, run5, run6, run7, run8, run9, run10, run11, run12, run13, run14, run15, run16, run17, run18, run19, run20, run21, run22, reduceCtorEq, Nat.reduceEqDiff, Nat.reduceAdd, Nat.reduceSub, Nat.reduceLeDiff, indexAddrA, indexRefA, appendA, strA, Nat.reduceMul, Nat.zero_mul, Nat.reduceMod, Int.reduceEq, Int.reduceLT, Int.reduceLE, Nat.reduceLT, Nat.lt_irrefl, Nat.reduceBEq, tys0, tys1, tys2, tys3, tys4, tys5, tys6, tys7, tys8, tys9, tys10, tys11, tys12, tys13, tys14, tys15, tys16, tys17, tys18, Try.ntmps114, Try.results114, av, w1]
  exact Fin.eq rfl (av_pure (powT a))
theorem bnd_len {m : Int} {x q : Od} {k : Int} (h : bnd m (.cons x k q)) : rng x ∧ x.sz ≤ 1048576 ∧ -m ≤ k ∧ k ≤ m := ⟨h.1, h.2.1, h.2.2.1, h.2.2.2.1⟩

theorem elems_from {a d r : Od} (h : a = d.app r) : (elems a).drop d.len = elems r := by rw [h]; exact elems_drop d r
theorem elems_from1 {a d e r : Od} {c : Int} (h : a = d.app (.cons e c r)) : (elems a).drop (d.len + 1) = elems r := by
  have : a = (d.app (.cons e c .nil)).app r := by rw [app_assoc]; exact h
  have h2 := elems_from this
  rw [len_app] at h2; exact h2

theorem take_all (a : Od) : (elems a).take a.len = elems a := List.take_of_length_le (by rw [elems_length]; exact Nat.le_refl _)

theorem elems_all (a : Od) : ((elems a).all fun z => z.cells.length == 2) = true := by
  rw [List.all_eq_true]; intro y hy; rw [elems_cells a y hy]; rfl
theorem elems_mem : ∀ (a : Od) (x : AV), x ∈ elems a → ∃ (e : Od) (c : Int), x = .agg [.sl false (elems e), .int .i64 c]
  | .nil, x, h => by simp [elems] at h
  | .cons e c r, x, h => by
    simp only [elems, List.mem_cons] at h
    rcases h with rfl | h
    · exact ⟨e, c, rfl⟩
    · exact elems_mem r x h
theorem Vw_elems {L : List AObj} {id g n : Nat} {T : TypeId} {a : Od} {es : List AV} (hL : L[id]? = some (.vec T 2 g es)) (he : es = elems a) (hn : n = a.len) : Vw L (.ref id [] g n) (.sl false (elems a)) := by
  subst he hn
  have := Vw.refPur (o := false) hL (n := a.len) (by rw [elems_length]; exact Nat.le_refl _) (fun e he c hc => by
    obtain ⟨e', c', rfl⟩ := elems_mem a e he
    simp only [AV.cells, List.mem_cons, List.not_mem_nil, or_false] at hc
    rcases hc with rfl | rfl
    · exact ⟨.of (by simp only [pureB, elems_pure]), fun xs h => by cases h⟩
    · exact ⟨.int _ _, fun xs h => by cases h⟩)
  rwa [take_all] at this

theorem nil_merge (b : Od) : mergeT .nil b = b := by rw [mergeT]

structure NsS where
  d : Od
  r : Od
  d' : Od
  r' : Od
  o : Od
  X : List AObj

theorem naturalSum_ok (a b : Od) (ha : a.sz ≤ 1048576) (hb : b.sz ≤ 1048576) {m : Int} (hm : m ≤ 2305843009213693952) (ba : bnd m a) (bb : bnd m b) : Ct Try.prog 113 [av a, av b] [] (av (mergeT a b)) [] := by
  have hla := len_le a
  have hlb := len_le b
  refine Ct.by_ hmix [] Try.func113 rfl ?_
  simp only [run0, run1, run2, run3, run4, run5, run6, run7, run8, run9, run10, run11, run12, run13, run14, run15, run16, run17, run18, run19, run20, run21, run22, reduceCtorEq, Nat.reduceEqDiff, Nat.reduceAdd, Nat.reduceSub, Nat.reduceLeDiff, indexAddrA, indexRefA, appendA, strA, Nat.reduceMul, Nat.zero_mul, Nat.reduceMod, Int.reduceEq, Int.reduceLT, Int.reduceLE, Nat.reduceLT, Nat.lt_irrefl, Nat.reduceBEq, tys0, tys1, tys2, tys3, tys4, tys5, tys6, tys7, tys8, tys9, tys10, tys11, tys12, tys13, tys14, tys15, tys16, tys17, tys18, Try.ntmps113, Try.results113, av]
  refine AWp.nilB 3 0 88 2 rfl rfl ?_
  simp only [run0, run1, run2, run3, run4, run5, run6, run7, run8, run9, run10, run11, run12, run13, run14, run15, run16, run17, run18, run19, run20, run21, run22, reduceCtorEq, Nat.reduceEqDiff, Nat.reduceAdd, Nat.reduceSub, Nat.reduceLeDiff, indexAddrA, indexRefA, appendA, strA, Nat.reduceMul, Nat.zero_mul, Nat.reduceMod, Int.reduceEq, Int.reduceLT, Int.reduceLE, Nat.reduceLT, Nat.lt_irrefl, Nat.reduceBEq, tys0, tys1, tys2, tys3, tys4, tys5, tys6, tys7, tys8, tys9, tys10, tys11, tys12, tys13, tys14, tys15, tys16, tys17, tys18, Try.ntmps113, Try.results113]
  refine AWp.loop_inv (ι := NsS) (fun p => ⟨[.agg [.sl false (elems a)], .agg [.sl false (elems b)], .ptr 0 0, .ptr 1 0, .ptr 2 0, .ptr 3 0, .int .i64 p.d.len, .int .i64 p.d'.len, .junk, .junk, .junk, .junk, .junk, .junk, .junk, .junk, .junk, .junk, .junk, .junk, .junk, .junk, .junk, .junk, .junk, .junk, .junk, .junk, .junk, .junk, .junk, .junk, .junk, .junk, .junk, .junk, .junk, .junk, .junk, .junk, .junk, .junk, .junk, .junk, .junk, .junk, .junk, .junk, .junk, .junk, .junk, .junk, .junk, .junk, .junk, .junk, .junk, .junk, .junk, .junk, .junk, .junk, .junk, .junk, .junk, .junk, .junk, .junk, .junk, .junk, .junk, .junk, .junk, .junk, .junk, .junk, .junk, .junk, .junk, .junk, .junk, .junk, .junk, .junk, .junk],
      .box 24 [.sl false (elems a)] :: .box 24 [.sl false (elems b)] :: .box 24 [nilV] :: .box 24 [.ref 4 [] p.o.len p.o.len] :: .vec 88 2 p.o.len (elems p.o) :: p.X⟩)
    (fun p => a = p.d.app p.r ∧ b = p.d'.app p.r' ∧ p.o.app (mergeT p.r p.r') = mergeT a b ∧ p.o.len ≤ p.d.len + p.d'.len) (fun p => p.r.len + p.r'.len) ⟨.nil, a, .nil, b, .nil, []⟩ ⟨rfl, rfl, rfl, Nat.le_refl _⟩ ⟨by simp only [len, Int.natCast_zero]; repeat constructor, rfl⟩ ?_
  rintro ⟨d, r, d', r', o, X⟩ ⟨h1, h2, h3, h4⟩
  simp only at h1 h2 h3 h4
  refine W.sound hmix (E := []) ?_
  have hda : d.len + r.len = a.len := by rw [h1, len_app]
  have hdb : d'.len + r'.len = b.len := by rw [h2, len_app]
  have f3 : o.len ≤ 137438953471 := by omega
  have f4 : noOwn (elems o) = true := elems_noOwn o
  cases r with
  | nil =>
    have hda' : d.len = a.len := by simpa [len] using hda
    have p1 : ¬ ((d.len : Int) < (a.len : Int)) := by omega
    cases r' with
    | nil =>
      have hdb' : d'.len = b.len := by simpa [len] using hdb
      have p2 : ¬ ((d'.len : Int) < (b.len : Int)) := by omega
      simp only [run0, run1, run2, run3, run4, run5, run6, run7, run8, run9, run10, run11, run12, run13, run14, run15, run16, run17, run18, run19, run20, run21, run22, reduceCtorEq, Nat.reduceEqDiff, Nat.reduceAdd, Nat.reduceSub, Nat.reduceLeDiff, indexAddrA, indexRefA, appendA, strA, Nat.reduceMul, Nat.zero_mul, Nat.reduceMod, Int.reduceEq, Int.reduceLT, Int.reduceLE, Nat.reduceLT, Nat.lt_irrefl, Nat.reduceBEq, tys0, tys1, tys2, tys3, tys4, tys5, tys6, tys7, tys8, tys9, tys10, tys11, tys12, tys13, tys14, tys15, tys16, tys17, tys18, Try.ntmps113, Try.results113, elems_length, p1, p2]
      have h5 : mergeT a b = o := by rw [← h3, merge_nil, app_nil]
      rw [h5]
      exact Fin.value (Vw.agg (.cons (Vw_elems (T := 88) rfl rfl rfl) .nil))
    | cons e c q' =>
      obtain ⟨p2, p3, p4, _, hn', _⟩ := od_step h2 hb
      have bx := bnd_len (bnd_app.1 (h2 ▸ bb)).2
      have p5 : ((d'.len : Int) == (b.len : Int)) = false := by simp; omega
      have p6 : ((d.len : Int) == (a.len : Int)) = true := by simp; omega
      have p7 : IntKind.i64.wrap (0 + c) = c := by rw [Int.zero_add]; exact w64_id (by omega) (by omega)
      simp only [run0, run1, run2, run3, run4, run5, run6, run7, run8, run9, run10, run11, run12, run13, run14, run15, run16, run17, run18, run19, run20, run21, run22, reduceCtorEq, Nat.reduceEqDiff, Nat.reduceAdd, Nat.reduceSub, Nat.reduceLeDiff, indexAddrA, indexRefA, appendA, strA, Nat.reduceMul, Nat.zero_mul, Nat.reduceMod, Int.reduceEq, Int.reduceLT, Int.reduceLE, Nat.reduceLT, Nat.lt_irrefl, Nat.reduceBEq, tys0, tys1, tys2, tys3, tys4, tys5, tys6, tys7, tys8, tys9, tys10, tys11, tys12, tys13, tys14, tys15, tys16, tys17, tys18, Try.ntmps113, Try.results113, elems_length, p1, p2, p3, p4, p5, p6, p7, f3, f4, Int.toNat_natCast, Int.natCast_nonneg]
      refine ⟨by kernel_rfl, ⟨d, nil, d'.app (cons e c nil), q', o.app (cons e c nil), X ++ [.box 88 [.sl false (elems e), .int .i64 c]]⟩, ⟨h1, hn'.symm, ?_, by simp only [len_app, len]; omega⟩, by simp [len], by simp only [len_app, elems_app, elems, pay, len]; repeat constructor, by simp only [len_app, elems_app, elems, pay, len]⟩
      rw [← h3, app_assoc, nil_merge, nil_merge]; rfl
  | cons x k q =>
    obtain ⟨p1, q3, q4, _, hn, _⟩ := od_step h1 ha
    have by1 := bnd_len (bnd_app.1 (h1 ▸ ba)).2
    have q6 : ((d.len : Int) == (a.len : Int)) = false := by simp; omega
    cases r' with
    | nil =>
      have hdb' : d'.len = b.len := by simpa [len] using hdb
      have p5 : ((d'.len : Int) == (b.len : Int)) = true := by simp; omega
      simp only [run0, run1, run2, run3, run4, run5, run6, run7, run8, run9, run10, run11, run12, run13, run14, run15, run16, run17, run18, run19, run20, run21, run22, reduceCtorEq, Nat.reduceEqDiff, Nat.reduceAdd, Nat.reduceSub, Nat.reduceLeDiff, indexAddrA, indexRefA, appendA, strA, Nat.reduceMul, Nat.zero_mul, Nat.reduceMod, Int.reduceEq, Int.reduceLT, Int.reduceLE, Nat.reduceLT, Nat.lt_irrefl, Nat.reduceBEq, tys0, tys1, tys2, tys3, tys4, tys5, tys6, tys7, tys8, tys9, tys10, tys11, tys12, tys13, tys14, tys15, tys16, tys17, tys18, Try.ntmps113, Try.results113, elems_length, p1, q3, q4, p5, q6, f3, f4, Int.toNat_natCast, Int.natCast_nonneg]
      refine ⟨⟨d.app (cons x k nil), q, d', nil, o.app (cons x k nil), X ++ [.box 88 [.sl false (elems x), .int .i64 k]]⟩, ⟨hn.symm, h2, ?_, by simp only [len_app, len]; omega⟩, by simp [len], by simp only [len_app, elems_app, elems, pay, len]; repeat constructor, by simp only [len_app, elems_app, elems, pay, len]⟩
      rw [← h3, app_assoc, merge_nil, merge_nil]; rfl
    | cons e c q' =>
      obtain ⟨p2, p3, p4, _, hn', _⟩ := od_step h2 hb
      have bx := bnd_len (bnd_app.1 (h2 ▸ bb)).2
      have p5 : ((d'.len : Int) == (b.len : Int)) = false := by simp; omega
      have p7 : IntKind.i64.wrap (0 + c) = c := by rw [Int.zero_add]; exact w64_id (by omega) (by omega)
      have p8 : IntKind.i64.wrap (k + c) = k + c := w64_id (by omega) (by omega)
      simp only [run0, run1, run2, run3, run4, run5, run6, run7, run8, run9, run10, run11, run12, run13, run14, run15, run16, run17, run18, run19, run20, run21, run22, reduceCtorEq, Nat.reduceEqDiff, Nat.reduceAdd, Nat.reduceSub, Nat.reduceLeDiff, indexAddrA, indexRefA, appendA, strA, Nat.reduceMul, Nat.zero_mul, Nat.reduceMod, Int.reduceEq, Int.reduceLT, Int.reduceLE, Nat.reduceLT, Nat.lt_irrefl, Nat.reduceBEq, tys0, tys1, tys2, tys3, tys4, tys5, tys6, tys7, tys8, tys9, tys10, tys11, tys12, tys13, tys14, tys15, tys16, tys17, tys18, Try.ntmps113, Try.results113, elems_length, p1, p2, p3, p4, p5, q3, q4, q6, f3, f4, Int.toNat_natCast, Int.natCast_nonneg]
      refine ⟨by kernel_rfl, ?_⟩
      refine RunL.callp rfl rfl ok_f71 (cmp_ok x e by1.2.1 bx.2.1) (by first | rfl | simp only [pureL, pureB, Bool.and_self, Bool.and_true, Bool.true_and, Od.elems_pure, Od.pay_pure, Od.av_pure]) rfl ?_
      simp only [run0, run1, run2, run3, run4, run5, run6, run7, run8, run9, run10, run11, run12, run13, run14, run15, run16, run17, run18, run19, run20, run21, run22, reduceCtorEq, Nat.reduceEqDiff, Nat.reduceAdd, Nat.reduceSub, Nat.reduceLeDiff, indexAddrA, indexRefA, appendA, strA, Nat.reduceMul, Nat.zero_mul, Nat.reduceMod, Int.reduceEq, Int.reduceLT, Int.reduceLE, Nat.reduceLT, Nat.lt_irrefl, Nat.reduceBEq, tys0, tys1, tys2, tys3, tys4, tys5, tys6, tys7, tys8, tys9, tys10, tys11, tys12, tys13, tys14, tys15, tys16, tys17, tys18, Try.ntmps113, Try.results113, elems_length, p1, p2, p3, p4, p5, q3, q4, q6, f3, f4, Int.toNat_natCast, Int.natCast_nonneg]
      rw [merge_cons] at h3
      rcases Int.lt_trichotomy (cmpT x e) 0 with hc | hc | hc
      · rw [if_neg (by omega), if_neg (by omega)] at h3
        have g1 : ¬ (0 ≤ cmpT x e) := by omega
        have g2 : cmpT x e ≤ 0 := by omega
        simp only [run0, run1, run2, run3, run4, run5, run6, run7, run8, run9, run10, run11, run12, run13, run14, run15, run16, run17, run18, run19, run20, run21, run22, reduceCtorEq, Nat.reduceEqDiff, Nat.reduceAdd, Nat.reduceSub, Nat.reduceLeDiff, indexAddrA, indexRefA, appendA, strA, Nat.reduceMul, Nat.zero_mul, Nat.reduceMod, Int.reduceEq, Int.reduceLT, Int.reduceLE, Nat.reduceLT, Nat.lt_irrefl, Nat.reduceBEq, tys0, tys1, tys2, tys3, tys4, tys5, tys6, tys7, tys8, tys9, tys10, tys11, tys12, tys13, tys14, tys15, tys16, tys17, tys18, Try.ntmps113, Try.results113, g1, g2, elems_length, p1, p2, p3, p4, p5, p7, q3, q4, q6, f3, f4, Int.toNat_natCast, Int.natCast_nonneg]
        refine ⟨by kernel_rfl, ⟨d, cons x k q, d'.app (cons e c nil), q', o.app (cons e c nil), X ++ [.box 88 [.sl false (elems e), .int .i64 c]]⟩, ⟨h1, hn'.symm, ?_, by simp only [len_app, len]; omega⟩, by simp [len], by simp only [len_app, elems_app, elems, pay, len]; repeat constructor, by simp only [len_app, elems_app, elems, pay, len]⟩
        rw [← h3, app_assoc]; rfl
      · rw [if_neg (by omega), if_pos hc] at h3
        have g1 : 0 ≤ cmpT x e := by omega
        have g2 : cmpT x e ≤ 0 := by omega
        simp only [run0, run1, run2, run3, run4, run5, run6, run7, run8, run9, run10, run11, run12, run13, run14, run15, run16, run17, run18, run19, run20, run21, run22, reduceCtorEq, Nat.reduceEqDiff, Nat.reduceAdd, Nat.reduceSub, Nat.reduceLeDiff, indexAddrA, indexRefA, appendA, strA, Nat.reduceMul, Nat.zero_mul, Nat.reduceMod, Int.reduceEq, Int.reduceLT, Int.reduceLE, Nat.reduceLT, Nat.lt_irrefl, Nat.reduceBEq, tys0, tys1, tys2, tys3, tys4, tys5, tys6, tys7, tys8, tys9, tys10, tys11, tys12, tys13, tys14, tys15, tys16, tys17, tys18, Try.ntmps113, Try.results113, g1, g2, elems_length, p1, p2, p3, p4, p5, p8, q3, q4, q6, f3, f4, Int.toNat_natCast, Int.natCast_nonneg]
        refine ⟨by kernel_rfl, ⟨d.app (cons x k nil), q, d'.app (cons e c nil), q', o.app (cons e (k + c) nil), X ++ [.box 88 [.sl false (elems e), .int .i64 (k + c)]]⟩, ⟨hn.symm, hn'.symm, ?_, by simp only [len_app, len]; omega⟩, by simp [len]; omega, by simp only [len_app, elems_app, elems, pay, len]; repeat constructor, by simp only [len_app, elems_app, elems, pay, len]⟩
        rw [← h3, app_assoc]; rfl
      · rw [if_pos hc] at h3
        have g1 : 0 ≤ cmpT x e := by omega
        have g2 : ¬ (cmpT x e ≤ 0) := by omega
        simp only [run0, run1, run2, run3, run4, run5, run6, run7, run8, run9, run10, run11, run12, run13, run14, run15, run16, run17, run18, run19, run20, run21, run22, reduceCtorEq, Nat.reduceEqDiff, Nat.reduceAdd, Nat.reduceSub, Nat.reduceLeDiff, indexAddrA, indexRefA, appendA, strA, Nat.reduceMul, Nat.zero_mul, Nat.reduceMod, Int.reduceEq, Int.reduceLT, Int.reduceLE, Nat.reduceLT, Nat.lt_irrefl, Nat.reduceBEq, tys0, tys1, tys2, tys3, tys4, tys5, tys6, tys7, tys8, tys9, tys10, tys11, tys12, tys13, tys14, tys15, tys16, tys17, tys18, Try.ntmps113, Try.results113, g1, g2, elems_length, p1, p2, p3, p4, p5, q3, q4, q6, f3, f4, Int.toNat_natCast, Int.natCast_nonneg]
        refine ⟨⟨d.app (cons x k nil), q, d', cons e c q', o.app (cons x k nil), X ++ [.box 88 [.sl false (elems x), .int .i64 k]]⟩, ⟨hn.symm, h2, ?_, by simp only [len_app, len]; omega⟩, by simp [len], by simp only [len_app, elems_app, elems, pay, len]; repeat constructor, by simp only [len_app, elems_app, elems, pay, len]⟩
        rw [← h3, app_assoc]; rfl

theorem meetT_sz (e : Od) (c : Int) : ∀ a : Od, (meetT e c a).sz ≤ a.sz + (e.sz + 1)
  | .nil => by simp [meetT, sz]
  | .cons x k r => by
    have := meetT_sz e c r
    simp only [meetT]
    split
    · simp only [sz]; omega
    · split
      · simp only [sz]; omega
      · simp only [sz]; omega

structure MtS where
  d : Od
  r : Od
  o : Od
  t : Bool
  X : List AObj

theorem odMeet_ok (a e : Od) (c : Int) (ha : a.sz ≤ 1048576) {m : Int} (hm : m ≤ 2305843009213693952) (ba : bnd m a) (be : bnd m (.cons e c .nil)) : Ct Try.prog 111 [av a, .agg [.sl false (elems e), .int .i64 c]] [] (av (meetT e c a)) [] := by
  have hla := len_le a
  have bx := bnd_len be
  refine Ct.by_ hmix [] Try.func111 rfl ?_
  simp only [run0, run1, run2, run3, run4, run5, run6, run7, run8, run9, run10, run11, run12, run13, run14, run15, run16, run17, run18, run19, run20, run21, run22, reduceCtorEq, Nat.reduceEqDiff, Nat.reduceAdd, Nat.reduceSub, Nat.reduceLeDiff, indexAddrA, indexRefA, appendA, strA, Nat.reduceMul, Nat.zero_mul, Nat.reduceMod, Int.reduceEq, Int.reduceLT, Int.reduceLE, Nat.reduceLT, Nat.lt_irrefl, Nat.reduceBEq, tys0, tys1, tys2, tys3, tys4, tys5, tys6, tys7, tys8, tys9, tys10, tys11, tys12, tys13, tys14, tys15, tys16, tys17, tys18, Try.ntmps111, Try.results111, av, elems_length]
  refine AWp.nilB 3 0 88 2 rfl rfl ?_
  simp only [run0, run1, run2, run3, run4, run5, run6, run7, run8, run9, run10, run11, run12, run13, run14, run15, run16, run17, run18, run19, run20, run21, run22, reduceCtorEq, Nat.reduceEqDiff, Nat.reduceAdd, Nat.reduceSub, Nat.reduceLeDiff, indexAddrA, indexRefA, appendA, strA, Nat.reduceMul, Nat.zero_mul, Nat.reduceMod, Int.reduceEq, Int.reduceLT, Int.reduceLE, Nat.reduceLT, Nat.lt_irrefl, Nat.reduceBEq, tys0, tys1, tys2, tys3, tys4, tys5, tys6, tys7, tys8, tys9, tys10, tys11, tys12, tys13, tys14, tys15, tys16, tys17, tys18, Try.ntmps111, Try.results111]
  refine AWp.loop_inv (ι := MtS) (fun p => ⟨[.agg [.sl false (elems a)], .agg [.sl false (elems e), .int .i64 c], .ptr 0 0, .ptr 1 0, .ptr 2 0, .ptr 3 0, .bool p.t, .junk, .junk, .junk, .junk, .junk, .sl false (elems a), .int .i64 a.len, .int .i64 p.d.len, .junk, .junk, .junk, .junk, .junk, .junk, .junk, .junk, .junk, .junk, .junk, .junk, .junk, .junk, .junk, .junk, .junk, .junk, .junk, .junk, .junk, .junk, .junk, .junk, .junk, .junk, .junk, .junk, .junk, .junk, .junk, .junk, .junk, .junk, .junk, .junk, .junk, .junk, .junk, .junk, .junk, .junk, .junk, .junk, .junk, .junk, .junk, .junk, .junk, .junk, .junk],
      .box 24 [.sl false (elems a)] :: .box 88 [.sl false (elems e), .int .i64 c] :: .box 24 [nilV] :: .box 24 [.ref 4 [] p.o.len p.o.len] :: .vec 88 2 p.o.len (elems p.o) :: p.X⟩)
    (fun p => a = p.d.app p.r ∧ p.o.app (if p.t then p.r else meetT e c p.r) = meetT e c a ∧ p.o.len ≤ p.d.len + p.t.toNat) (fun p => p.r.len) ⟨.nil, a, .nil, false, []⟩ ⟨rfl, rfl, Nat.zero_le _⟩ ⟨by simp only [len, Int.natCast_zero]; repeat constructor, rfl⟩ ?_
  rintro ⟨d, r, o, t, X⟩ ⟨h1, h2, h3⟩
  simp only at h1 h2 h3
  refine W.sound hmix (E := []) ?_
  have hda : d.len + r.len = a.len := by rw [h1, len_app]
  have htn : t.toNat ≤ 1 := by cases t <;> simp
  have f3 : o.len ≤ 137438953471 := by omega
  have f5 : o.len ≤ 137438953470 := by omega
  have f6 : noOwn (elems o ++ [.agg [.sl false (elems e), .int .i64 c]]) = true := by
    have := elems_noOwn (o.app (cons e c nil)); rw [elems_app] at this; exact this
  have f4 : noOwn (elems o) = true := elems_noOwn o
  cases r with
  | nil =>
    obtain ⟨e1, rfl⟩ := od_end h1
    cases t
    · simp only [run0, run1, run2, run3, run4, run5, run6, run7, run8, run9, run10, run11, run12, run13, run14, run15, run16, run17, run18, run19, run20, run21, run22, reduceCtorEq, Nat.reduceEqDiff, Nat.reduceAdd, Nat.reduceSub, Nat.reduceLeDiff, indexAddrA, indexRefA, appendA, strA, Nat.reduceMul, Nat.zero_mul, Nat.reduceMod, Int.reduceEq, Int.reduceLT, Int.reduceLE, Nat.reduceLT, Nat.lt_irrefl, Nat.reduceBEq, tys0, tys1, tys2, tys3, tys4, tys5, tys6, tys7, tys8, tys9, tys10, tys11, tys12, tys13, tys14, tys15, tys16, tys17, tys18, Try.ntmps111, Try.results111, elems_length, e1, f3, f4]
      have h5 : meetT e c a = o.app (cons e c nil) := h2.symm
      rw [h5]
      exact Fin.value (Vw.agg (.cons (Vw_elems (T := 88) rfl (by rw [elems_app]; rfl) (by rw [len_app]; rfl)) .nil))
    · simp only [run0, run1, run2, run3, run4, run5, run6, run7, run8, run9, run10, run11, run12, run13, run14, run15, run16, run17, run18, run19, run20, run21, run22, reduceCtorEq, Nat.reduceEqDiff, Nat.reduceAdd, Nat.reduceSub, Nat.reduceLeDiff, indexAddrA, indexRefA, appendA, strA, Nat.reduceMul, Nat.zero_mul, Nat.reduceMod, Int.reduceEq, Int.reduceLT, Int.reduceLE, Nat.reduceLT, Nat.lt_irrefl, Nat.reduceBEq, tys0, tys1, tys2, tys3, tys4, tys5, tys6, tys7, tys8, tys9, tys10, tys11, tys12, tys13, tys14, tys15, tys16, tys17, tys18, Try.ntmps111, Try.results111, elems_length, e1]
      have h5 : meetT e c a = o := by rw [← h2]; exact app_nil o
      rw [h5]
      exact Fin.value (Vw.agg (.cons (Vw_elems (T := 88) rfl rfl rfl) .nil))
  | cons x k q =>
    obtain ⟨e1, e2, e5, _, hn, _⟩ := od_step h1 ha
    have by1 := bnd_len (bnd_app.1 (h1 ▸ ba)).2
    have w1 : IntKind.i64.wrap (c + k) = c + k := w64_id (by omega) (by omega)
    simp only [run0, run1, run2, run3, run4, run5, run6, run7, run8, run9, run10, run11, run12, run13, run14, run15, run16, run17, run18, run19, run20, run21, run22, reduceCtorEq, Nat.reduceEqDiff, Nat.reduceAdd, Nat.reduceSub, Nat.reduceLeDiff, indexAddrA, indexRefA, appendA, strA, Nat.reduceMul, Nat.zero_mul, Nat.reduceMod, Int.reduceEq, Int.reduceLT, Int.reduceLE, Nat.reduceLT, Nat.lt_irrefl, Nat.reduceBEq, tys0, tys1, tys2, tys3, tys4, tys5, tys6, tys7, tys8, tys9, tys10, tys11, tys12, tys13, tys14, tys15, tys16, tys17, tys18, Try.ntmps111, Try.results111, elems_length, e1, e2, Int.toNat_natCast, Int.natCast_nonneg]
    refine RunL.callp rfl rfl ok_f68 (odCmp_ok x e by1.2.1 bx.2.1 by1.1 bx.1) (by first | rfl | simp only [pureL, pureB, Bool.and_self, Bool.and_true, Bool.true_and, Od.elems_pure, Od.pay_pure, Od.av_pure]) rfl ?_
    cases t
    · simp only [Bool.false_eq_true, if_false, meetT] at h2
      rcases Int.lt_trichotomy (cmpT x e) 0 with hc | hc | hc
      · rw [if_neg (by omega), if_neg (by omega)] at h2
        have g1 : cmpT x e ≤ 0 := by omega
        have g2 : (cmpT x e == 0) = false := by simp; omega
        simp only [run0, run1, run2, run3, run4, run5, run6, run7, run8, run9, run10, run11, run12, run13, run14, run15, run16, run17, run18, run19, run20, run21, run22, reduceCtorEq, Nat.reduceEqDiff, Nat.reduceAdd, Nat.reduceSub, Nat.reduceLeDiff, indexAddrA, indexRefA, appendA, strA, Nat.reduceMul, Nat.zero_mul, Nat.reduceMod, Int.reduceEq, Int.reduceLT, Int.reduceLE, Nat.reduceLT, Nat.lt_irrefl, Nat.reduceBEq, tys0, tys1, tys2, tys3, tys4, tys5, tys6, tys7, tys8, tys9, tys10, tys11, tys12, tys13, tys14, tys15, tys16, tys17, tys18, Try.ntmps111, Try.results111, g1, g2, e5, f3, f4, f5, f6, elems_length]
        refine ⟨⟨d.app (cons x k nil), q, o.app (cons e c (cons x k nil)), true, X ++ [.box 88 [.sl false (elems x), .int .i64 k]]⟩, ⟨hn.symm, ?_, by simp only [len_app, len, Bool.toNat] at h3 ⊢; simp at h3; simp; omega⟩, by simp [len], by simp only [len_app, elems_app, elems, pay, len]; repeat constructor, by simp only [len_app, elems_app, elems, pay, len]⟩
        rw [← h2, app_assoc]; rfl
      · rw [if_neg (by omega), if_pos hc] at h2
        have g1 : cmpT x e ≤ 0 := by omega
        have g2 : (cmpT x e == 0) = true := by simp; omega
        simp only [run0, run1, run2, run3, run4, run5, run6, run7, run8, run9, run10, run11, run12, run13, run14, run15, run16, run17, run18, run19, run20, run21, run22, reduceCtorEq, Nat.reduceEqDiff, Nat.reduceAdd, Nat.reduceSub, Nat.reduceLeDiff, indexAddrA, indexRefA, appendA, strA, Nat.reduceMul, Nat.zero_mul, Nat.reduceMod, Int.reduceEq, Int.reduceLT, Int.reduceLE, Nat.reduceLT, Nat.lt_irrefl, Nat.reduceBEq, tys0, tys1, tys2, tys3, tys4, tys5, tys6, tys7, tys8, tys9, tys10, tys11, tys12, tys13, tys14, tys15, tys16, tys17, tys18, Try.ntmps111, Try.results111, g1, g2, w1, e5, f3, f4, f5, elems_length]
        refine ⟨⟨d.app (cons x k nil), q, o.app (cons e (c + k) nil), true, X ++ [.box 88 [.sl false (elems x), .int .i64 k]]⟩, ⟨hn.symm, ?_, by simp only [len_app, len, Bool.toNat] at h3 ⊢; simp at h3; simp; omega⟩, by simp [len], by simp only [len_app, elems_app, elems, pay, len]; repeat constructor, by simp only [len_app, elems_app, elems, pay, len]⟩
        rw [← h2, app_assoc]; rfl
      · rw [if_pos hc] at h2
        have g1 : ¬ (cmpT x e ≤ 0) := by omega
        simp only [run0, run1, run2, run3, run4, run5, run6, run7, run8, run9, run10, run11, run12, run13, run14, run15, run16, run17, run18, run19, run20, run21, run22, reduceCtorEq, Nat.reduceEqDiff, Nat.reduceAdd, Nat.reduceSub, Nat.reduceLeDiff, indexAddrA, indexRefA, appendA, strA, Nat.reduceMul, Nat.zero_mul, Nat.reduceMod, Int.reduceEq, Int.reduceLT, Int.reduceLE, Nat.reduceLT, Nat.lt_irrefl, Nat.reduceBEq, tys0, tys1, tys2, tys3, tys4, tys5, tys6, tys7, tys8, tys9, tys10, tys11, tys12, tys13, tys14, tys15, tys16, tys17, tys18, Try.ntmps111, Try.results111, g1, e5, f3, f4, f5, elems_length]
        refine ⟨⟨d.app (cons x k nil), q, o.app (cons x k nil), false, X ++ [.box 88 [.sl false (elems x), .int .i64 k]]⟩, ⟨hn.symm, ?_, by simp only [len_app, len, Bool.toNat] at h3 ⊢; simp at h3; simp; omega⟩, by simp [len], by simp only [len_app, elems_app, elems, pay, len]; repeat constructor, by simp only [len_app, elems_app, elems, pay, len]⟩
        rw [← h2, app_assoc]; rfl
    · simp only [run0, run1, run2, run3, run4, run5, run6, run7, run8, run9, run10, run11, run12, run13, run14, run15, run16, run17, run18, run19, run20, run21, run22, reduceCtorEq, Nat.reduceEqDiff, Nat.reduceAdd, Nat.reduceSub, Nat.reduceLeDiff, indexAddrA, indexRefA, appendA, strA, Nat.reduceMul, Nat.zero_mul, Nat.reduceMod, Int.reduceEq, Int.reduceLT, Int.reduceLE, Nat.reduceLT, Nat.lt_irrefl, Nat.reduceBEq, tys0, tys1, tys2, tys3, tys4, tys5, tys6, tys7, tys8, tys9, tys10, tys11, tys12, tys13, tys14, tys15, tys16, tys17, tys18, Try.ntmps111, Try.results111, e5, f3, f4, f5, elems_length]
      refine ⟨⟨d.app (cons x k nil), q, o.app (cons x k nil), true, X ++ [.box 88 [.sl false (elems x), .int .i64 k]]⟩, ⟨hn.symm, ?_, by simp only [len_app, len, Bool.toNat] at h3 ⊢; simp at h3; simp; omega⟩, by simp [len], by simp only [len_app, elems_app, elems, pay, len]; repeat constructor, by simp only [len_app, elems_app, elems, pay, len]⟩
      rw [← h2, app_assoc]; rfl

theorem meetT_bnd {M m : Int} {e : Od} {c : Int} (h0 : 0 ≤ m) (be : bnd m (.cons e c .nil)) (hM : 0 ≤ M) : ∀ {a : Od}, bnd M a → bnd (M + m) (meetT e c a)
  | .nil, _ => ⟨be.1, be.2.1, by have := be.2.2.1; omega, by have := be.2.2.2.1; omega, trivial⟩
  | .cons x k r, h => by
    have h1 := bnd_mono (m' := M + m) (by omega) h
    have h2 := meetT_bnd h0 be hM h.2.2.2.2
    have h3 := h.2.2.1
    have h4 := h.2.2.2.1
    have h5 := be.2.2.1
    have h6 := be.2.2.2.1
    simp only [meetT]
    split
    · exact ⟨h.1, h.2.1, by omega, by omega, h2⟩
    · split
      · exact ⟨be.1, be.2.1, by omega, by omega, h1.2.2.2.2⟩
      · exact ⟨be.1, be.2.1, by omega, by omega, h1⟩


end Go.Proofs.Ytphmkhaboghagaa
/-
  Hydras: the ordinal of a node, as plain data.
-/
namespace Go.Proofs.Ytphmkhaboghagaa
open Go K Od
set_option linter.unusedSimpArgs false
set_option linter.unusedVariables false

/-- The ordinal of what hangs at a node, added to one that is there. -/
def ordFo (o : Od) : Fo → Od
  | .nil => o
  | .cons _ ch r => ordFo (meetT (ordFo .nil ch) 1 o) r
theorem merge_meet (e : Od) (c : Int) : ∀ a : Od, mergeT a (.cons e c .nil) = meetT e c a
  | .nil => by simp [mergeT, meetT]
  | .cons x k r => by
    rw [merge_cons, merge_meet e c r, merge_nil, merge_nil]
    simp only [meetT, Int.add_comm k c]
theorem ordFo_sz : ∀ (f : Fo) (o : Od), (ordFo o f).sz ≤ o.sz + f.sz
  | .nil, o => by simp [ordFo, Fo.sz]
  | .cons n ch r, o => by
    have h1 := ordFo_sz r (meetT (ordFo .nil ch) 1 o)
    have h2 := meetT_sz (ordFo .nil ch) 1 o
    have h3 := ordFo_sz ch .nil
    simp only [Od.sz] at h3
    simp only [ordFo, Fo.sz]
    omega
/-- Coefficients from 1 to m, at all depths. -/
def pos (m : Int) : Od → Prop
  | .nil => True
  | .cons e c r => 1 ≤ c ∧ c ≤ m ∧ rng e ∧ pos m r
theorem pos_mono {m m' : Int} (h : m ≤ m') : ∀ {a : Od}, pos m a → pos m' a
  | .nil, _ => trivial
  | .cons e c r, k => ⟨k.1, by have := k.2.1; omega, k.2.2.1, pos_mono h k.2.2.2⟩
theorem pos_rng {m : Int} (h : m ≤ 1000000) : ∀ {a : Od}, pos m a → rng a
  | .nil, _ => trivial
  | .cons e c r, k => ⟨k.1, by have := k.2.1; omega, k.2.2.1, pos_rng h k.2.2.2⟩
theorem pos_bnd {m : Int} (h : 0 ≤ m) : ∀ {a : Od}, a.sz ≤ 1048576 → pos m a → bnd m a
  | .nil, _, _ => trivial
  | .cons e c r, hs, k => by
    simp only [Od.sz] at hs
    exact ⟨k.2.2.1, by omega, by have := k.1; omega, k.2.1, pos_bnd h (by omega) k.2.2.2⟩
theorem meet_pos {m : Int} {e : Od} (he : rng e) (hm : 0 ≤ m) : ∀ {a : Od}, pos m a → pos (m + 1) (meetT e 1 a)
  | .nil, _ => ⟨Int.le_refl _, by omega, he, trivial⟩
  | .cons x k r, h => by
    have h1 := pos_mono (m' := m + 1) (by omega) h
    have h2 := meet_pos he hm h.2.2.2
    have h3 := h.1
    have h4 := h.2.1
    simp only [meetT]
    split
    · exact ⟨h3, by omega, h.2.2.1, h2⟩
    · split
      · exact ⟨by omega, by omega, he, h1.2.2.2⟩
      · exact ⟨Int.le_refl _, by omega, he, h1⟩
theorem ordFo_pos : ∀ (f : Fo) (o : Od) (m : Int), 0 ≤ m → m + f.sz ≤ 1000000 → pos m o → pos (m + f.len) (ordFo o f)
  | .nil, o, m, _, _, h => by simpa [ordFo, Fo.len] using h
  | .cons n ch r, o, m, h0, h1, h => by
    simp only [Fo.sz] at h1
    have h2 := ordFo_pos ch .nil 0 (by omega) (by omega) trivial
    have hl : ch.len ≤ ch.sz := by
      clear h2 h1
      induction ch with
      | nil => simp [Fo.len, Fo.sz]
      | cons n a b iha ihb => simp only [Fo.len, Fo.sz]; omega
    have h3 := ordFo_pos r (meetT (ordFo .nil ch) 1 o) (m + 1) (by omega) (by omega) (meet_pos (pos_rng (by omega) h2) h0 h)
    simp only [ordFo, Fo.len]
    rw [show m + ((r.len + 1 : Nat) : Int) = m + 1 + r.len by omega]
    exact h3
theorem len_sz : ∀ f : Fo, f.len ≤ f.sz
  | .nil => Nat.le_refl _
  | .cons n a b => by have := len_sz b; simp only [Fo.len, Fo.sz]; omega
theorem Fo.sz_app : ∀ a b : Fo, (a.app b).sz = a.sz + b.sz
  | .nil, b => by simp [app, sz]
  | .cons n ch r, b => by simp only [app, sz, sz_app r b]; omega
theorem Fo.len_app : ∀ a b : Fo, (a.app b).len = a.len + b.len
  | .nil, b => by simp [app, len]
  | .cons n ch r, b => by simp only [app, len, len_app r b]; omega
theorem Fo.app_assoc : ∀ a b c : Fo, (a.app b).app c = a.app (b.app c)
  | .nil, b, c => rfl
  | .cons n ch r, b, c => by simp [app, app_assoc r b c]
theorem ordFo_app : ∀ (a b : Fo) (o : Od), ordFo o (a.app b) = ordFo (ordFo o a) b
  | .nil, b, o => rfl
  | .cons n ch r, b, o => by simp only [Fo.app, ordFo, ordFo_app r b]
theorem els_at (d : Fo) (n : Int) (ch r : Fo) : (Fo.els (d.app (.cons n ch r)))[d.len]? = some (.rptr (.agg [.int .i64 n, .sl false (Fo.els ch)]) 0) := by
  rw [Fo.els_app, List.getElem?_append_right (by rw [Fo.els_length]; exact Nat.le_refl _), Fo.els_length]
  simp [Fo.els]

/-! ### how many nodes hang at one -/
theorem foL_len (f : Nat → Fo) : ∀ l : List Nat, (foL f l).len = l.length
  | [] => rfl
  | c :: l => by simp [foL, Fo.len, foL_len f l]
/-- All nodes belowF one, so deep. -/
def belowF (P : List Int) : Nat → Nat → List Nat
  | 0, _ => []
  | k + 1, j => (kidsL P j).flatMap fun c => c :: belowF P k c
theorem foL_sz (f : Nat → Fo) (g : Nat → List Nat) (h : ∀ c, (f c).sz = (g c).length) : ∀ l : List Nat, (foL f l).sz = (l.flatMap fun c => c :: g c).length
  | [] => rfl
  | c :: l => by simp only [foL, Fo.sz, foL_sz f g h l, List.flatMap_cons, List.length_append, List.length_cons, h c]; omega
theorem fo_sz (P : List Int) : ∀ (k j : Nat), (fo P k j).sz = (belowF P k j).length
  | 0, j => rfl
  | k + 1, j => by simp only [fo, belowF]; exact foL_sz _ _ (fun c => fo_sz P k c) _

/-- One node hangs, by whatever way, at another. -/
inductive Anc (P : List Int) : Nat → Nat → Prop where
  | base {c j : Nat} (h : P[c]? = some (j : Int)) : Anc P c j
  | step {c p j : Nat} (h : P[c]? = some (p : Int)) (k : Anc P p j) : Anc P c j
theorem Anc.lt {P : List Int} (hp : ParOk P) {c j : Nat} (h : Anc P c j) : j < c := by
  induction h with
  | base h => have := (hp _ _ h).2; omega
  | step h k ih => have := (hp _ _ h).2; omega
theorem Anc.trans {P : List Int} {c j i : Nat} (h : Anc P c j) (k : Anc P j i) : Anc P c i := by
  induction h with
  | base h => exact .step h k
  | step h _ ih => exact .step h (ih k)
theorem Anc.chain {P : List Int} {c a : Nat} (h : Anc P c a) : ∀ {b : Nat}, Anc P c b → a = b ∨ Anc P a b ∨ Anc P b a := by
  induction h with
  | base h =>
    intro b k
    cases k with
    | base k => rw [h] at k; cases k; exact .inl rfl
    | step k k2 => rw [h] at k; cases k; exact .inr (.inl k2)
  | step h h2 ih =>
    intro b k
    cases k with
    | base k => rw [h] at k; cases k; exact .inr (.inr h2)
    | step k k2 => rw [h] at k; cases k; exact ih k2
theorem kids_par {P : List Int} {j c : Nat} (h : c ∈ kidsL P j) : P[c]? = some (j : Int) := by
  unfold kidsL at h
  simpa using (List.mem_filter.1 h).2
theorem belowF_anc {P : List Int} : ∀ {k j c : Nat}, c ∈ belowF P k j → Anc P c j
  | 0, j, c, h => by simp [belowF] at h
  | k + 1, j, c, h => by
    simp only [belowF, List.mem_flatMap, List.mem_cons] at h
    obtain ⟨d, hd, h⟩ := h
    have hb := Anc.base (kids_par hd)
    rcases h with rfl | h
    · exact hb
    · exact (belowF_anc h).trans hb
theorem kids_apart {P : List Int} (hp : ParOk P) {j a b : Nat} (ha : a ∈ kidsL P j) (hb : b ∈ kidsL P j) (h : Anc P a b) : False := by
  have h1 := (Anc.base (kids_par hb)).lt hp
  cases h with
  | base h => rw [kids_par ha] at h; cases h; omega
  | step h k => rw [kids_par ha] at h; cases h; have := k.lt hp; omega
theorem belowF_nodup {P : List Int} (hp : ParOk P) : ∀ k j : Nat, (belowF P k j).Nodup
  | 0, j => by simp [belowF]
  | k + 1, j => by
    have hk : (kidsL P j).Nodup := List.nodup_range.filter _
    unfold List.Nodup
    simp only [belowF, List.pairwise_flatMap]
    refine ⟨fun c hc => List.nodup_cons.2 ⟨fun h => ?_, belowF_nodup hp k c⟩, ?_⟩
    · have := (belowF_anc h).lt hp; omega
    · refine hk.imp_of_mem fun {a b} ha hb hne => ?_
      intro x hx y hy hxy
      subst hxy
      rcases List.mem_cons.1 hx with rfl | hx <;> rcases List.mem_cons.1 hy with hy | hy
      · exact hne hy
      · exact kids_apart hp ha hb (belowF_anc hy)
      · subst hy; exact kids_apart hp hb ha (belowF_anc hx)
      · rcases (belowF_anc hx).chain (belowF_anc hy) with h | h | h
        · exact hne h
        · exact kids_apart hp ha hb h
        · exact kids_apart hp hb ha h
theorem nodup_len : ∀ (n : Nat) (l : List Nat), l.Nodup → (∀ x ∈ l, x < n) → l.length ≤ n
  | 0, l, _, h => by
    cases l with
    | nil => simp
    | cons a l => have := h a (by simp); omega
  | n + 1, l, hn, h => by
    have := nodup_len n (l.erase n) (hn.erase n) (fun x hx => by
      have h1 := h x (List.mem_of_mem_erase hx)
      have h2 : x ≠ n := fun e => by subst e; exact (List.Nodup.not_mem_erase hn) hx
      omega)
    have h3 := List.length_erase (a := n) (l := l)
    split at h3 <;> omega
theorem fo_small {P : List Int} (hp : ParOk P) (k j : Nat) : (fo P k j).sz ≤ P.length := by
  rw [fo_sz]
  refine nodup_len _ _ (belowF_nodup hp k j) fun x hx => ?_
  have := belowF_anc hx
  cases this with
  | base h => exact (List.getElem?_eq_some_iff.1 h).1
  | step h _ => exact (List.getElem?_eq_some_iff.1 h).1

/-! ### deep enough is deep enough -/
theorem fo_deep {P : List Int} (hp : ParOk P) : ∀ (n j a b : Nat), P.length ≤ j + n → P.length ≤ j + a → P.length ≤ j + b → fo P a j = fo P b j
  | n, j, a, b, h1, h2, h3 => by
    by_cases hj : P.length ≤ j
    · have hk : kidsL P j = [] := by
        refine List.filter_eq_nil_iff.2 fun c hc => ?_
        have := List.mem_range.1 hc
        intro h
        have h := (hp c _ (by simpa using h)).2
        omega
      cases a <;> cases b <;> simp [fo, hk, foL]
    · cases a with
      | zero => omega
      | succ a =>
        cases b with
        | zero => omega
        | succ b =>
          cases n with
          | zero => omega
          | succ n =>
            simp only [fo]
            have : ∀ l : List Nat, (∀ c ∈ l, j < c) → foL (fo P a) l = foL (fo P b) l := by
              intro l
              induction l with
              | nil => intro _; rfl
              | cons c l ih =>
                intro hl
                have hc := hl c (by simp)
                simp only [foL, fo_deep hp n c a b (by omega) (by omega) (by omega), ih (fun x hx => hl x (by simp [hx]))]
            exact this _ fun c hc => (kidsL_gt hp hc).1

end Go.Proofs.Ytphmkhaboghagaa
/-
  A logic of values for Go's functions (part 21): a call that is given a row of the caller's, which nobody writes any more.
-/
namespace Go.Proofs.Ytphmkhaboghagaa.K
set_option linter.unusedVariables false
set_option linter.unusedSimpArgs false
open Go

/-- The row 'j' is never written again; all else that is owned is out of sight. -/
def frzS (j : Nat) (γ : Nat → Gh) (w : World) : Nat → Gh := fun b =>
  match γ b with
  | .ow id _ _ => if id = j then (match w.heap[b]? with | some o => .ro o | none => .out) else .out
  | x => x

theorem frzS_ro {j : Nat} {γ : Nat → Gh} {w : World} : ∀ b o, γ b = .ro o → frzS j γ w b = .ro o := by
  intro b o h; simp [frzS, h]

/-- 'x', told with what the call owns, is 'y' once the row 'j' is not written any more. -/
def VwF (j : Nat) (L : List AObj) (x y : AV) : Prop := ∀ γ w v, Inv γ L w → RV γ L x v → RV (frzS j γ w) [] y v

theorem VwF.pur {j : Nat} {L : List AObj} {x : AV} (h : pureB x = true) : VwF j L x x := fun γ w v _ hv => Pur.of h γ L _ _ v frzS_ro hv

inductive VwFL (j : Nat) (L : List AObj) : List AV → List AV → Prop where
  | nil : VwFL j L [] []
  | cons {x y : AV} {xs ys : List AV} (h : VwF j L x y) (k : VwFL j L xs ys) : VwFL j L (x :: xs) (y :: ys)

theorem VwFL.get {j : Nat} {L : List AObj} {xs ys : List AV} (h : VwFL j L xs ys) : xs.length = ys.length ∧ ∀ (i : Nat) y, ys[i]? = some y → ∃ x, xs[i]? = some x ∧ VwF j L x y := by
  induction h with
  | nil => exact ⟨rfl, fun i y h => by simp at h⟩
  | cons h k ih =>
    refine ⟨by simp [ih.1], fun i y hi => ?_⟩
    cases i with
    | zero => simp at hi; subst hi; exact ⟨_, rfl, h⟩
    | succ i => simpa using ih.2 i y (by simpa using hi)

theorem VwF.agg {j : Nat} {L : List AObj} {xs ys : List AV} (h : VwFL j L xs ys) : VwF j L (.agg xs) (.agg ys) := by
  intro γ w v hI hv
  cases hv with
  | agg _ vs hn h1 h2 =>
    refine .agg _ _ (by rw [hn, h.get.1]) h1 fun i y hy => ?_
    obtain ⟨x, hx, hxy⟩ := h.get.2 i y hy
    exact hxy γ w _ hI (h2 i x hx)

theorem VwF.ref {id : Nat} {L : List AObj} {g n : Nat} {T : TypeId} {sz : Nat} {es : List AV} {o : Bool} (hL : L[id]? = some (.vec T sz g es)) (hn : n ≤ es.length)
    (hp : ∀ e ∈ es, ∀ c ∈ e.cells, Pur c ∧ ∀ xs, c ≠ .sl true xs) : VwF id L (.ref id [] g n) (.sl o (es.take n)) := by
  intro γ w v hI hv
  have hv1 := Vw.refPur (o := o) hL hn hp γ w v hI hv
  cases hv with
  | ref _ _ _ _ _ hok ho =>
    obtain ⟨_, _, _, es2, hL2, hs2, hn2, hv⟩ := hok.form (by simp [eptrNow, hL])
    rw [hL] at hL2; cases hL2
    simp only [sub, Option.some.injEq] at hs2
    subst hs2
    rcases hv with ⟨rfl, rfl, rfl, _⟩ | ⟨b, c, rfl, hb⟩
    · simp only [List.take_nil]
      exact .sl _ _ _ 0 0 0 (fun _ _ => undef) rfl (Nat.le_refl _) (by simp) (by simp) (by simp) (by simp)
    · obtain ⟨ob, hob, _⟩ := hI.ow _ _ _ _ hb
      generalize hA : (some (⟨b, 0, none⟩ : Addr)) = A at hv1
      cases hv1 with
      | sl _ _ _ _ _ s vals hn' hc' hsz h2 h1 h3 =>
        refine .sl _ _ _ _ _ s vals hn' hc' hsz ?_ h1 ?_
        · intro i e k x hi hk
          have := h2 i e k x hi hk
          rw [← hA] at this ⊢
          simp only [roCell, frz, frzS, hb, hob, if_true] at this ⊢
          exact this
        · intro i e k x hi hk
          have h0 := h3 i e k x hi hk
          have hi' : es[i]? = some e := by
            rw [List.getElem?_take] at hi
            split at hi
            · exact hi
            · cases hi
          obtain ⟨arr, s', T', harr, _, _, _, _, hrow⟩ := hI.rowCell hL rfl hb
          obtain ⟨u, u1, u2, u3⟩ := hrow.2 i e k x hi' hk
          obtain ⟨q1, q2⟩ := hp e (List.mem_of_getElem? hi') x (List.mem_of_getElem? hk)
          have hu : RV γ L x u := by
            unfold CV at u3
            split at u3
            · rename_i xs; exact absurd rfl (q2 xs)
            · exact u3
          have h4 := h2 i e k x hi hk
          rw [← hA] at h4
          simp only [roCell, frz, hb, harr, Nat.zero_add] at h4
          have hss : s' = s := by
            rw [← hrow.1 e (List.mem_of_getElem? hi'), ← hsz e (List.mem_of_getElem? hi)]
          subst hss
          rw [u1] at h4; cases h4
          exact q1 γ L _ _ _ frzS_ro hu

/-- A call whose result may share the row 'j'; the caller gives that row away. -/
theorem Ct.give {P : Program} {f : FuncId} {xs ys : List AV} {r : AV} {L : List AObj} {j : Nat} {T : TypeId} {sz g : Nat} {es : List AV} (hj : L[j]? = some (.vec T sz g es)) (h : Ct P f ys [] r []) (hy : VwFL j L xs ys) :
    Ct P f xs L r (L.set j .dead) := by
  intro γ w vs hI ha
  have hjl := (List.getElem?_eq_some_iff.1 hj).1
  have hno : ∀ b id p c, frzS j γ w b ≠ .ow id p c := by
    intro b id p c hb
    unfold frzS at hb
    split at hb
    · split at hb
      · split at hb <;> cases hb
      · cases hb
    · rename_i hne; exact hne _ _ _ hb
  have hI0 : Inv (frzS j γ w) [] w := by
    refine ⟨fun b o hb => ?_, fun b id p c hb => absurd hb (hno _ _ _ _), fun b b' id p c c' hb => absurd hb (hno _ _ _ _), fun id T cs hL => by simp at hL, fun id kt vt es hL => by simp at hL⟩
    unfold frzS at hb
    split at hb
    · split at hb
      · split at hb
        · rename_i o' ho'; cases hb; exact ho'
        · cases hb
      · cases hb
    · exact hI.ro b o hb
  have ha0 : ArgsR (frzS j γ w) [] ys vs := by
    refine ⟨by rw [ha.1]; exact hy.get.1, fun i y hi => ?_⟩
    obtain ⟨x, hx, hxy⟩ := hy.get.2 i y hi
    exact hxy γ w _ hI (ha.2 i x hx)
  refine (h (frzS j γ w) w vs hI0 ha0).mono ?_
  rintro e w' ⟨γ1, v, rfl, hI1, hv, _, hS⟩
  let γ' : Nat → Gh := fun b => match γ b with | .ow id p c => if id = j then γ1 b else .ow id p c | _ => γ1 b
  have hno1 : ∀ b id p c, γ1 b ≠ .ow id p c := by
    intro b id p c hb
    have := hI1.idlt hb
    simp at this
  have hA : ∀ {b id p c}, γ b = .ow id p c → id ≠ j → γ' b = .ow id p c ∧ γ1 b = .out ∧ w'.heap[b]? = w.heap[b]? := by
    intro b id p c hb hne
    obtain ⟨o, ho, _⟩ := hI.ow _ _ _ _ hb
    obtain ⟨h1, h2⟩ := hS.out b (List.getElem?_eq_some_iff.1 (by simpa using ho)).1 (by simp [frzS, hb, hne])
    exact ⟨by simp [γ', hb, hne], h1, h2⟩
  have hB : ∀ {b p c}, γ b = .ow j p c → γ' b = γ1 b ∧ ∃ o, γ1 b = .ro o := by
    intro b p c hb
    obtain ⟨o, ho, _⟩ := hI.ow _ _ _ _ hb
    exact ⟨by simp [γ', hb], o, hS.ro b o (by simp [frzS, hb, ho])⟩
  have hC : ∀ {b}, (∀ id p c, γ b ≠ .ow id p c) → γ' b = γ1 b := by
    intro b hb
    cases hg : γ b with
    | ow id p c => exact absurd hg (hb id p c)
    | out => simp [γ', hg]
    | ro o => simp [γ', hg]
  have h3 : ∀ {b id p c}, γ' b = .ow id p c → γ b = .ow id p c ∧ id ≠ j := by
    intro b id p c hb
    by_cases hx : ∃ id p c, γ b = .ow id p c
    · obtain ⟨id', p', c', he⟩ := hx
      by_cases hij : id' = j
      · subst hij; rw [(hB he).1] at hb; exact absurd hb (hno1 _ _ _ _)
      · rw [(hA he hij).1] at hb; cases hb; exact ⟨he, hij⟩
    · rw [hC (fun id p c he => hx ⟨id, p, c, he⟩)] at hb
      exact absurd hb (hno1 _ _ _ _)
  have h4 : ∀ b o, γ' b = .ro o → γ1 b = .ro o := by
    intro b o hb
    by_cases hx : ∃ id p c, γ b = .ow id p c
    · obtain ⟨id', p', c', he⟩ := hx
      by_cases hij : id' = j
      · subst hij; rw [(hB he).1] at hb; exact hb
      · rw [(hA he hij).1] at hb; cases hb
    · rw [hC (fun id p c he => hx ⟨id, p, c, he⟩)] at hb; exact hb
  have h5 : ∀ b o, γ1 b = .ro o → γ' b = .ro o := by
    intro b o hb
    by_cases hx : ∃ id p c, γ b = .ow id p c
    · obtain ⟨id', p', c', he⟩ := hx
      by_cases hij : id' = j
      · subst hij; rw [(hB he).1]; exact hb
      · rw [(hA he hij).2.1] at hb; cases hb
    · rw [hC (fun id p c he => hx ⟨id, p, c, he⟩)]; exact hb
  have hro : ∀ b o, γ b = .ro o → γ' b = .ro o := by
    intro b o hb
    rw [hC (fun id p c he => by rw [hb] at he; cases he)]
    exact hS.ro b o (frzS_ro b o hb)
  have hset : ∀ {id : Nat}, id ≠ j → (L.set j AObj.dead)[id]? = L[id]? := fun {id} hne => List.getElem?_set_ne (fun e => hne e.symm)
  have hself : (L.set j AObj.dead)[j]? = some .dead := List.getElem?_set_self hjl
  have hE : Ext γ L γ' (L.set j .dead) := by
    refine ⟨hro, fun id o hL => ?_, fun b id p c hb => ?_, fun id T1 sz1 g1 es1 T' sz' es' hL hL' p e1 _ b c hb => (h3 hb).1⟩
    · by_cases hij : id = j
      · subst hij; rw [hj] at hL; cases hL; exact ⟨_, hself, trivial⟩
      · exact ⟨o, by rw [hset hij]; exact hL, OStep.refl o⟩
    · by_cases hij : id = j
      · subst hij
        refine .inr fun o hL => ?_
        rw [hj] at hL; cases hL
        exact ⟨_, _, _, _, rfl, fun T' sz' es' hL' => by rw [hself] at hL'; cases hL'⟩
      · exact .inl (hA hb hij).1
  refine ⟨γ', v, rfl, ⟨fun b o hb => hI1.ro b o (h4 b o hb), fun b id p c hb => ?_, fun b b' id p c c' hb hb' => hI.inj _ _ _ _ _ _ (h3 hb).1 (h3 hb').1, fun id T cs hL => ?_, fun id kt vt es hL => ?_⟩, RV.lift h5 hv, hE, ?_⟩
  · obtain ⟨hb0, hne⟩ := h3 hb
    obtain ⟨o, ho, hrep⟩ := hI.ow _ _ _ _ hb0
    refine ⟨o, by rw [(hA hb0 hne).2.2]; exact ho, ?_⟩
    exact BlockRep.keep hE (hset hne) (fun b p c hb => (hA hb hne).1) (fun b p c hb => (h3 hb).1) hrep
  · by_cases hij : id = j
    · subst hij; rw [hself] at hL; cases hL
    · rw [hset hij] at hL
      obtain ⟨b, c, hb⟩ := hI.box _ _ _ hL
      exact ⟨b, c, (hA hb hij).1⟩
  · by_cases hij : id = j
    · subst hij; rw [hself] at hL; cases hL
    · rw [hset hij] at hL
      obtain ⟨b, c, hb⟩ := hI.map _ _ _ _ hL
      exact ⟨b, c, (hA hb hij).1⟩
  · refine ⟨hS.os, hS.tape, hS.output, hS.size, hE.ro, fun b hb ho => ?_⟩
    have := hS.out b hb (by simp [frzS, ho])
    exact ⟨by rw [hC (fun id p c he => by rw [ho] at he; cases he)]; exact this.1, this.2⟩

theorem RunL.give {P : Program} {k : Oper → Knd} {ops : Array Oper} {K : St → Prop} {o : Oper} {rest : List Oper} {s : St} {f : FuncId} {args : Array Operand} {ats : Array TypeId} {r : AV} {xs ys : List AV} {j : Nat}
    (hg : guardA ops s o = some true) (ho : o.op = .call { callee := .value (.func f), args := args, argTypes := ats }) (hf : okFn P f = true) (hkd : Knd.le .C (k o) = true) (hal : isAlloc k o = false)
    (h : Ct P f ys [] r []) (hj : ∃ T sz g es, s.L[j]? = some (.vec T sz g es)) (hy : VwFL j s.L xs ys) (hx : args.toList.map s.ev = xs) (hk : R P k ops rest ({ s with L := s.L.set j .dead }.put o.dst r) K) : RunL P k ops (o :: rest) s K :=
  by obtain ⟨T, sz, g, es, hj⟩ := hj; exact RunL.call hg ho hx hf hkd (.inl hal) (Ct.give hj h hy) hk

end Go.Proofs.Ytphmkhaboghagaa.K
/-
  A logic of values for Go's functions (part 22): maps of the call's own, with plain keys and plain elements.
-/
namespace Go.Proofs.Ytphmkhaboghagaa.K
set_option linter.unusedVariables false
set_option linter.unusedSimpArgs false
open Go Go.RowKit
open Go.Maps (Keyed)
open Go.ChangeMaps (setBlock heap_setBlock_same heap_setBlock_other)

/-- Values that are told by themselves. -/
def plain1 : AV → Bool
  | .int _ _ => true
  | .bool _ => true
  | .str _ => true
  | _ => false
def val1 : AV → Value
  | .int k n => .int k n
  | .bool b => .bool b
  | .str s => .string s
  | _ => undef
def plainK : AV → Bool
  | .agg cs => cs.all plain1
  | x => plain1 x
def valK : AV → Value
  | .agg cs => .agg (cs.map val1).toArray
  | x => val1 x
theorem val1_of {γ : Nat → Gh} {L : List AObj} {x : AV} {v : Value} (h : RV γ L x v) (hp : plain1 x = true) : v = val1 x := by
  cases h <;> first | rfl | (simp [plain1] at hp; done)
theorem rv_val1 {γ : Nat → Gh} {L : List AObj} {x : AV} (hp : plain1 x = true) : RV γ L x (val1 x) := by
  cases x <;> first | exact .int _ _ | exact .bool _ | exact .str _ | (simp [plain1] at hp; done)
theorem one_val1 {x : AV} (hp : plain1 x = true) : (val1 x).oneCell' = true := by
  cases x <;> first | rfl | (simp [plain1] at hp; done)
theorem valK_of {γ : Nat → Gh} {L : List AObj} {x : AV} {v : Value} (h : RV γ L x v) (hp : plainK x = true) : v = valK x := by
  cases h with
  | agg cs vs hn h1 h =>
    simp only [plainK, List.all_eq_true] at hp
    simp only [valK, Value.agg.injEq]
    apply Array.ext
    · simp [hn]
    · intro i h1 h2
      have hi : i < cs.length := by omega
      have := val1_of (h i cs[i] (by simp [hi])) (hp _ (List.getElem_mem _))
      simp only [Array.getD, h1, dite_true] at this
      simpa using this
  | int k n => rfl
  | bool b => rfl
  | str s => rfl
  | _ => simp [plainK, plain1] at hp
theorem rv_valK {γ : Nat → Gh} {L : List AObj} {x : AV} (hp : plainK x = true) : RV γ L x (valK x) := by
  cases x with
  | agg cs =>
    simp only [plainK, List.all_eq_true] at hp
    refine .agg _ _ (by simp) (fun v hv => ?_) (fun i x hx => ?_)
    · simp only [List.mem_toArray, List.mem_map] at hv
      obtain ⟨y, hy, rfl⟩ := hv
      exact one_val1 (hp y hy)
    · have hi := (List.getElem?_eq_some_iff.1 hx).1
      have e : (cs.map val1).toArray.getD i undef = val1 x := by
        rw [Array.getD_eq_getD_getElem?]; simp [hx]
      rw [e]
      exact rv_val1 (hp _ (List.mem_of_getElem? hx))
  | int k n => exact .int _ _
  | bool b => exact .bool _
  | str s => exact .str _
  | _ => simp [plainK, plain1] at hp

section
variable {κ ν : Type}
def entE (ek : κ → AV) (ev : ν → AV) (p : κ × ν) : AV × AV := (ek p.1, ev p.2)
def mapO (kt vt : TypeId) (ek : κ → AV) (ev : ν → AV) (m : List (κ × ν)) : AObj := .map kt vt (m.map (entE ek ev))

/-- How keys and elements of a map's type are told; 'z' is the element type's zero value. -/
structure MapT (P : Program) (kt vt : TypeId) (ek : κ → AV) (ev : ν → AV) (z : ν) : Prop where
  keyed : Keyed P kt
  pk : ∀ k, plainK (ek k) = true
  pv : ∀ v, plainK (ev v) = true
  one : ∀ v, (valK (ev v)).oneCell' = true
  inj : ∀ a b, valK (ek a) = valK (ek b) → a = b
  zero : zeroOf P vt = some (valK (ev z))

structure MapOk (P : Program) (kt : TypeId) (ek : κ → AV) (m : List (κ × ν)) : Prop where
  nd : (m.map Prod.fst).Nodup
  wf : ∀ k ∈ m.map Prod.fst, (keyOf P kt (valK (ek k))).isSome = true
theorem MapOk.nil {P : Program} {kt : TypeId} {ek : κ → AV} : MapOk P kt ek ([] : List (κ × ν)) := ⟨by simp, by simp⟩
variable {P : Program} {kt vt : TypeId} {ek : κ → AV} {ev : ν → AV} {z : ν}
theorem rep_ent (B : MapT P kt vt ek ev z) {m : List (κ × ν)} {arr : Array MapEntry} {clock : Nat} (h : MapRep (m.map (entE ek ev)) arr clock) (i : Nat) (e : MapEntry) (he : arr.toList[i]? = some e) :
    ∃ p, m[i]? = some p ∧ e.key = valK (ek p.1) ∧ e.val = valK (ev p.2) := by
  obtain ⟨h1, h2, h3⟩ := h
  have hi : i < arr.size := by simpa using (List.getElem?_eq_some_iff.1 he).1
  simp only [List.length_map] at h1
  have hm : m[i]? = some m[i] := List.getElem?_eq_getElem (by omega)
  obtain ⟨x, hx, k1, k2⟩ := h2 i (entE ek ev m[i]) (by simp [hm])
  rw [← Array.getElem?_toList, he] at hx
  cases hx
  exact ⟨m[i], hm, valK_of k1 (B.pk _), valK_of k2 (B.pv _)⟩

theorem find_run (B : MapT P kt vt ek ev z) {m : List (κ × ν)} {arr : Array MapEntry} {clock : Nat} (h : MapRep (m.map (entE ek ev)) arr clock) (M : MapOk P kt ek m) {x : κ} (hx : (keyOf P kt (valK (ek x))).isSome = true) (w : World) :
    ((Instr.findKey kt (valK (ek x)) arr.toList).run P w = .ok none w ∧ x ∉ m.map Prod.fst) ∨
    ∃ (j : Nat) (p : κ × ν) (e : MapEntry), (Instr.findKey kt (valK (ek x)) arr.toList).run P w = .ok (some (j, e.val)) w ∧ m[j]? = some p ∧ arr.toList[j]? = some e ∧ p.1 = x ∧ e.val = valK (ev p.2) ∧ e.key = valK (ek x) := by
  obtain ⟨lx, hlx⟩ := Option.isSome_iff_exists.1 hx
  have hall : ∀ e ∈ arr.toList, ∃ l, keyOf P kt e.key = some l := by
    intro e he
    obtain ⟨i, hi, rfl⟩ := List.getElem_of_mem he
    obtain ⟨p, hp, k1, _⟩ := rep_ent B h i _ (List.getElem?_eq_getElem hi)
    rw [k1]
    exact Option.isSome_iff_exists.1 (M.wf p.1 (List.mem_map.2 ⟨p, List.mem_of_getElem? hp, rfl⟩))
  rcases B.keyed.find w hlx arr.toList hall with ⟨h1, h2⟩ | ⟨j, e, h1, h2, h3⟩
  · refine .inl ⟨h1, fun hm => ?_⟩
    obtain ⟨p, hp, hpx⟩ := List.mem_map.1 hm
    obtain ⟨i, hi, hpi⟩ := List.getElem_of_mem hp
    have hia : i < arr.toList.length := by have := h.1; simp at this ⊢; omega
    obtain ⟨q, hq, k1, _⟩ := rep_ent B h i _ (List.getElem?_eq_getElem hia)
    rw [List.getElem?_eq_getElem hi] at hq
    cases hq
    exact h2 _ (List.getElem_mem hia) (by rw [k1, hpi, hpx])
  · obtain ⟨p, hp, k1, k2⟩ := rep_ent B h j e h2
    exact .inr ⟨j, p, e, h1, hp, h2, B.inj _ _ (by rw [← k1, h3]), k2, h3⟩

end

section
variable {κ ν : Type} [DecidableEq κ]
/-- What is known of a key. -/
def getM : List (κ × ν) → κ → Option ν
  | [], _ => none
  | (k, v) :: r, x => if k = x then some v else getM r x
/-- An element laid under a key. -/
def putM : List (κ × ν) → κ → ν → List (κ × ν)
  | [], x, y => [(x, y)]
  | (k, v) :: r, x, y => if k = x then (k, y) :: r else (k, v) :: putM r x y
theorem getM_putM (m : List (κ × ν)) (x : κ) (y : ν) (z : κ) : getM (putM m x y) z = if x = z then some y else getM m z := by
  induction m with
  | nil => simp [putM, getM]
  | cons p r ih =>
    obtain ⟨k, v⟩ := p
    simp only [putM]
    by_cases h : k = x
    · subst h
      rw [if_pos rfl]
      simp only [getM]
      by_cases hz : k = z
      · simp [hz]
      · simp [hz]
    · rw [if_neg h]
      simp only [getM, ih]
      by_cases hz : k = z
      · subst hz
        have : x ≠ k := fun e => h e.symm
        simp [this]
      · simp [hz]
theorem getM_none {m : List (κ × ν)} {x : κ} (h : x ∉ m.map Prod.fst) : getM m x = none := by
  induction m with
  | nil => rfl
  | cons p r ih =>
    simp only [List.map_cons, List.mem_cons, not_or] at h
    have hne : ¬ p.1 = x := fun e => h.1 e.symm
    simp only [getM, if_neg hne]
    exact ih h.2
theorem getM_at {m : List (κ × ν)} (hn : (m.map Prod.fst).Nodup) {j : Nat} {p : κ × ν} (h : m[j]? = some p) : getM m p.1 = some p.2 := by
  induction m generalizing j with
  | nil => simp at h
  | cons q r ih =>
    simp only [List.map_cons, List.nodup_cons] at hn
    cases j with
    | zero => simp at h; subst h; simp [getM]
    | succ j =>
      simp at h
      have hm : p.1 ∈ r.map Prod.fst := List.mem_map.2 ⟨p, List.mem_of_getElem? h, rfl⟩
      simp only [getM]
      rw [if_neg (fun e => hn.1 (by rw [e]; exact hm))]
      exact ih hn.2 h
theorem putM_new {m : List (κ × ν)} {x : κ} {y : ν} (h : x ∉ m.map Prod.fst) : putM m x y = m ++ [(x, y)] := by
  induction m with
  | nil => rfl
  | cons p r ih =>
    simp only [List.map_cons, List.mem_cons, not_or] at h
    have hne : ¬ p.1 = x := fun e => h.1 e.symm
    simp only [putM, if_neg hne, ih h.2, List.cons_append]
theorem putM_at {m : List (κ × ν)} (hn : (m.map Prod.fst).Nodup) {j : Nat} {p : κ × ν} {y : ν} (h : m[j]? = some p) : putM m p.1 y = m.set j (p.1, y) := by
  induction m generalizing j with
  | nil => simp at h
  | cons q r ih =>
    simp only [List.map_cons, List.nodup_cons] at hn
    cases j with
    | zero => simp at h; subst h; simp [putM]
    | succ j =>
      simp at h
      have hm : p.1 ∈ r.map Prod.fst := List.mem_map.2 ⟨p, List.mem_of_getElem? h, rfl⟩
      simp only [putM]
      rw [if_neg (fun e => hn.1 (by rw [e]; exact hm)), ih hn.2 h, List.set_cons_succ]
theorem putM_keys (m : List (κ × ν)) (x : κ) (y : ν) (z : κ) : z ∈ (putM m x y).map Prod.fst ↔ z = x ∨ z ∈ m.map Prod.fst := by
  induction m with
  | nil => simp [putM]
  | cons p r ih =>
    simp only [putM]
    by_cases h : p.1 = x
    · rw [if_pos h]; simp [h]
    · rw [if_neg h]
      simp only [List.map_cons, List.mem_cons, ih]
      constructor <;> rintro (h | h | h) <;> simp [h]
theorem putM_nodup {m : List (κ × ν)} (hn : (m.map Prod.fst).Nodup) (x : κ) (y : ν) : ((putM m x y).map Prod.fst).Nodup := by
  induction m with
  | nil => simp [putM]
  | cons p r ih =>
    simp only [List.map_cons, List.nodup_cons] at hn
    simp only [putM]
    by_cases h : p.1 = x
    · rw [if_pos h]; simpa using hn
    · rw [if_neg h]
      simp only [List.map_cons, List.nodup_cons]
      refine ⟨fun hm => ?_, ih hn.2⟩
      rcases (putM_keys r x y p.1).1 hm with e | e
      · exact h e
      · exact hn.1 e

theorem MapOk.put {P : Program} {kt : TypeId} {ek : κ → AV} {m : List (κ × ν)} (h : MapOk P kt ek m) {x : κ} (hx : (keyOf P kt (valK (ek x))).isSome = true) (y : ν) : MapOk P kt ek (putM m x y) :=
  ⟨putM_nodup h.nd x y, fun k hk => by
    rcases (putM_keys m x y k).1 hk with rfl | e
    · exact hx
    · exact h.wf k e⟩

variable {P : Program} {kt vt : TypeId} {ek : κ → AV} {ev : ν → AV} {z : ν}

def lookR (ev : ν → AV) (z : ν) (ok : Bool) (r : Option ν) : AV := if ok then .tup [ev (r.getD z), .bool r.isSome] else ev (r.getD z)

theorem zero_run {T : TypeId} {v : Value} (hz : zeroOf P T = some v) (w : World) : (zeroValue T).run P w = .ok v w := by
  unfold zeroOf at hz
  obtain ⟨i, hi, hz⟩ := Option.bind_eq_some_iff.1 hz
  simp [zeroValue, typeInfo, hi, hz]

theorem look_run (B : MapT P kt vt ek ev z) {m : List (κ × ν)} {arr : Array MapEntry} {clock : Nat} (h : MapRep (m.map (entE ek ev)) arr clock) (M : MapOk P kt ek m) {x : κ} (hx : (keyOf P kt (valK (ek x))).isSome = true)
    {w : World} {b : Nat} (hb : w.heap[b]? = some (.map arr clock)) {t : TypeId} (ht : P.underlying t = some (.map kt vt)) (ok : Bool) :
    ∃ v, (Instr.lookup t (.map (some b)) (valK (ek x)) ok).run P w = .ok v w ∧ ∀ γ L, RV γ L (lookR ev z ok (getM m x)) v := by
  obtain ⟨lx, hlx⟩ := Option.isSome_iff_exists.1 hx
  have two : ∀ (y : ν) (f : Bool) γ L, RV γ L (.tup [ev y, .bool f]) (.tuple #[valK (ev y), .bool f]) := fun y f γ L =>
    .tup _ _ rfl (fun i x hx => by
      match i, hx with
      | 0, hx => simp at hx; subst hx; exact rv_valK (B.pv _)
      | 1, hx => simp at hx; subst hx; exact .bool _
      | i + 2, hx => simp at hx)
  rcases find_run B h M hx w with ⟨h1, h2⟩ | ⟨j, p, e, h1, h2, h3, rfl, h4, h5⟩
  · rw [getM_none h2]
    refine ⟨if ok then .tuple #[valK (ev z), .bool false] else valK (ev z), by simp [Instr.lookup, run_underlying ht, MapKept.run_getObj_map hb, B.keyed.check w _ hlx, h1, zero_run B.zero, Result.andThen], fun γ L => ?_⟩
    cases ok
    · exact rv_valK (B.pv _)
    · exact two z false γ L
  · rw [getM_at M.nd h2]
    refine ⟨if ok then .tuple #[valK (ev p.2), .bool true] else valK (ev p.2), by simp [Instr.lookup, run_underlying ht, MapKept.run_getObj_map hb, B.keyed.check w _ hlx, h1, h4, Result.andThen], fun γ L => ?_⟩
    cases ok
    · exact rv_valK (B.pv _)
    · exact two p.2 true γ L

theorem put_run (B : MapT P kt vt ek ev z) {m : List (κ × ν)} {arr : Array MapEntry} {clock : Nat} (h : MapRep (m.map (entE ek ev)) arr clock) (M : MapOk P kt ek m) {x : κ} (hx : (keyOf P kt (valK (ek x))).isSome = true)
    {w : World} {b : Nat} (hb : w.heap[b]? = some (.map arr clock)) {t : TypeId} (ht : P.underlying t = some (.map kt vt)) (y : ν) :
    ∃ arr' clock', (Instr.mapUpdate t (.map (some b)) (valK (ek x)) (valK (ev y))).run P w = .ok () (setBlock w b (.map arr' clock')) ∧ MapRep ((putM m x y).map (entE ek ev)) arr' clock' := by
  obtain ⟨lx, hlx⟩ := Option.isSome_iff_exists.1 hx
  obtain ⟨r1, r2, r3⟩ := h
  simp only [List.length_map] at r1
  rcases find_run B ⟨by simpa using r1, r2, r3⟩ M hx w with ⟨h1, h2⟩ | ⟨j, p, e, h1, h2, h3, rfl, h4, h5⟩
  · refine ⟨arr.push ⟨valK (ek x), valK (ev y), clock⟩, clock + 1, by simp [Instr.mapUpdate, run_underlying ht, MapKept.run_getObj_map hb, B.keyed.check w _ hlx, h1, MapKept.run_setObj_map _ hb, Result.andThen, setBlock], ?_⟩
    rw [putM_new h2]
    refine ⟨by simp [r1], fun i e he => ?_, fun q hq => ?_⟩
    · rw [List.map_append] at he
      by_cases hi : i < m.length
      · rw [List.getElem?_append_left (by simpa using hi)] at he
        obtain ⟨q, hq, k1, k2⟩ := r2 i e he
        exact ⟨q, by rw [Array.getElem?_push_lt (by omega)]; rw [← hq, Array.getElem?_eq_getElem (by omega)], k1, k2⟩
      · have hi2 : i = m.length := by
          have := (List.getElem?_eq_some_iff.1 he).1
          simp at this; omega
        subst hi2
        rw [List.getElem?_append_right (by simp)] at he
        simp at he
        subst he
        exact ⟨⟨valK (ek x), valK (ev y), clock⟩, by rw [← r1]; simp, rv_valK (B.pk x), rv_valK (B.pv y)⟩
    · rcases Array.mem_push.1 hq with hq | rfl
      · have := r3 q hq; omega
      · exact Nat.lt_succ_self _
  · have hj : arr[j]? = some e := by rw [← Array.getElem?_toList]; exact h3
    have hjl := (Array.getElem?_eq_some_iff.1 hj).1
    have hstay := B.keyed.stays w hlx
    refine ⟨arr.modify j (fun e' => { e' with key := valK (ek p.1), val := valK (ev y) }), clock, by simp [Instr.mapUpdate, run_underlying ht, MapKept.run_getObj_map hb, B.keyed.check w _ hlx, h1, hj, h5, hstay, MapKept.run_setObj_map _ hb, Result.andThen, setBlock], ?_⟩
    rw [putM_at M.nd h2]
    refine ⟨by simp [r1], fun i q hq => ?_, fun q hq => ?_⟩
    · rw [List.map_set] at hq
      by_cases hi : j = i
      · subst hi
        rw [List.getElem?_set_self (by simp; omega)] at hq
        cases hq
        refine ⟨{ e with key := valK (ek p.1), val := valK (ev y) }, ?_, rv_valK (B.pk _), rv_valK (B.pv _)⟩
        rw [Array.getElem?_modify, hj]; simp
      · rw [List.getElem?_set_ne hi] at hq
        obtain ⟨q', hq', k1, k2⟩ := r2 i q hq
        refine ⟨q', ?_, k1, k2⟩
        rw [Array.getElem?_modify, hq', if_neg hi]
    · obtain ⟨i, hi, rfl⟩ := Array.getElem_of_mem hq
      simp only [Array.size_modify] at hi
      rw [Array.getElem_modify]
      have := r3 _ (Array.getElem_mem (xs := arr) (i := i) hi)
      split <;> exact this

/-- Looking a key up in a map of the call's own. -/
theorem look_sound (B : MapT P kt vt ek ev z) {o : Oper} {s : St} {t : TypeId} {xm xi : Operand} {ok : Bool} {id : Nat} {m : List (κ × ν)} {x : κ} (ho : o.op = .lookup t xm xi ok) (hm : s.ev xm = .map id) (hi : s.ev xi = ek x)
    (hL : s.L[id]? = some (mapO kt vt ek ev m)) (ht : P.underlying t = some (.map kt vt)) (M : MapOk P kt ek m) (hx : (keyOf P kt (valK (ek x))).isSome = true) : OpS P o s (s.put o.dst (lookR ev z ok (getM m x))) := by
  refine OpS.pure fun γ a w hr => ?_
  have h1 := hr.ev xm
  have h2 := hr.ev xi
  rw [hm] at h1
  rw [hi] at h2
  generalize hvm : a.eval xm = vm at h1
  have e2 := valK_of h2 (B.pk x)
  cases h1 with
  | map _ b c kt' vt' es hL' hb =>
    obtain ⟨ob, hob, hrep⟩ := hr.inv.ow _ _ _ _ hb
    unfold BlockRep at hrep
    rw [hL] at hrep
    obtain ⟨_, arr, clock, rfl, hrep⟩ := hrep
    obtain ⟨v, hv, hrv⟩ := look_run B hrep M hx hob ht ok
    exact ⟨v, by simp [execOp, ho, hvm, e2, hv], hrv _ _⟩

/-- Laying an element under a key. -/
theorem put_sound (B : MapT P kt vt ek ev z) {o : Oper} {s : St} {t : TypeId} {xm xi xv : Operand} {id : Nat} {m : List (κ × ν)} {x : κ} {y : ν} (ho : o.op = .mapUpdate t xm xi xv) (hm : s.ev xm = .map id) (hi : s.ev xi = ek x) (hv : s.ev xv = ev y)
    (hL : s.L[id]? = some (mapO kt vt ek ev m)) (ht : P.underlying t = some (.map kt vt)) (M : MapOk P kt ek m) (hx : (keyOf P kt (valK (ek x))).isSome = true) : OpS P o s ({ s with L := s.L.set id (mapO kt vt ek ev (putM m x y)) }.put o.dst .junk) := by
  intro γ a w K Q hr hK
  refine .inl ?_
  have h1 := hr.ev xm
  have h2 := hr.ev xi
  have h3 := hr.ev xv
  rw [hm] at h1
  rw [hi] at h2
  rw [hv] at h3
  generalize hvm : a.eval xm = vm at h1
  have e2 := valK_of h2 (B.pk x)
  have e3 := valK_of h3 (B.pv y)
  cases h1 with
  | map _ b c kt' vt' es hL' hb =>
    obtain ⟨ob, hob, hrep⟩ := hr.inv.ow _ _ _ _ hb
    unfold BlockRep at hrep
    rw [hL] at hrep
    obtain ⟨_, arr, clock, rfl, hrep⟩ := hrep
    obtain ⟨arr', clock', hrun, hrep'⟩ := put_run B hrep M hx hob ht y
    have hlt := (List.getElem?_eq_some_iff.1 hL).1
    obtain ⟨E, hI, hS⟩ := hr.inv.write (x' := mapO kt vt ek ev (putM m x y)) (w' := setBlock w b (.map arr' clock')) (o' := .map arr' clock') hb hL ⟨rfl, rfl⟩
      ⟨fun _ _ h => (by cases h), fun _ _ _ _ => ⟨_, _, _, rfl⟩⟩ (fun k hk => heap_setBlock_other hob _ hk) (heap_setBlock_same hob _) (by simp [setBlock]) rfl rfl rfl
      (fun E => by
        unfold BlockRep
        rw [List.getElem?_set_self hlt]
        exact ⟨rfl, _, _, rfl, hrep'⟩)
      (fun E b2 p2 c2 o2 hne hb2 hr2 => by
        exfalso
        unfold BlockRep at hr2
        simp only [hL, mapO] at hr2
        obtain ⟨rfl, _⟩ := hr2
        exact hne (hr.inv.inj _ _ _ _ _ _ hb2 hb))
    unfold Oper.wp execOp
    rw [ho]
    simp only [hvm, e2, e3, Sem.run_bind, hrun, Result.andThen_ok, Sem.run_pure]
    refine hK _ _ _ ((hr.mono E hI).put o.dst (.junk _)) (by rw [St.put_L]; exact E) hS

/-- A new map. -/
theorem make_sound_map {o : Oper} {s : St} {t : TypeId} (kt vt : TypeId) (ho : o.op = .makeMap t none) : OpS P o s ({ s with L := s.L ++ [AObj.map kt vt []] }.put o.dst (.map s.L.length)) := by
  intro γ a w K Q hr hK
  refine .inl ?_
  have hA := hr.inv.allocObj (.map #[] 0) (AObj.map kt vt []) 0 (fun E => by
    unfold BlockRep
    simp only [List.getElem?_append_right (Nat.le_refl _), Nat.sub_self, List.getElem?_cons_zero]
    exact ⟨trivial, _, _, rfl, by simp, by simp, by simp⟩)
  obtain ⟨E, hI, hS⟩ := hA
  unfold Oper.wp execOp
  rw [ho]
  have hrun : (Instr.makeMap t none).run P w = .ok (.map (some w.heap.size)) (w.alloc (.map #[] 0)) := rfl
  simp only [Option.map_none, Sem.run_bind, hrun, Result.andThen_ok, Sem.run_pure]
  refine hK _ _ _ ((hr.mono E hI).put o.dst (.map _ w.heap.size 0 kt vt [] ?_ ?_)) (by rw [St.put_L]; exact E) hS
  · simp
  · simp [newG]

theorem RunL.look (B : MapT P kt vt ek ev z) {k : Oper → Knd} {ops : Array Oper} {K : St → Prop} {o : Oper} {rest : List Oper} {s : St} {t : TypeId} {xm xi : Operand} {ok : Bool} {id : Nat} (m : List (κ × ν)) (x : κ)
    (hg : guardA ops s o = some true) (ho : o.op = .lookup t xm xi ok) (hm : s.ev xm = .map id) (hi : s.ev xi = ek x)
    (hL : s.L[id]? = some (mapO kt vt ek ev m)) (ht : P.underlying t = some (.map kt vt)) (M : MapOk P kt ek m) (hx : (keyOf P kt (valK (ek x))).isSome = true) (hkd : Knd.le .C (k o) = true)
    (hk : R P k ops rest (s.put o.dst (lookR ev z ok (getM m x))) K) : RunL P k ops (o :: rest) s K := by
  refine .op ⟨.C, lookR ev z ok (getM m x), s.L⟩ hkd ⟨⟨fun h _ => ⟨[], by simp⟩, fun h => (nomatch h)⟩, fun s1 ha hL1 => ⟨by rw [agree_guard ha]; exact hg, ?_⟩⟩ (R.sound hk)
  have hL1 : s1.L = s.L := hL1
  have e1 : s1.ev xm = .map id := by rw [agree_ev ha (by rw [ho]; simp [Op.operands]), hm]
  have e2 : s1.ev xi = ek x := by rw [agree_ev ha (by rw [ho]; simp [Op.operands]), hi]
  have := look_sound (P := P) (s := s1) B ho e1 e2 (by rw [hL1]; exact hL) ht M hx
  simp only [Sd.app]
  rw [← hL1]
  exact this

theorem RunL.put (B : MapT P kt vt ek ev z) {k : Oper → Knd} {ops : Array Oper} {K : St → Prop} {o : Oper} {rest : List Oper} {s : St} {t : TypeId} {xm xi xv : Operand} {id : Nat} (m : List (κ × ν)) (x : κ) (y : ν)
    (hg : guardA ops s o = some true) (ho : o.op = .mapUpdate t xm xi xv) (hm : s.ev xm = .map id) (hi : s.ev xi = ek x) (hv : s.ev xv = ev y)
    (hL : s.L[id]? = some (mapO kt vt ek ev m)) (ht : P.underlying t = some (.map kt vt)) (M : MapOk P kt ek m) (hx : (keyOf P kt (valK (ek x))).isSome = true) (hkd : Knd.le .C (k o) = true)
    (hk : R P k ops rest ({ s with L := s.L.set id (mapO kt vt ek ev (putM m x y)) }.put o.dst .junk) K) : RunL P k ops (o :: rest) s K := by
  have hal : isAlloc k o = false := by unfold isAlloc; rw [ho]
  refine .op ⟨.C, .junk, s.L.set id (mapO kt vt ek ev (putM m x y))⟩ hkd ⟨⟨fun h _ => (by rw [hal] at h; cases h), fun h => (nomatch h)⟩, fun s1 ha hL1 => ⟨by rw [agree_guard ha]; exact hg, ?_⟩⟩ (R.sound hk)
  have hL1 : s1.L = s.L := hL1
  have e1 : s1.ev xm = .map id := by rw [agree_ev ha (by rw [ho]; simp [Op.operands]), hm]
  have e2 : s1.ev xi = ek x := by rw [agree_ev ha (by rw [ho]; simp [Op.operands]), hi]
  have e3 : s1.ev xv = ev y := by rw [agree_ev ha (by rw [ho]; simp [Op.operands]), hv]
  have := put_sound (P := P) (s := s1) B ho e1 e2 e3 (by rw [hL1]; exact hL) ht M hx
  simp only [Sd.app]
  rw [← hL1]
  exact this

theorem RunL.newMap {k : Oper → Knd} {ops : Array Oper} {K : St → Prop} {o : Oper} {rest : List Oper} {s : St} {t : TypeId} (kt vt : TypeId)
    (hg : guardA ops s o = some true) (ho : o.op = .makeMap t none) (hkd : Knd.le .C (k o) = true)
    (hk : R P k ops rest ({ s with L := s.L ++ [AObj.map kt vt []] }.put o.dst (.map s.L.length)) K) : RunL P k ops (o :: rest) s K := by
  refine .op ⟨.C, .map s.L.length, s.L ++ [AObj.map kt vt []]⟩ hkd ⟨⟨fun h _ => ⟨_, rfl⟩, fun h => (nomatch h)⟩, fun s1 ha hL1 => ⟨by rw [agree_guard ha]; exact hg, ?_⟩⟩ (R.sound hk)
  have hL1 : s1.L = s.L := hL1
  have := make_sound_map (P := P) (s := s1) kt vt ho
  simp only [Sd.app]
  rw [← hL1]
  exact this
end

/-! ### keys that are pairs of whole numbers, or whole numbers -/
def ekP (p : Int × Int) : AV := .agg [.int .i64 p.1, .int .i64 p.2]
def ekI (q : IntKind) (n : Int) : AV := .int q n
theorem ekP_inj (a b : Int × Int) (h : valK (ekP a) = valK (ekP b)) : a = b := by
  obtain ⟨a1, a2⟩ := a
  obtain ⟨b1, b2⟩ := b
  simp [valK, ekP, val1] at h
  exact Prod.ext h.1 h.2
theorem ekI_inj (q : IntKind) (a b : Int) (h : valK (ekI q a) = valK (ekI q b)) : a = b := by
  simpa [valK, ekI, val1] using h
theorem mapT_pair {P : Program} {kt vt e : TypeId} (A : WideMaps.ArrKey P kt e 2) {ν : Type} {ev : ν → AV} {z : ν} (hv : ∀ v, plainK (ev v) = true) (ho : ∀ v, (valK (ev v)).oneCell' = true) (hz : zeroOf P vt = some (valK (ev z))) : MapT P kt vt ekP ev z :=
  ⟨Keyed.of_law A.law, fun _ => rfl, hv, ho, ekP_inj, hz⟩
theorem mapT_int {P : Program} {kt vt : TypeId} {q : IntKind} (hk : P.underlying kt = some (.int q)) {ν : Type} {ev : ν → AV} {z : ν} (hv : ∀ v, plainK (ev v) = true) (ho : ∀ v, (valK (ev v)).oneCell' = true) (hz : zeroOf P vt = some (valK (ev z))) : MapT P kt vt (ekI q) ev z :=
  ⟨Maps.int_keyed hk, fun _ => rfl, hv, ho, ekI_inj q, hz⟩
end Go.Proofs.Ytphmkhaboghagaa.K
/-
  A logic of values for Go's functions (part 23): a nil slice in a variable, told as a slice without elements.
-/
namespace Go.Proofs.Ytphmkhaboghagaa.K
set_option linter.unusedVariables false
set_option linter.unusedSimpArgs false
open Go Go.RowKit

theorem AWp.nilS {P : Program} {c : Code} {Q : Exit → St → Prop} {s : St} (id j : Nat) {T0 : TypeId} {cs : List AV} (hL : s.L[id]? = some (.box T0 cs)) (hj : cs[j]? = some (.lit (.slice none 0 0)))
    (h : AWp P c Q ⟨s.t, s.L.set id (.box T0 (cs.set j (.sl false [])))⟩) : AWp P c Q s := by
  intro ro γ a w hp hr
  have hlt := (List.getElem?_eq_some_iff.1 hL).1
  have hE : Ext γ s.L γ (s.L.set id (.box T0 (cs.set j (.sl false [])))) := .set hL ⟨rfl, by simp⟩
  have hI : Inv γ (s.L.set id (.box T0 (cs.set j (.sl false [])))) w := by
    refine ⟨hr.inv.ro, fun b id1 p c hb => ?_, hr.inv.inj, fun id1 T1 cs1 hL1 => ?_, fun id1 kt vt es hL1 => ?_⟩
    · obtain ⟨o, ho, hrep⟩ := hr.inv.ow _ _ _ _ hb
      refine ⟨o, ho, ?_⟩
      by_cases hi : id1 = id
      · subst hi
        unfold BlockRep at hrep ⊢
        simp only [hL] at hrep
        simp only [List.getElem?_set_self hlt]
        obtain ⟨h1, arr, h2, h3, h4⟩ := hrep
        refine ⟨h1, arr, h2, by simpa using h3, fun k x hx => ?_⟩
        by_cases hjk : j = k
        · subst hjk
          have hjl := (List.getElem?_eq_some_iff.1 hj).1
          simp [hjl] at hx
          subst hx
          obtain ⟨v, a1, a2, a3⟩ := h4 j _ hj
          refine ⟨v, a1, a2, ?_⟩
          cases a3
          exact .sl _ _ _ 0 0 0 (fun _ _ => undef) rfl (Nat.le_refl _) (by simp) (by simp) (by simp) (by simp)
        · rw [List.getElem?_set_ne hjk] at hx
          obtain ⟨v, a1, a2, a3⟩ := h4 k x hx
          exact ⟨v, a1, a2, a3.mono hE⟩
      · exact hrep.upd hE (List.getElem?_set_ne (fun e => hi e.symm))
    · by_cases hi2 : id = id1
      · subst hi2; exact hr.inv.box _ _ _ hL
      · rw [List.getElem?_set_ne hi2] at hL1; exact hr.inv.box _ _ _ hL1
    · by_cases hi2 : id = id1
      · subst hi2; simp [hlt] at hL1
      · rw [List.getElem?_set_ne hi2] at hL1; exact hr.inv.map _ _ _ _ hL1
  have hr' := hr.mono hE hI
  refine wpIn_mono (h ro γ a w hp hr') ?_
  rintro e a' w' ⟨γ', s', h1, h2, h3, h4⟩
  exact ⟨γ', s', h1, hE.trans h2, h3, h4⟩

theorem RunL.callp_ex {P : Program} {k : Oper → Knd} {ops : Array Oper} {K : AV → List AObj → St → Prop} {Z : AV → List AObj → Prop} {o : Oper} {rest : List Oper} {s : St} {f : FuncId} {args : Array Operand} {ats : Array TypeId} {r : AV} {xs : List AV}
    (hg : guardA ops s o = some true) (ho : o.op = .call { callee := .value (.func f), args := args, argTypes := ats }) (hf : okFn P f = true)
    (h : Ct P f xs [] r []) (hp : pureL xs = true) (hx : args.toList.map s.ev = xs) (hk : ∃ q L', R P k ops rest (s.put o.dst r) (K q L') ∧ Z q L') : ∃ q L', RunL P k ops (o :: rest) s (K q L') ∧ Z q L' := by
  obtain ⟨q, L', h1, h2⟩ := hk
  exact ⟨q, L', .callp hg ho hf h hp hx h1, h2⟩
theorem AWp.nilS_ex {P : Program} {c : Code} {Kq : AV → List AObj → Exit → St → Prop} {Z : AV → List AObj → Prop} {s : St} (id j : Nat) {T0 : TypeId} {cs : List AV} (hL : s.L[id]? = some (.box T0 cs)) (hj : cs[j]? = some (.lit (.slice none 0 0)))
    (h : ∃ r L', AWp P c (Kq r L') ⟨s.t, s.L.set id (.box T0 (cs.set j (.sl false [])))⟩ ∧ Z r L') : ∃ r L', AWp P c (Kq r L') s ∧ Z r L' := by
  obtain ⟨r, L', h1, h2⟩ := h
  exact ⟨r, L', AWp.nilS id j hL hj h1, h2⟩

end Go.Proofs.Ytphmkhaboghagaa.K
/-
  Lists of whole numbers: their sizes, their copies, compared, marked, found again.
-/
namespace Go.Proofs.Ytphmkhaboghagaa
open Go K Od
set_option linter.unusedSimpArgs false
set_option linter.unusedVariables false
set_option maxHeartbeats 1600000
set_option maxRecDepth 8000

theorem i64_id {x : Int} (h1 : -9223372036854775808 ≤ x) (h2 : x < 9223372036854775808) : IntKind.i64.wrap x = x := w64_id h1 (by omega)

/-- The room that is left behind a list. -/
def szN (n : Nat) (l : Int) : Int := if l - n < 0 then -1 else l - n
theorem szIntS_ok (l : List Int) (k : Int) (hl : l.length ≤ 9223372036854775807) (h0 : 0 ≤ k) (h1 : k ≤ 1048576) : Ct Try.prog 75 [.sl false (ints l), .int .i64 k] [] (.int .i64 (szN l.length k)) [] := by
  have hw : IntKind.i64.wrap (k - (l.length : Int)) = k - l.length := i64_id (by omega) (by omega)
  refine Ct.by_ hmix [] Try.func75 rfl ?_
  simp only [run0, run1, run2, run3, run4, run5, run6, run7, run8, run9, run10, run11, run12, run13, run14, run15, run16, run17, run18, run19, run20, run21, run22, reduceCtorEq, Nat.reduceEqDiff, Nat.reduceAdd, Nat.reduceSub, Nat.reduceLeDiff, indexAddrA, indexRefA, appendA, strA, Nat.reduceMul, Nat.zero_mul, Nat.reduceMod, Int.reduceEq, Int.reduceLT, Int.reduceLE, Nat.reduceLT, Nat.lt_irrefl, Nat.reduceBEq, tys0, tys1, tys2, tys3, tys4, tys5, tys6, tys7, tys8, tys9, tys10, tys11, tys12, tys13, tys14, tys15, tys16, tys17, tys18, Try.ntmps75, Try.results75, hw, List.length_map]
  by_cases h2 : k - (l.length : Int) < 0
  · simp only [run0, run1, run2, run3, run4, run5, run6, run7, run8, run9, run10, run11, run12, run13, run14, run15, run16, run17, run18, run19, run20, run21, run22, reduceCtorEq, Nat.reduceEqDiff, Nat.reduceAdd, Nat.reduceSub, Nat.reduceLeDiff, indexAddrA, indexRefA, appendA, strA, Nat.reduceMul, Nat.zero_mul, Nat.reduceMod, Int.reduceEq, Int.reduceLT, Int.reduceLE, Nat.reduceLT, Nat.lt_irrefl, Nat.reduceBEq, tys0, tys1, tys2, tys3, tys4, tys5, tys6, tys7, tys8, tys9, tys10, tys11, tys12, tys13, tys14, tys15, tys16, tys17, tys18, Try.ntmps75, Try.results75, h2]
    exact Fin.eq (by simp [szN, h2]) rfl
  · simp only [run0, run1, run2, run3, run4, run5, run6, run7, run8, run9, run10, run11, run12, run13, run14, run15, run16, run17, run18, run19, run20, run21, run22, reduceCtorEq, Nat.reduceEqDiff, Nat.reduceAdd, Nat.reduceSub, Nat.reduceLeDiff, indexAddrA, indexRefA, appendA, strA, Nat.reduceMul, Nat.zero_mul, Nat.reduceMod, Int.reduceEq, Int.reduceLT, Int.reduceLE, Nat.reduceLT, Nat.lt_irrefl, Nat.reduceBEq, tys0, tys1, tys2, tys3, tys4, tys5, tys6, tys7, tys8, tys9, tys10, tys11, tys12, tys13, tys14, tys15, tys16, tys17, tys18, Try.ntmps75, Try.results75, h2]
    exact Fin.eq (by simp [szN, h2]) rfl

/-- A row of whole numbers, and zeros behind it. -/
abbrev intsZ (d : List Int) (n : Nat) : List AV := ints d ++ List.replicate n (.int .i64 0)
theorem intsZ_noOwn (d : List Int) (n : Nat) : noOwn (intsZ d n) = true := by
  refine List.all_eq_true.2 fun e he => ?_
  rcases List.mem_append.1 he with he | he
  · exact List.all_eq_true.1 (ints_noOwn d) e he
  · rw [(List.mem_replicate.1 he).2]; rfl
theorem Vw_intR {L : List AObj} {id g n : Nat} {T : TypeId} {es : List AV} {l : List Int} {o : Bool} (hL : L[id]? = some (.vec T 1 g es)) (he : es = ints l) (hn : n = l.length) : Vw L (.ref id [] g n) (.sl o (ints l)) := by
  subst he hn
  have := Vw.refPur (o := o) hL (n := l.length) (by simp) (fun e he c hc => by
    obtain ⟨y, _, rfl⟩ := List.mem_map.1 he
    simp only [AV.cells, List.mem_cons, List.not_mem_nil, or_false] at hc
    subst hc
    exact ⟨.int _ _, fun xs h => by cases h⟩)
  rwa [List.take_of_length_le (by simp)] at this

/-- A copy as a row of the call's own. -/
theorem toIntS_own (l : List Int) (hl : l.length ≤ 1048576) : Ct Try.prog 78 [.sl false (ints l)] [] (.ref 0 [] 0 l.length) [.vec 3 1 0 (ints l)] := by
  have b0 : (l.length : Int) ≤ 137438953472 := by omega
  have b1 : (l.length : Int) ≤ 17592186044416 := by omega
  refine Ct.by_ hmix [] Try.func78 rfl ?_
  simp only [run0, run1, run2, run3, run4, run5, run6, run7, run8, run9, run10, run11, run12, run13, run14, run15, run16, run17, run18, run19, run20, run21, run22, reduceCtorEq, Nat.reduceEqDiff, Nat.reduceAdd, Nat.reduceSub, Nat.reduceLeDiff, indexAddrA, indexRefA, appendA, strA, Nat.reduceMul, Nat.zero_mul, Nat.reduceMod, Int.reduceEq, Int.reduceLT, Int.reduceLE, Nat.reduceLT, Nat.lt_irrefl, Nat.reduceBEq, tys0, tys1, tys2, tys3, tys4, tys5, tys6, tys7, tys8, tys9, tys10, tys11, tys12, tys13, tys14, tys15, tys16, tys17, tys18, Try.ntmps78, Try.results78, b0, b1, List.length_map, Int.natCast_nonneg, Int.le_refl, Int.toNat_natCast]
  refine AWp.loop_inv (ι := List Int × List Int) (fun p => ⟨[.sl false (ints l), .junk, .junk, .ref 0 [] 0 l.length, .int .i64 p.1.length, .junk, .junk, .junk, .junk, .junk, .junk, .junk, .junk, .junk, .junk, .junk, .junk, .junk, .junk, .junk, .junk, .junk], [.vec 3 1 0 (intsZ p.1 p.2.length)]⟩)
    (fun p => l = p.1 ++ p.2) (fun p => p.2.length) ([], l) rfl ⟨by simp only [List.length_nil, Int.natCast_zero]; repeat constructor, rfl⟩ ?_
  rintro ⟨d, r⟩ ha
  refine W.sound hmix (E := []) ?_
  simp only at ha
  have hda : d.length + r.length = l.length := by rw [ha, List.length_append]
  cases r with
  | nil =>
    have e1 : ¬ ((d.length : Int) < (l.length : Int)) := by simp at hda; omega
    simp only [run0, run1, run2, run3, run4, run5, run6, run7, run8, run9, run10, run11, run12, run13, run14, run15, run16, run17, run18, run19, run20, run21, run22, reduceCtorEq, Nat.reduceEqDiff, Nat.reduceAdd, Nat.reduceSub, Nat.reduceLeDiff, indexAddrA, indexRefA, appendA, strA, Nat.reduceMul, Nat.zero_mul, Nat.reduceMod, Int.reduceEq, Int.reduceLT, Int.reduceLE, Nat.reduceLT, Nat.lt_irrefl, Nat.reduceBEq, tys0, tys1, tys2, tys3, tys4, tys5, tys6, tys7, tys8, tys9, tys10, tys11, tys12, tys13, tys14, tys15, tys16, tys17, tys18, Try.ntmps78, Try.results78, e1, List.length_map]
    have hd : d = l := by rw [ha, List.append_nil]
    subst hd
    exact Fin.own (by simp) rfl
  | cons e r =>
    simp only [List.length_cons] at hda
    have e1 : (d.length : Int) < (l.length : Int) := by omega
    have e2 : (ints l)[d.length]? = some (.int .i64 e) := by rw [ha]; exact ints_get d r e
    have e5 : IntKind.i64.wrap ((d.length : Int) + 1) = ((d ++ [e]).length : Int) := by rw [i64_id (by omega) (by omega)]; simp
    have hle : (ints d).length = d.length := by simp
    have e6 : (intsZ d (r.length + 1))[d.length]? = some (.int .i64 0) := by simp [intsZ, List.replicate_succ]
    have e7 : noOwn (intsZ d (r.length + 1)) = true := intsZ_noOwn d (r.length + 1)
    have e8 : (intsZ d (r.length + 1)).set d.length (.int .i64 e) = intsZ (d ++ [e]) r.length := by
      unfold intsZ
      rw [List.set_append_right _ _ (by simp)]; simp [List.replicate_succ]
    simp only [run0, run1, run2, run3, run4, run5, run6, run7, run8, run9, run10, run11, run12, run13, run14, run15, run16, run17, run18, run19, run20, run21, run22, reduceCtorEq, Nat.reduceEqDiff, Nat.reduceAdd, Nat.reduceSub, Nat.reduceLeDiff, indexAddrA, indexRefA, appendA, strA, Nat.reduceMul, Nat.zero_mul, Nat.reduceMod, Int.reduceEq, Int.reduceLT, Int.reduceLE, Nat.reduceLT, Nat.lt_irrefl, Nat.reduceBEq, tys0, tys1, tys2, tys3, tys4, tys5, tys6, tys7, tys8, tys9, tys10, tys11, tys12, tys13, tys14, tys15, tys16, tys17, tys18, Try.ntmps78, Try.results78, List.length_map, e1, e2, e5, e6, e7, e8, Int.toNat_natCast, Int.natCast_nonneg]
    exact ⟨(d ++ [e], r), by simp [ha], by simp, by simp only [List.length_append, List.length_cons, List.length_nil]; repeat constructor, rfl⟩
theorem toIntS_ok (l : List Int) (hl : l.length ≤ 1048576) : Ct Try.prog 78 [.sl false (ints l)] [] (.sl false (ints l)) [] := (toIntS_own l hl).toV (Vw_intR rfl rfl rfl)

theorem eqIntS_ok (l : List Int) (hl : l.length ≤ 1048576) : Ct Try.prog 82 [.sl false (ints l), .sl false (ints l)] [] (.bool true) [] := by
  refine Ct.by_ hmix [] Try.func82 rfl ?_
  simp only [run0, run1, run2, run3, run4, run5, run6, run7, run8, run9, run10, run11, run12, run13, run14, run15, run16, run17, run18, run19, run20, run21, run22, reduceCtorEq, Nat.reduceEqDiff, Nat.reduceAdd, Nat.reduceSub, Nat.reduceLeDiff, indexAddrA, indexRefA, appendA, strA, Nat.reduceMul, Nat.zero_mul, Nat.reduceMod, Int.reduceEq, Int.reduceLT, Int.reduceLE, Nat.reduceLT, Nat.lt_irrefl, Nat.reduceBEq, tys0, tys1, tys2, tys3, tys4, tys5, tys6, tys7, tys8, tys9, tys10, tys11, tys12, tys13, tys14, tys15, tys16, tys17, tys18, Try.ntmps82, Try.results82, bne_self_eq_false, List.length_map]
  refine AWp.loop_inv (ι := List Int × List Int) (fun p => ⟨[.sl false (ints l), .sl false (ints l), .junk, .junk, .bool false, .int .i64 p.1.length, .junk, .junk, .junk, .junk, .junk, .junk, .junk, .junk, .junk, .junk, .junk, .junk, .junk, .junk, .junk, .junk, .junk, .junk, .junk, .junk], []⟩)
    (fun p => l = p.1 ++ p.2) (fun p => p.2.length) ([], l) rfl ⟨by simp only [List.length_nil, Int.natCast_zero]; repeat constructor, rfl⟩ ?_
  rintro ⟨d, r⟩ ha
  refine W.sound hmix (E := []) ?_
  simp only at ha
  have hda : d.length + r.length = l.length := by rw [ha, List.length_append]
  cases r with
  | nil =>
    have e1 : ¬ ((d.length : Int) < (l.length : Int)) := by simp at hda; omega
    simp only [run0, run1, run2, run3, run4, run5, run6, run7, run8, run9, run10, run11, run12, run13, run14, run15, run16, run17, run18, run19, run20, run21, run22, reduceCtorEq, Nat.reduceEqDiff, Nat.reduceAdd, Nat.reduceSub, Nat.reduceLeDiff, indexAddrA, indexRefA, appendA, strA, Nat.reduceMul, Nat.zero_mul, Nat.reduceMod, Int.reduceEq, Int.reduceLT, Int.reduceLE, Nat.reduceLT, Nat.lt_irrefl, Nat.reduceBEq, tys0, tys1, tys2, tys3, tys4, tys5, tys6, tys7, tys8, tys9, tys10, tys11, tys12, tys13, tys14, tys15, tys16, tys17, tys18, Try.ntmps82, Try.results82, e1, List.length_map]
    exact Fin.eq rfl rfl
  | cons e r =>
    simp only [List.length_cons] at hda
    have e1 : (d.length : Int) < (l.length : Int) := by omega
    have e2 : (ints l)[d.length]? = some (.int .i64 e) := by rw [ha]; exact ints_get d r e
    have e5 : IntKind.i64.wrap ((d.length : Int) + 1) = ((d ++ [e]).length : Int) := by rw [i64_id (by omega) (by omega)]; simp
    simp only [run0, run1, run2, run3, run4, run5, run6, run7, run8, run9, run10, run11, run12, run13, run14, run15, run16, run17, run18, run19, run20, run21, run22, reduceCtorEq, Nat.reduceEqDiff, Nat.reduceAdd, Nat.reduceSub, Nat.reduceLeDiff, indexAddrA, indexRefA, appendA, strA, Nat.reduceMul, Nat.zero_mul, Nat.reduceMod, Int.reduceEq, Int.reduceLT, Int.reduceLE, Nat.reduceLT, Nat.lt_irrefl, Nat.reduceBEq, tys0, tys1, tys2, tys3, tys4, tys5, tys6, tys7, tys8, tys9, tys10, tys11, tys12, tys13, tys14, tys15, tys16, tys17, tys18, Try.ntmps82, Try.results82, List.length_map, e1, e2, Int.toNat_natCast, Int.natCast_nonneg, bne_self_eq_false]
    refine ⟨by kernel_rfl, ?_⟩
    simp only [run0, run1, run2, run3, run4, run5, run6, run7, run8, run9, run10, run11, run12, run13, run14, run15, run16, run17, run18, run19, run20, run21, run22, reduceCtorEq, Nat.reduceEqDiff, Nat.reduceAdd, Nat.reduceSub, Nat.reduceLeDiff, indexAddrA, indexRefA, appendA, strA, Nat.reduceMul, Nat.zero_mul, Nat.reduceMod, Int.reduceEq, Int.reduceLT, Int.reduceLE, Nat.reduceLT, Nat.lt_irrefl, Nat.reduceBEq, tys0, tys1, tys2, tys3, tys4, tys5, tys6, tys7, tys8, tys9, tys10, tys11, tys12, tys13, tys14, tys15, tys16, tys17, tys18, Try.ntmps82, Try.results82, e5]
    exact ⟨(d ++ [e], r), by simp [ha], by simp, by simp only [List.length_append, List.length_cons, List.length_nil]; repeat constructor⟩

/-- The marks from 'k' on. -/
def mkI : List Int → Int → List Int
  | [], _ => []
  | _ :: r, k => k :: mkI r (k + 1)
theorem mkI_len : ∀ (l : List Int) (k : Int), (mkI l k).length = l.length
  | [], _ => rfl
  | e :: r, k => by simp [mkI, mkI_len r]
theorem mkI_app : ∀ (d r : List Int) (k : Int), mkI (d ++ r) k = mkI d k ++ mkI r (k + d.length)
  | [], r, k => by simp [mkI]
  | e :: d, r, k => by
    simp only [mkI, List.cons_append, mkI_app d r, List.length_cons]
    rw [show k + 1 + (d.length : Int) = k + ((d.length + 1 : Nat) : Int) by omega]
theorem heldIntS_ok (l : List Int) (k : Int) (hl : l.length ≤ 1048576) (h0 : 0 ≤ k) (hk : k ≤ 4611686018427387904) : Ct Try.prog 87 [.sl false (ints (mkI l k)), .int .i64 k] [] (.int .i64 (k + l.length)) [] := by
  have hml := mkI_len l k
  refine Ct.by_ hmix [] Try.func87 rfl ?_
  simp only [run0, run1, run2, run3, run4, run5, run6, run7, run8, run9, run10, run11, run12, run13, run14, run15, run16, run17, run18, run19, run20, run21, run22, reduceCtorEq, Nat.reduceEqDiff, Nat.reduceAdd, Nat.reduceSub, Nat.reduceLeDiff, indexAddrA, indexRefA, appendA, strA, Nat.reduceMul, Nat.zero_mul, Nat.reduceMod, Int.reduceEq, Int.reduceLT, Int.reduceLE, Nat.reduceLT, Nat.lt_irrefl, Nat.reduceBEq, tys0, tys1, tys2, tys3, tys4, tys5, tys6, tys7, tys8, tys9, tys10, tys11, tys12, tys13, tys14, tys15, tys16, tys17, tys18, Try.ntmps87, Try.results87, hml, List.length_map]
  refine AWp.loop_inv (ι := List Int × List Int) (fun p => ⟨[.sl false (ints (mkI l k)), .int .i64 (k + p.1.length), .junk, .junk, .int .i64 0, .int .i64 p.1.length, .junk, .junk, .junk, .junk, .junk, .junk, .junk, .junk, .junk, .junk, .junk, .junk, .junk, .junk, .junk], []⟩)
    (fun p => l = p.1 ++ p.2) (fun p => p.2.length) ([], l) rfl ⟨by simp only [List.length_nil, Int.natCast_zero, Int.add_zero]; repeat constructor, rfl⟩ ?_
  rintro ⟨d, r⟩ ha
  refine W.sound hmix (E := []) ?_
  simp only at ha
  have hda : d.length + r.length = l.length := by rw [ha, List.length_append]
  cases r with
  | nil =>
    have e1 : ¬ ((d.length : Int) < (l.length : Int)) := by simp at hda; omega
    simp only [run0, run1, run2, run3, run4, run5, run6, run7, run8, run9, run10, run11, run12, run13, run14, run15, run16, run17, run18, run19, run20, run21, run22, reduceCtorEq, Nat.reduceEqDiff, Nat.reduceAdd, Nat.reduceSub, Nat.reduceLeDiff, indexAddrA, indexRefA, appendA, strA, Nat.reduceMul, Nat.zero_mul, Nat.reduceMod, Int.reduceEq, Int.reduceLT, Int.reduceLE, Nat.reduceLT, Nat.lt_irrefl, Nat.reduceBEq, tys0, tys1, tys2, tys3, tys4, tys5, tys6, tys7, tys8, tys9, tys10, tys11, tys12, tys13, tys14, tys15, tys16, tys17, tys18, Try.ntmps87, Try.results87, e1, hml, List.length_map]
    refine Fin.eq ?_ rfl
    rw [ha]; simp
  | cons e r =>
    simp only [List.length_cons] at hda
    have e1 : (d.length : Int) < (l.length : Int) := by omega
    have e2 : (ints (mkI l k))[d.length]? = some (.int .i64 (k + d.length)) := by
      rw [ha, mkI_app, mkI, ← mkI_len d k]; exact ints_get _ _ _
    have e5 : IntKind.i64.wrap ((d.length : Int) + 1) = ((d ++ [e]).length : Int) := by rw [i64_id (by omega) (by omega)]; simp
    have e7 : IntKind.i64.wrap (k + (d.length : Int) + 1) = k + ((d ++ [e]).length : Int) := by
      rw [i64_id (by omega) (by omega)]; simp; omega
    simp only [run0, run1, run2, run3, run4, run5, run6, run7, run8, run9, run10, run11, run12, run13, run14, run15, run16, run17, run18, run19, run20, run21, run22, reduceCtorEq, Nat.reduceEqDiff, Nat.reduceAdd, Nat.reduceSub, Nat.reduceLeDiff, indexAddrA, indexRefA, appendA, strA, Nat.reduceMul, Nat.zero_mul, Nat.reduceMod, Int.reduceEq, Int.reduceLT, Int.reduceLE, Nat.reduceLT, Nat.lt_irrefl, Nat.reduceBEq, tys0, tys1, tys2, tys3, tys4, tys5, tys6, tys7, tys8, tys9, tys10, tys11, tys12, tys13, tys14, tys15, tys16, tys17, tys18, Try.ntmps87, Try.results87, e1, e2, hml, List.length_map, Int.toNat_natCast, Int.natCast_nonneg, bne_self_eq_false, e5, e7]
    exact ⟨(d ++ [e], r), by simp [ha], by simp, by simp only [List.length_append, List.length_cons, List.length_nil]; repeat constructor⟩
theorem markIntS_ok (l : List Int) (id g : Nat) (L0 : List AObj) (k : Int) (hL : L0[id]? = some (.vec 3 1 g (ints l))) (hl : l.length ≤ 1048576) (h0 : 0 ≤ k) (hk : k ≤ 4611686018427387904) :
    Ct Try.prog 86 [.ref id [] g l.length, .int .i64 k] L0 (.int .i64 (k + l.length)) (L0.set id (.vec 3 1 g (ints (mkI l k)))) := by
  have hid := (List.getElem?_eq_some_iff.1 hL).1
  have hget : ∀ X, (L0.set id X)[id]? = some X := fun X => List.getElem?_set_self hid
  have hsame : L0 = L0.set id (.vec 3 1 g (ints l)) := by
    apply List.ext_getElem?
    intro i
    by_cases hi : id = i
    · subst hi; rw [hget, hL]
    · rw [List.getElem?_set_ne hi]
  refine Ct.by_ hmix [] Try.func86 rfl ?_
  simp only [run0, run1, run2, run3, run4, run5, run6, run7, run8, run9, run10, run11, run12, run13, run14, run15, run16, run17, run18, run19, run20, run21, run22, reduceCtorEq, Nat.reduceEqDiff, Nat.reduceAdd, Nat.reduceSub, Nat.reduceLeDiff, indexAddrA, indexRefA, appendA, strA, Nat.reduceMul, Nat.zero_mul, Nat.reduceMod, Int.reduceEq, Int.reduceLT, Int.reduceLE, Nat.reduceLT, Nat.lt_irrefl, Nat.reduceBEq, tys0, tys1, tys2, tys3, tys4, tys5, tys6, tys7, tys8, tys9, tys10, tys11, tys12, tys13, tys14, tys15, tys16, tys17, tys18, Try.ntmps86, Try.results86]
  refine AWp.loop_inv (ι := List Int × List Int) (fun p => ⟨[.ref id [] g l.length, .int .i64 (k + p.1.length), .junk, .junk, .int .i64 0, .int .i64 p.1.length, .junk, .junk, .junk, .junk, .junk, .junk, .junk, .junk, .junk, .junk, .junk, .junk, .junk], L0.set id (.vec 3 1 g (ints (mkI p.1 k) ++ ints p.2))⟩)
    (fun p => l = p.1 ++ p.2) (fun p => p.2.length) ([], l) rfl ⟨by simp only [List.length_nil, Int.natCast_zero, Int.add_zero]; repeat constructor, by simpa [mkI] using hsame⟩ ?_
  rintro ⟨d, r⟩ ha
  refine W.sound hmix (E := []) ?_
  simp only at ha
  have hda : d.length + r.length = l.length := by rw [ha, List.length_append]
  have hml := mkI_len d k
  cases r with
  | nil =>
    have e1 : ¬ ((d.length : Int) < (l.length : Int)) := by simp at hda; omega
    simp only [run0, run1, run2, run3, run4, run5, run6, run7, run8, run9, run10, run11, run12, run13, run14, run15, run16, run17, run18, run19, run20, run21, run22, reduceCtorEq, Nat.reduceEqDiff, Nat.reduceAdd, Nat.reduceSub, Nat.reduceLeDiff, indexAddrA, indexRefA, appendA, strA, Nat.reduceMul, Nat.zero_mul, Nat.reduceMod, Int.reduceEq, Int.reduceLT, Int.reduceLE, Nat.reduceLT, Nat.lt_irrefl, Nat.reduceBEq, tys0, tys1, tys2, tys3, tys4, tys5, tys6, tys7, tys8, tys9, tys10, tys11, tys12, tys13, tys14, tys15, tys16, tys17, tys18, Try.ntmps86, Try.results86, e1, hget]
    have hd : d = l := by rw [ha, List.append_nil]
    subst hd
    exact Fin.own (by simp) rfl
  | cons e r =>
    simp only [List.length_cons] at hda
    have e1 : (d.length : Int) < (l.length : Int) := by omega
    have e2 : (ints (mkI d k) ++ AV.int .i64 e :: ints r)[d.length]? = some (.int .i64 e) := by rw [← hml]; simp
    have e3 : noOwn (ints (mkI d k) ++ AV.int .i64 e :: ints r) = true := by
      have := ints_noOwn (mkI d k ++ e :: r)
      simpa using this
    have e4 : (ints (mkI d k) ++ AV.int .i64 e :: ints r).set d.length (.int .i64 (k + d.length)) = ints (mkI d k) ++ AV.int .i64 (k + d.length) :: ints r := by rw [← hml]; simp
    have e5 : IntKind.i64.wrap ((d.length : Int) + 1) = ((d ++ [e]).length : Int) := by rw [i64_id (by omega) (by omega)]; simp
    have e7 : IntKind.i64.wrap (k + (d.length : Int) + 1) = k + ((d ++ [e]).length : Int) := by
      rw [i64_id (by omega) (by omega)]; simp; omega
    simp only [run0, run1, run2, run3, run4, run5, run6, run7, run8, run9, run10, run11, run12, run13, run14, run15, run16, run17, run18, run19, run20, run21, run22, reduceCtorEq, Nat.reduceEqDiff, Nat.reduceAdd, Nat.reduceSub, Nat.reduceLeDiff, indexAddrA, indexRefA, appendA, strA, Nat.reduceMul, Nat.zero_mul, Nat.reduceMod, Int.reduceEq, Int.reduceLT, Int.reduceLE, Nat.reduceLT, Nat.lt_irrefl, Nat.reduceBEq, tys0, tys1, tys2, tys3, tys4, tys5, tys6, tys7, tys8, tys9, tys10, tys11, tys12, tys13, tys14, tys15, tys16, tys17, tys18, Try.ntmps86, Try.results86, List.map_cons, e1, hget, e2, e3, e4, e5, e7, List.set_set, Int.toNat_natCast, Int.natCast_nonneg, setE]
    exact ⟨(d ++ [e], r), by simp [ha], by simp, by simp only [List.length_append, List.length_cons, List.length_nil]; repeat constructor, by simp [mkI_app, mkI]⟩

end Go.Proofs.Ytphmkhaboghagaa
/-
  Hydras: the ordinals of nodes by both; which hydras have the same: the law.
-/
namespace Go.Proofs.Ytphmkhaboghagaa
open Go K Od
set_option linter.unusedSimpArgs false
set_option linter.unusedVariables false
set_option maxHeartbeats 1600000
set_option maxRecDepth 8000

theorem fo_split (f d r : Fo) (h : f = d.app r) : f.len = d.len + r.len ∧ f.sz = d.sz + r.sz := by subst h; exact ⟨Fo.len_app _ _, Fo.sz_app _ _⟩
structure OrS where
  d : Fo
  r : Fo
  X : List AObj

theorem ordinal_ok (f : Fo) (n : Int) (hs : f.sz ≤ 40) : Ct Try.prog 81 [.rptr (.agg [.int .i64 n, .sl false (Fo.els f)]) 0] [] (av (ordFo .nil f)) [] := by
  have hfl := len_sz f
  refine Ct.by_ hmix [ 8000000] Try.func81 rfl ?_
  simp only [run0, run1, run2, run3, run4, run5, run6, run7, run8, run9, run10, run11, run12, run13, run14, run15, run16, run17, run18, run19, run20, run21, run22, reduceCtorEq, Nat.reduceEqDiff, Nat.reduceAdd, Nat.reduceSub, Nat.reduceLeDiff, indexAddrA, indexRefA, appendA, strA, Nat.reduceMul, Nat.zero_mul, Nat.reduceMod, Int.reduceEq, Int.reduceLT, Int.reduceLE, Nat.reduceLT, Nat.lt_irrefl, Nat.reduceBEq, tys0, tys1, tys2, tys3, tys4, tys5, tys6, tys7, tys8, tys9, tys10, tys11, tys12, tys13, tys14, tys15, tys16, tys17, tys18, Try.ntmps81, Try.results81, Fo.els_length]
  refine AWp.nilS 1 0 rfl rfl ?_
  refine AWp.loop_inv (ι := OrS) (fun p => ⟨[.rptr (.agg [.int .i64 n, .sl false (Fo.els f)]) 0, .junk, .ptr 0 0, .ptr 1 0, .junk, .junk, .junk, .junk, .junk, .junk, .sl false (Fo.els f), .int .i64 f.len, .int .i64 p.d.len, .junk, .junk, .junk, .junk, .junk, .junk, .junk, .junk, .junk, .junk],
      .box 24 [nilV] :: .box 24 [.sl false (elems (ordFo .nil p.d))] :: p.X⟩)
    (fun p => f = p.d.app p.r) (fun p => p.r.len) ⟨.nil, f, []⟩ rfl ⟨by simp only [Fo.len, Int.natCast_zero]; repeat constructor, rfl⟩ ?_
  rintro ⟨d, r, X⟩ ha
  refine W.sound hmix (E := [8000000]) ?_
  simp only at ha
  obtain ⟨hl, hz⟩ := fo_split f d r ha
  cases r with
  | nil =>
    have e1 : ¬ ((d.len : Int) < (f.len : Int)) := by simp [Fo.len] at hl; omega
    have hd : d = f := by rw [ha]; clear ha hl hz e1; induction d with
      | nil => rfl
      | cons n a b _ ih => simp only [Fo.app]; rw [← ih]
    subst hd
    simp only [run0, run1, run2, run3, run4, run5, run6, run7, run8, run9, run10, run11, run12, run13, run14, run15, run16, run17, run18, run19, run20, run21, run22, reduceCtorEq, Nat.reduceEqDiff, Nat.reduceAdd, Nat.reduceSub, Nat.reduceLeDiff, indexAddrA, indexRefA, appendA, strA, Nat.reduceMul, Nat.zero_mul, Nat.reduceMod, Int.reduceEq, Int.reduceLT, Int.reduceLE, Nat.reduceLT, Nat.lt_irrefl, Nat.reduceBEq, tys0, tys1, tys2, tys3, tys4, tys5, tys6, tys7, tys8, tys9, tys10, tys11, tys12, tys13, tys14, tys15, tys16, tys17, tys18, Try.ntmps81, Try.results81, e1]
    exact Fin.eq rfl (by simp only [pureB, pureL, elems_pure, Bool.and_self])
  | cons k ch r =>
    simp only [Fo.len, Fo.sz] at hl hz
    have e1 : (d.len : Int) < (f.len : Int) := by omega
    have e2 : (Fo.els f)[d.len]? = some (.rptr (.agg [.int .i64 k, .sl false (Fo.els ch)]) 0) := by rw [ha]; exact els_at d k ch r
    have e5 : IntKind.i64.wrap ((d.len : Int) + 1) = ((d.app (.cons k ch .nil)).len : Int) := by
      rw [i64_id (by omega) (by omega), Fo.len_app]; rfl
    have hsd := ordFo_sz d .nil
    have hsc := ordFo_sz ch .nil
    simp only [Od.sz] at hsd hsc
    have hpd := ordFo_pos d .nil 0 (by omega) (by omega) trivial
    have hpc := ordFo_pos ch .nil 0 (by omega) (by omega) trivial
    have hdl := len_sz d
    have hcl := len_sz ch
    have hcr := pos_rng (by omega) hpc
    have hrec := ordinal_ok ch k (by omega)
    have hns := naturalSum_ok (ordFo .nil d) (powT (ordFo .nil ch)) (by omega) (by simp only [powT, Od.sz]; omega) (m := 1000000) (by omega) (pos_bnd (by omega) (by omega) (pos_mono (m' := 1000000) (by omega) hpd)) ⟨hcr, by omega, by omega, by omega, trivial⟩
    rw [show powT (ordFo .nil ch) = .cons (ordFo .nil ch) 1 .nil from rfl, merge_meet] at hns
    simp only [run0, run1, run2, run3, run4, run5, run6, run7, run8, run9, run10, run11, run12, run13, run14, run15, run16, run17, run18, run19, run20, run21, run22, reduceCtorEq, Nat.reduceEqDiff, Nat.reduceAdd, Nat.reduceSub, Nat.reduceLeDiff, indexAddrA, indexRefA, appendA, strA, Nat.reduceMul, Nat.zero_mul, Nat.reduceMod, Int.reduceEq, Int.reduceLT, Int.reduceLE, Nat.reduceLT, Nat.lt_irrefl, Nat.reduceBEq, tys0, tys1, tys2, tys3, tys4, tys5, tys6, tys7, tys8, tys9, tys10, tys11, tys12, tys13, tys14, tys15, tys16, tys17, tys18, Try.ntmps81, Try.results81, e1, e2, Int.toNat_natCast, Int.natCast_nonneg]
    refine ⟨[0, 1, 2, 3, 4, 5], by kernel_rfl, ?_⟩
    simp only [run0, run1, run2, run3, run4, run5, run6, run7, run8, run9, run10, run11, run12, run13, run14, run15, run16, run17, run18, run19, run20, run21, run22, reduceCtorEq, Nat.reduceEqDiff, Nat.reduceAdd, Nat.reduceSub, Nat.reduceLeDiff, indexAddrA, indexRefA, appendA, strA, Nat.reduceMul, Nat.zero_mul, Nat.reduceMod, Int.reduceEq, Int.reduceLT, Int.reduceLE, Nat.reduceLT, Nat.lt_irrefl, Nat.reduceBEq, tys0, tys1, tys2, tys3, tys4, tys5, tys6, tys7, tys8, tys9, tys10, tys11, tys12, tys13, tys14, tys15, tys16, tys17, tys18, Try.ntmps81, Try.results81]
    refine RunL.callp rfl rfl ok_f81 hrec (by simp only [pureL, pureB, Fo.els_pure, Bool.and_self, Bool.and_true, Bool.true_and]) rfl ?_
    simp only [run0, run1, run2, run3, run4, run5, run6, run7, run8, run9, run10, run11, run12, run13, run14, run15, run16, run17, run18, run19, run20, run21, run22, reduceCtorEq, Nat.reduceEqDiff, Nat.reduceAdd, Nat.reduceSub, Nat.reduceLeDiff, indexAddrA, indexRefA, appendA, strA, Nat.reduceMul, Nat.zero_mul, Nat.reduceMod, Int.reduceEq, Int.reduceLT, Int.reduceLE, Nat.reduceLT, Nat.lt_irrefl, Nat.reduceBEq, tys0, tys1, tys2, tys3, tys4, tys5, tys6, tys7, tys8, tys9, tys10, tys11, tys12, tys13, tys14, tys15, tys16, tys17, tys18, Try.ntmps81, Try.results81]
    refine RunL.callp rfl rfl ok_f114 (power_ok _) (by first | rfl | simp only [pureL, pureB, Bool.and_self, Bool.and_true, Bool.true_and, Od.elems_pure, Od.pay_pure, Od.av_pure]) rfl ?_
    simp only [run0, run1, run2, run3, run4, run5, run6, run7, run8, run9, run10, run11, run12, run13, run14, run15, run16, run17, run18, run19, run20, run21, run22, reduceCtorEq, Nat.reduceEqDiff, Nat.reduceAdd, Nat.reduceSub, Nat.reduceLeDiff, indexAddrA, indexRefA, appendA, strA, Nat.reduceMul, Nat.zero_mul, Nat.reduceMod, Int.reduceEq, Int.reduceLT, Int.reduceLE, Nat.reduceLT, Nat.lt_irrefl, Nat.reduceBEq, tys0, tys1, tys2, tys3, tys4, tys5, tys6, tys7, tys8, tys9, tys10, tys11, tys12, tys13, tys14, tys15, tys16, tys17, tys18, Try.ntmps81, Try.results81]
    refine RunL.callp rfl rfl ok_f113 (hns) (by first | rfl | simp only [pureL, pureB, Bool.and_self, Bool.and_true, Bool.true_and, Od.elems_pure, Od.pay_pure, Od.av_pure]) rfl ?_
    simp only [run0, run1, run2, run3, run4, run5, run6, run7, run8, run9, run10, run11, run12, run13, run14, run15, run16, run17, run18, run19, run20, run21, run22, reduceCtorEq, Nat.reduceEqDiff, Nat.reduceAdd, Nat.reduceSub, Nat.reduceLeDiff, indexAddrA, indexRefA, appendA, strA, Nat.reduceMul, Nat.zero_mul, Nat.reduceMod, Int.reduceEq, Int.reduceLT, Int.reduceLE, Nat.reduceLT, Nat.lt_irrefl, Nat.reduceBEq, tys0, tys1, tys2, tys3, tys4, tys5, tys6, tys7, tys8, tys9, tys10, tys11, tys12, tys13, tys14, tys15, tys16, tys17, tys18, Try.ntmps81, Try.results81, av, e5]
    refine ⟨⟨d.app (.cons k ch .nil), r, X⟩, by rw [ha, Fo.app_assoc]; rfl, by simp [Fo.len], by repeat constructor, ?_⟩
    rw [ordFo_app]; rfl
termination_by f.sz
decreasing_by all_goals (subst ha; simp only [Fo.sz_app, Fo.sz]; omega)

/-! ### the reference -/
theorem kidsL_take (P : List Int) (j n : Nat) : (kidsL P j) = ((List.range P.length).filter fun c => P[c]? == some (j : Int)) := rfl
def kidsTo (P : List Int) (j n : Nat) : List Int := ((List.range n).filter fun c => P[c]? == some (j : Int)).map Int.ofNat
theorem kidsTo_succ (P : List Int) (j n : Nat) (x : Int) (h : P[n]? = some x) : kidsTo P j (n + 1) = kidsTo P j n ++ (if x = (j : Int) then [(n : Int)] else []) := by
  unfold kidsTo
  rw [List.range_succ, List.filter_append, List.map_append]
  congr 1
  by_cases hx : x = (j : Int)
  · rw [if_pos hx]; simp [h, hx]
  · rw [if_neg hx]
    simp [h, hx]
theorem kidsTo_len (P : List Int) (j n : Nat) : (kidsTo P j n).length ≤ n := by
  have := List.length_filter_le (fun c => P[c]? == some (j : Int)) (List.range n)
  unfold kidsTo
  simp at this ⊢
  exact this
theorem deChildren_ok (P : List Int) (j : Nat) (hP : P.length ≤ 1048576) : Ct Try.prog 110 [.agg [.sl false (ints P)], .int .i64 j] [] (.sl false (ints (kidsTo P j P.length))) [] := by
  refine Ct.by_ hmix [] Try.func110 rfl ?_
  simp only [run0, run1, run2, run3, run4, run5, run6, run7, run8, run9, run10, run11, run12, run13, run14, run15, run16, run17, run18, run19, run20, run21, run22, reduceCtorEq, Nat.reduceEqDiff, Nat.reduceAdd, Nat.reduceSub, Nat.reduceLeDiff, indexAddrA, indexRefA, appendA, strA, Nat.reduceMul, Nat.zero_mul, Nat.reduceMod, Int.reduceEq, Int.reduceLT, Int.reduceLE, Nat.reduceLT, Nat.lt_irrefl, Nat.reduceBEq, tys0, tys1, tys2, tys3, tys4, tys5, tys6, tys7, tys8, tys9, tys10, tys11, tys12, tys13, tys14, tys15, tys16, tys17, tys18, Try.ntmps110, Try.results110, List.length_map]
  refine AWp.nil 5 3 1 rfl ?_
  refine AWp.loop_inv (ι := Nat) (fun n => ⟨[.agg [.sl false (ints P)], .int .i64 j, .ptr 0 0, .junk, nilV, .ref 1 [] (kidsTo P j n).length (kidsTo P j n).length, .junk, .junk, .junk, .sl false (ints P), .int .i64 P.length, .int .i64 n, .junk, .junk, .junk, .junk, .junk, .junk, .junk, .junk, .junk, .junk, .junk, .junk, .junk], [.box 60 [.sl false (ints P)], .vec 3 1 (kidsTo P j n).length (ints (kidsTo P j n))]⟩)
    (fun n => n ≤ P.length) (fun n => P.length - n) 0 (Nat.zero_le _) ⟨by simp only [Int.natCast_zero]; repeat constructor, rfl⟩ ?_
  intro n hn
  refine W.sound hmix (E := []) ?_
  by_cases hlt : n < P.length
  · have e1 : (n : Int) < (P.length : Int) := by omega
    have hx := List.getElem?_eq_getElem hlt
    generalize P[n] = x at hx
    have e2 : (ints P)[n]? = some (.int .i64 x) := by simp [hx]
    have e5 : IntKind.i64.wrap ((n : Int) + 1) = ((n + 1 : Nat) : Int) := by rw [i64_id (by omega) (by omega)]; simp
    have hk := kidsTo_len P j n
    have hs := kidsTo_succ P j n x hx
    have f3 : (kidsTo P j n).length + 1 ≤ 137438953472 := by omega
    have f4 := ints_noOwn (kidsTo P j n)
    by_cases hxj : x = (j : Int)
    · have e3 : (x == (j : Int)) = true := by simp [hxj]
      rw [if_pos hxj] at hs
      simp only [run0, run1, run2, run3, run4, run5, run6, run7, run8, run9, run10, run11, run12, run13, run14, run15, run16, run17, run18, run19, run20, run21, run22, reduceCtorEq, Nat.reduceEqDiff, Nat.reduceAdd, Nat.reduceSub, Nat.reduceLeDiff, indexAddrA, indexRefA, appendA, strA, Nat.reduceMul, Nat.zero_mul, Nat.reduceMod, Int.reduceEq, Int.reduceLT, Int.reduceLE, Nat.reduceLT, Nat.lt_irrefl, Nat.reduceBEq, tys0, tys1, tys2, tys3, tys4, tys5, tys6, tys7, tys8, tys9, tys10, tys11, tys12, tys13, tys14, tys15, tys16, tys17, tys18, Try.ntmps110, Try.results110, List.length_map, e1, e2, e3, e5, f3, f4, Int.toNat_natCast, Int.natCast_nonneg]
      exact ⟨n + 1, by omega, by omega, by rw [hs]; simp only [List.length_append, List.length_cons, List.length_nil]; repeat constructor, by rw [hs]; simp⟩
    · have e3 : (x == (j : Int)) = false := by simp [hxj]
      rw [if_neg hxj, List.append_nil] at hs
      simp only [run0, run1, run2, run3, run4, run5, run6, run7, run8, run9, run10, run11, run12, run13, run14, run15, run16, run17, run18, run19, run20, run21, run22, reduceCtorEq, Nat.reduceEqDiff, Nat.reduceAdd, Nat.reduceSub, Nat.reduceLeDiff, indexAddrA, indexRefA, appendA, strA, Nat.reduceMul, Nat.zero_mul, Nat.reduceMod, Int.reduceEq, Int.reduceLT, Int.reduceLE, Nat.reduceLT, Nat.lt_irrefl, Nat.reduceBEq, tys0, tys1, tys2, tys3, tys4, tys5, tys6, tys7, tys8, tys9, tys10, tys11, tys12, tys13, tys14, tys15, tys16, tys17, tys18, Try.ntmps110, Try.results110, List.length_map, e1, e2, e3, e5, f3, f4, Int.toNat_natCast, Int.natCast_nonneg]
      exact ⟨n + 1, by omega, by omega, by rw [hs]; repeat constructor, by rw [hs]⟩
  · have e1 : ¬ (n : Int) < (P.length : Int) := by omega
    obtain rfl : n = P.length := by omega
    simp only [run0, run1, run2, run3, run4, run5, run6, run7, run8, run9, run10, run11, run12, run13, run14, run15, run16, run17, run18, run19, run20, run21, run22, reduceCtorEq, Nat.reduceEqDiff, Nat.reduceAdd, Nat.reduceSub, Nat.reduceLeDiff, indexAddrA, indexRefA, appendA, strA, Nat.reduceMul, Nat.zero_mul, Nat.reduceMod, Int.reduceEq, Int.reduceLT, Int.reduceLE, Nat.reduceLT, Nat.lt_irrefl, Nat.reduceBEq, tys0, tys1, tys2, tys3, tys4, tys5, tys6, tys7, tys8, tys9, tys10, tys11, tys12, tys13, tys14, tys15, tys16, tys17, tys18, Try.ntmps110, Try.results110, e1]
    exact Fin.value (Vw_intR rfl rfl rfl)

theorem foL_app (f : Nat → Fo) : ∀ a b : List Nat, foL f (a ++ b) = (foL f a).app (foL f b)
  | [], b => rfl
  | c :: a, b => by simp [foL, Fo.app, foL_app f a b]
structure DoS where
  d : List Nat
  r : List Nat
  X : List AObj
theorem deOrdinal_ok (P : List Int) (hp : ParOk P) (hP : P.length ≤ 40) (n j : Nat) (h1 : P.length ≤ j + n) (hj : j < P.length) : Ct Try.prog 77 [.agg [.sl false (ints P)], .int .i64 j] [] (av (ordFo .nil (fo P P.length j))) [] := by
  have hdeep : fo P P.length j = foL (fo P P.length) (kidsL P j) := by
    rw [fo_deep hp P.length j P.length (P.length + 1) (by omega) (by omega) (by omega)]; rfl
  have hsz := fo_small hp P.length j
  have hkl : (kidsTo P j P.length).length = (kidsL P j).length := by simp [kidsTo, kidsL]
  have hkn := kidsTo_len P j P.length
  have hk : kidsTo P j P.length = (kidsL P j).map Int.ofNat := rfl
  rw [hdeep] at hsz ⊢
  generalize hK : kidsL P j = K at *
  refine Ct.by_ hmix [ 8000000] Try.func77 rfl ?_
  simp only [run0, run1, run2, run3, run4, run5, run6, run7, run8, run9, run10, run11, run12, run13, run14, run15, run16, run17, run18, run19, run20, run21, run22, reduceCtorEq, Nat.reduceEqDiff, Nat.reduceAdd, Nat.reduceSub, Nat.reduceLeDiff, indexAddrA, indexRefA, appendA, strA, Nat.reduceMul, Nat.zero_mul, Nat.reduceMod, Int.reduceEq, Int.reduceLT, Int.reduceLE, Nat.reduceLT, Nat.lt_irrefl, Nat.reduceBEq, tys0, tys1, tys2, tys3, tys4, tys5, tys6, tys7, tys8, tys9, tys10, tys11, tys12, tys13, tys14, tys15, tys16, tys17, tys18, Try.ntmps77, Try.results77]
  refine RunL.callp rfl rfl ok_f110 (deChildren_ok P j (by omega)) (by simp only [pureL, pureB, ints_pure, Bool.and_self, Bool.and_true, Bool.true_and]) rfl ?_
  simp only [run0, run1, run2, run3, run4, run5, run6, run7, run8, run9, run10, run11, run12, run13, run14, run15, run16, run17, run18, run19, run20, run21, run22, reduceCtorEq, Nat.reduceEqDiff, Nat.reduceAdd, Nat.reduceSub, Nat.reduceLeDiff, indexAddrA, indexRefA, appendA, strA, Nat.reduceMul, Nat.zero_mul, Nat.reduceMod, Int.reduceEq, Int.reduceLT, Int.reduceLE, Nat.reduceLT, Nat.lt_irrefl, Nat.reduceBEq, tys0, tys1, tys2, tys3, tys4, tys5, tys6, tys7, tys8, tys9, tys10, tys11, tys12, tys13, tys14, tys15, tys16, tys17, tys18, Try.ntmps77, Try.results77, List.length_map, hkl, hk]
  refine AWp.nilS 2 0 rfl rfl ?_
  refine AWp.loop_inv (ι := DoS) (fun p => ⟨[.agg [.sl false (ints P)], .int .i64 j, .ptr 0 0, .junk, .ptr 1 0, .ptr 2 0, .junk, .junk, .junk, .junk, .junk, .sl false (ints (K.map Int.ofNat)), .int .i64 K.length, .int .i64 p.d.length, .junk, .junk, .junk, .junk, .junk, .junk, .junk, .junk, .junk, .junk, .junk],
      .box 60 [.sl false (ints P)] :: .box 24 [nilV] :: .box 24 [.sl false (elems (ordFo .nil (foL (fo P P.length) p.d)))] :: p.X⟩)
    (fun p => K = p.d ++ p.r) (fun p => p.r.length) ⟨[], K, []⟩ rfl ⟨by simp only [List.length_nil, Int.natCast_zero]; repeat constructor, rfl⟩ ?_
  rintro ⟨d, r, X⟩ ha
  refine W.sound hmix (E := [8000000]) ?_
  simp only at ha
  have hda : d.length + r.length = K.length := by rw [ha, List.length_append]
  cases r with
  | nil =>
    have e1 : ¬ ((d.length : Int) < (K.length : Int)) := by simp at hda; omega
    rw [List.append_nil] at ha
    subst ha
    simp only [run0, run1, run2, run3, run4, run5, run6, run7, run8, run9, run10, run11, run12, run13, run14, run15, run16, run17, run18, run19, run20, run21, run22, reduceCtorEq, Nat.reduceEqDiff, Nat.reduceAdd, Nat.reduceSub, Nat.reduceLeDiff, indexAddrA, indexRefA, appendA, strA, Nat.reduceMul, Nat.zero_mul, Nat.reduceMod, Int.reduceEq, Int.reduceLT, Int.reduceLE, Nat.reduceLT, Nat.lt_irrefl, Nat.reduceBEq, tys0, tys1, tys2, tys3, tys4, tys5, tys6, tys7, tys8, tys9, tys10, tys11, tys12, tys13, tys14, tys15, tys16, tys17, tys18, Try.ntmps77, Try.results77, e1]
    exact Fin.eq rfl (by simp only [pureB, pureL, elems_pure, Bool.and_self])
  | cons c r =>
    simp only [List.length_cons] at hda
    have e1 : (d.length : Int) < (K.length : Int) := by omega
    have e2 : (ints (K.map Int.ofNat))[d.length]? = some (.int .i64 (c : Int)) := by rw [ha]; simp
    have e5 : IntKind.i64.wrap ((d.length : Int) + 1) = ((d ++ [c]).length : Int) := by rw [i64_id (by omega) (by omega)]; simp
    have hcm : c ∈ kidsL P j := by rw [hK, ha]; simp
    obtain ⟨c1, c2⟩ := kidsL_gt hp hcm
    have hz : (foL (fo P P.length) K).sz = (foL (fo P P.length) d).sz + ((fo P P.length c).sz + (foL (fo P P.length) r).sz + 1) := by
      rw [ha, foL_app, Fo.sz_app]; rfl
    rw [hz] at hsz
    have hsd := ordFo_sz (foL (fo P P.length) d) .nil
    have hsc := ordFo_sz (fo P P.length c) .nil
    simp only [Od.sz] at hsd hsc
    have hpd := ordFo_pos (foL (fo P P.length) d) .nil 0 (by omega) (by omega) trivial
    have hpc := ordFo_pos (fo P P.length c) .nil 0 (by omega) (by omega) trivial
    have hdl := len_sz (foL (fo P P.length) d)
    have hcl := len_sz (fo P P.length c)
    have hcr := pos_rng (by omega) hpc
    cases n with
    | zero => omega
    | succ n =>
      have hrec := deOrdinal_ok P hp hP n c (by omega) c2
      have hms := odMeet_ok (ordFo .nil (foL (fo P P.length) d)) (ordFo .nil (fo P P.length c)) 1 (by omega) (m := 1000000) (by omega) (pos_bnd (by omega) (by omega) (pos_mono (m' := 1000000) (by omega) hpd)) ⟨hcr, by omega, by omega, by omega, trivial⟩
      simp only [run0, run1, run2, run3, run4, run5, run6, run7, run8, run9, run10, run11, run12, run13, run14, run15, run16, run17, run18, run19, run20, run21, run22, reduceCtorEq, Nat.reduceEqDiff, Nat.reduceAdd, Nat.reduceSub, Nat.reduceLeDiff, indexAddrA, indexRefA, appendA, strA, Nat.reduceMul, Nat.zero_mul, Nat.reduceMod, Int.reduceEq, Int.reduceLT, Int.reduceLE, Nat.reduceLT, Nat.lt_irrefl, Nat.reduceBEq, tys0, tys1, tys2, tys3, tys4, tys5, tys6, tys7, tys8, tys9, tys10, tys11, tys12, tys13, tys14, tys15, tys16, tys17, tys18, Try.ntmps77, Try.results77, e1, e2, Int.toNat_natCast, Int.natCast_nonneg]
      refine ⟨[0, 1, 2, 3, 4, 5, 6], by kernel_rfl, ?_⟩
      simp only [run0, run1, run2, run3, run4, run5, run6, run7, run8, run9, run10, run11, run12, run13, run14, run15, run16, run17, run18, run19, run20, run21, run22, reduceCtorEq, Nat.reduceEqDiff, Nat.reduceAdd, Nat.reduceSub, Nat.reduceLeDiff, indexAddrA, indexRefA, appendA, strA, Nat.reduceMul, Nat.zero_mul, Nat.reduceMod, Int.reduceEq, Int.reduceLT, Int.reduceLE, Nat.reduceLT, Nat.lt_irrefl, Nat.reduceBEq, tys0, tys1, tys2, tys3, tys4, tys5, tys6, tys7, tys8, tys9, tys10, tys11, tys12, tys13, tys14, tys15, tys16, tys17, tys18, Try.ntmps77, Try.results77]
      refine RunL.callp rfl rfl ok_f77 hrec (by simp only [pureL, pureB, ints_pure, Bool.and_self, Bool.and_true, Bool.true_and]) rfl ?_
      simp only [run0, run1, run2, run3, run4, run5, run6, run7, run8, run9, run10, run11, run12, run13, run14, run15, run16, run17, run18, run19, run20, run21, run22, reduceCtorEq, Nat.reduceEqDiff, Nat.reduceAdd, Nat.reduceSub, Nat.reduceLeDiff, indexAddrA, indexRefA, appendA, strA, Nat.reduceMul, Nat.zero_mul, Nat.reduceMod, Int.reduceEq, Int.reduceLT, Int.reduceLE, Nat.reduceLT, Nat.lt_irrefl, Nat.reduceBEq, tys0, tys1, tys2, tys3, tys4, tys5, tys6, tys7, tys8, tys9, tys10, tys11, tys12, tys13, tys14, tys15, tys16, tys17, tys18, Try.ntmps77, Try.results77, av]
      refine RunL.callp rfl rfl ok_f111 (hms) (by first | rfl | simp only [pureL, pureB, Bool.and_self, Bool.and_true, Bool.true_and, Od.elems_pure, Od.pay_pure, Od.av_pure]) rfl ?_
      simp only [run0, run1, run2, run3, run4, run5, run6, run7, run8, run9, run10, run11, run12, run13, run14, run15, run16, run17, run18, run19, run20, run21, run22, reduceCtorEq, Nat.reduceEqDiff, Nat.reduceAdd, Nat.reduceSub, Nat.reduceLeDiff, indexAddrA, indexRefA, appendA, strA, Nat.reduceMul, Nat.zero_mul, Nat.reduceMod, Int.reduceEq, Int.reduceLT, Int.reduceLE, Nat.reduceLT, Nat.lt_irrefl, Nat.reduceBEq, tys0, tys1, tys2, tys3, tys4, tys5, tys6, tys7, tys8, tys9, tys10, tys11, tys12, tys13, tys14, tys15, tys16, tys17, tys18, Try.ntmps77, Try.results77, av, e5]
      refine ⟨⟨d ++ [c], r, X⟩, by rw [ha]; simp, by simp, by simp only [List.length_append, List.length_cons, List.length_nil]; repeat constructor, ?_⟩
      rw [foL_app, ordFo_app]; rfl
termination_by n

end Go.Proofs.Ytphmkhaboghagaa
/-
  Lists of whole numbers that come in.
-/
namespace Go.Proofs.Ytphmkhaboghagaa
open Go K
set_option linter.unusedSimpArgs false
set_option linter.unusedVariables false

theorem ints_in : ∀ es : List AV, (∀ x ∈ es, IsOf Try.prog 3 x) → ∃ l : List Int, es = ints l
  | [], _ => ⟨[], rfl⟩
  | x :: es, hes => by
    obtain ⟨l, rfl⟩ := ints_in es fun y hy => hes y (List.mem_cons_of_mem _ hy)
    obtain ⟨_, h⟩ := (hes x (List.mem_cons_self ..)).one ty_a3
    obtain ⟨n, e, _⟩ := h.int Try.underlying3
    simp at e
    subst e
    exact ⟨n :: l, rfl⟩
theorem szN_spec (n : Nat) (k : Int) : (0 ≤ k - n ∧ szN n k = k - n) ∨ (k - n < 0 ∧ szN n k = -1) := by
  unfold szN
  by_cases h : k - n < 0
  · exact .inr ⟨h, if_pos h⟩
  · exact .inl ⟨by omega, if_neg h⟩
theorem mx_len : maxLen = 9223372036854775807 := by decide

end Go.Proofs.Ytphmkhaboghagaa
/-
  Hydras: their sizes, their copies; the law of which have the same ordinal.
-/
namespace Go.Proofs.Ytphmkhaboghagaa
open Go K Od
set_option linter.unusedSimpArgs false
set_option linter.unusedVariables false
set_option maxHeartbeats 1600000
set_option maxRecDepth 8000

def hyA (P : List Int) : AV := .agg [.sl false (ints P)]
theorem hyA_pure (P : List Int) : pureB (hyA P) = true := by simp only [hyA, pureB, pureL, ints_pure, Bool.and_self]
theorem laws_isHy {x : AV} (h : IsOf Try.prog 57 x) : ∃ P : List Int, x = hyA P ∧ P.length ≤ 9223372036854775807 := by
  obtain ⟨n, cs, rfl, hl, h⟩ := h.agg ty_a57
  rw [ty_c57] at hl
  match cs, hl with
  | [y], _ =>
    obtain ⟨m, h0⟩ := h.field ty_f57_0
    rw [ty_c55] at h0
    simp only [List.drop_zero, List.take_succ_cons, List.take_zero] at h0
    obtain ⟨es, e0, hel, hes⟩ := h0.slice Try.underlying55
    simp only [List.cons.injEq, and_true] at e0
    subst e0
    obtain ⟨l, rfl⟩ := ints_in es hes
    rw [mx_len] at hel
    exact ⟨l, rfl, by simpa using hel⟩
theorem szHydra_ok (P : List Int) (k : Int) (hl : P.length ≤ 9223372036854775807) (h0 : 0 ≤ k) (h1 : k ≤ 1048576) : Ct Try.prog 34 [hyA P, .int .i64 k] [] (.int .i64 (szN P.length k)) [] := by
  refine Ct.by_ hmix [] Try.func34 rfl ?_
  simp only [run0, run1, run2, run3, run4, run5, run6, run7, run8, run9, run10, run11, run12, run13, run14, run15, run16, run17, run18, run19, run20, run21, run22, reduceCtorEq, Nat.reduceEqDiff, Nat.reduceAdd, Nat.reduceSub, Nat.reduceLeDiff, indexAddrA, indexRefA, appendA, strA, Nat.reduceMul, Nat.zero_mul, Nat.reduceMod, Int.reduceEq, Int.reduceLT, Int.reduceLE, Nat.reduceLT, Nat.lt_irrefl, Nat.reduceBEq, tys0, tys1, tys2, tys3, tys4, tys5, tys6, tys7, tys8, tys9, tys10, tys11, tys12, tys13, tys14, tys15, tys16, tys17, tys18, Try.ntmps34, Try.results34, hyA]
  refine RunL.callp rfl rfl ok_f75 (szIntS_ok P k hl h0 h1) (by simp only [pureL, pureB, ints_pure, Bool.and_self, Bool.and_true, Bool.true_and]) rfl ?_
  rcases szN_spec P.length k with ⟨h2, h3⟩ | ⟨h2, h3⟩
  · have e : ¬ szN P.length k < 0 := by omega
    simp only [run0, run1, run2, run3, run4, run5, run6, run7, run8, run9, run10, run11, run12, run13, run14, run15, run16, run17, run18, run19, run20, run21, run22, reduceCtorEq, Nat.reduceEqDiff, Nat.reduceAdd, Nat.reduceSub, Nat.reduceLeDiff, indexAddrA, indexRefA, appendA, strA, Nat.reduceMul, Nat.zero_mul, Nat.reduceMod, Int.reduceEq, Int.reduceLT, Int.reduceLE, Nat.reduceLT, Nat.lt_irrefl, Nat.reduceBEq, tys0, tys1, tys2, tys3, tys4, tys5, tys6, tys7, tys8, tys9, tys10, tys11, tys12, tys13, tys14, tys15, tys16, tys17, tys18, Try.ntmps34, Try.results34, e]
    exact Fin.eq rfl rfl
  · have e : szN P.length k < 0 := by omega
    simp only [run0, run1, run2, run3, run4, run5, run6, run7, run8, run9, run10, run11, run12, run13, run14, run15, run16, run17, run18, run19, run20, run21, run22, reduceCtorEq, Nat.reduceEqDiff, Nat.reduceAdd, Nat.reduceSub, Nat.reduceLeDiff, indexAddrA, indexRefA, appendA, strA, Nat.reduceMul, Nat.zero_mul, Nat.reduceMod, Int.reduceEq, Int.reduceLT, Int.reduceLE, Nat.reduceLT, Nat.lt_irrefl, Nat.reduceBEq, tys0, tys1, tys2, tys3, tys4, tys5, tys6, tys7, tys8, tys9, tys10, tys11, tys12, tys13, tys14, tys15, tys16, tys17, tys18, Try.ntmps34, Try.results34, e]
    exact Fin.eq (by rw [h3]) rfl
theorem toHydra_ok (P : List Int) (hl : P.length ≤ 1048576) : Ct Try.prog 36 [hyA P] [] (hyA P) [] := by
  refine Ct.by_ hmix [] Try.func36 rfl ?_
  simp only [run0, run1, run2, run3, run4, run5, run6, run7, run8, run9, run10, run11, run12, run13, run14, run15, run16, run17, run18, run19, run20, run21, run22, reduceCtorEq, Nat.reduceEqDiff, Nat.reduceAdd, Nat.reduceSub, Nat.reduceLeDiff, indexAddrA, indexRefA, appendA, strA, Nat.reduceMul, Nat.zero_mul, Nat.reduceMod, Int.reduceEq, Int.reduceLT, Int.reduceLE, Nat.reduceLT, Nat.lt_irrefl, Nat.reduceBEq, tys0, tys1, tys2, tys3, tys4, tys5, tys6, tys7, tys8, tys9, tys10, tys11, tys12, tys13, tys14, tys15, tys16, tys17, tys18, Try.ntmps36, Try.results36, hyA]
  refine RunL.callp rfl rfl ok_f78 (toIntS_ok P hl) (by simp only [pureL, pureB, ints_pure, Bool.and_self, Bool.and_true, Bool.true_and]) rfl ?_
  simp only [run0, run1, run2, run3, run4, run5, run6, run7, run8, run9, run10, run11, run12, run13, run14, run15, run16, run17, run18, run19, run20, run21, run22, reduceCtorEq, Nat.reduceEqDiff, Nat.reduceAdd, Nat.reduceSub, Nat.reduceLeDiff, indexAddrA, indexRefA, appendA, strA, Nat.reduceMul, Nat.zero_mul, Nat.reduceMod, Int.reduceEq, Int.reduceLT, Int.reduceLE, Nat.reduceLT, Nat.lt_irrefl, Nat.reduceBEq, tys0, tys1, tys2, tys3, tys4, tys5, tys6, tys7, tys8, tys9, tys10, tys11, tys12, tys13, tys14, tys15, tys16, tys17, tys18, Try.ntmps36, Try.results36]
  exact Fin.eq rfl (by simp only [pureB, pureL, ints_pure, Bool.and_self, Bool.and_true, Bool.true_and])
theorem eqHydra_ok (P : List Int) (hl : P.length ≤ 1048576) : Ct Try.prog 38 [hyA P, hyA P] [] (.bool true) [] := by
  refine Ct.by_ hmix [] Try.func38 rfl ?_
  simp only [run0, run1, run2, run3, run4, run5, run6, run7, run8, run9, run10, run11, run12, run13, run14, run15, run16, run17, run18, run19, run20, run21, run22, reduceCtorEq, Nat.reduceEqDiff, Nat.reduceAdd, Nat.reduceSub, Nat.reduceLeDiff, indexAddrA, indexRefA, appendA, strA, Nat.reduceMul, Nat.zero_mul, Nat.reduceMod, Int.reduceEq, Int.reduceLT, Int.reduceLE, Nat.reduceLT, Nat.lt_irrefl, Nat.reduceBEq, tys0, tys1, tys2, tys3, tys4, tys5, tys6, tys7, tys8, tys9, tys10, tys11, tys12, tys13, tys14, tys15, tys16, tys17, tys18, Try.ntmps38, Try.results38, hyA]
  refine RunL.callp rfl rfl ok_f82 (eqIntS_ok P hl) (by simp only [pureL, pureB, ints_pure, Bool.and_self, Bool.and_true, Bool.true_and]) rfl ?_
  simp only [run0, run1, run2, run3, run4, run5, run6, run7, run8, run9, run10, run11, run12, run13, run14, run15, run16, run17, run18, run19, run20, run21, run22, reduceCtorEq, Nat.reduceEqDiff, Nat.reduceAdd, Nat.reduceSub, Nat.reduceLeDiff, indexAddrA, indexRefA, appendA, strA, Nat.reduceMul, Nat.zero_mul, Nat.reduceMod, Int.reduceEq, Int.reduceLT, Int.reduceLE, Nat.reduceLT, Nat.lt_irrefl, Nat.reduceBEq, tys0, tys1, tys2, tys3, tys4, tys5, tys6, tys7, tys8, tys9, tys10, tys11, tys12, tys13, tys14, tys15, tys16, tys17, tys18, Try.ntmps38, Try.results38]
  exact Fin.eq rfl rfl

def ordH (P : List Int) : Od := ordFo .nil (fo P P.length 0)
def sameB (P Q : List Int) : Bool := hydB P && hydB Q && (cmpT (ordH P) (ordH Q) == 0)
theorem hyd_len {P : List Int} (h : hydB P = true) : 1 ≤ P.length := by
  cases P with
  | nil => simp [hydB] at h
  | cons p r => simp
theorem ordH_sz {P : List Int} (h : hydB P = true) : (ordH P).sz ≤ 40 ∧ rng (ordH P) ∧ (fo P P.length 0).sz ≤ 40 := by
  obtain ⟨h1, h2⟩ := hydB_par h
  have h3 := fo_small h1 P.length 0
  have h4 := ordFo_sz (fo P P.length 0) .nil
  have h5 := ordFo_pos (fo P P.length 0) .nil 0 (by omega) (by omega) trivial
  have h6 := len_sz (fo P P.length 0)
  simp only [Od.sz] at h4
  exact ⟨by unfold ordH; omega, pos_rng (by omega) h5, by omega⟩
theorem nodeV0 (P : List Int) (h : hydB P = true) : ((List.range P.length).map (nodeV P))[0]? = some (.rptr (.agg [.int .i64 0, .sl false (Fo.els (fo P P.length 0))]) 0) := by
  have := hyd_len h
  rw [List.getElem?_map, List.getElem?_range (by omega)]
  rfl
theorem nodes_pure (P : List Int) : ∀ l : List Nat, pureL (l.map (nodeV P)) = true
  | [] => rfl
  | j :: l => by simp only [List.map_cons, nodeV, pureL, pureB, Fo.els_pure, nodes_pure P l, Bool.and_self, Bool.and_true, Bool.true_and]

theorem implSame_ok (P Q : List Int) (hP : P.length ≤ 1048576) (hQ : Q.length ≤ 1048576) : Ct Try.prog 37 [hyA P, hyA Q] [] (.tup [.bool (sameB P Q), .bool (hydB P && hydB Q)]) [] := by
  have pP := hyA_pure P
  have pQ := hyA_pure Q
  simp only [hyA] at pP pQ
  refine Ct.by_ hmix [] Try.func37 rfl ?_
  simp only [run0, run1, run2, run3, run4, run5, run6, run7, run8, run9, run10, run11, run12, run13, run14, run15, run16, run17, run18, run19, run20, run21, run22, reduceCtorEq, Nat.reduceEqDiff, Nat.reduceAdd, Nat.reduceSub, Nat.reduceLeDiff, indexAddrA, indexRefA, appendA, strA, Nat.reduceMul, Nat.zero_mul, Nat.reduceMod, Int.reduceEq, Int.reduceLT, Int.reduceLE, Nat.reduceLT, Nat.lt_irrefl, Nat.reduceBEq, tys0, tys1, tys2, tys3, tys4, tys5, tys6, tys7, tys8, tys9, tys10, tys11, tys12, tys13, tys14, tys15, tys16, tys17, tys18, Try.ntmps37, Try.results37, hyA]
  refine RunL.callp rfl rfl ok_f79 (implHydra_ok P hP) (by simp only [pureL, pP, Bool.and_self]) rfl ?_
  cases h1 : hydB P
  · simp only [run0, run1, run2, run3, run4, run5, run6, run7, run8, run9, run10, run11, run12, run13, run14, run15, run16, run17, run18, run19, run20, run21, run22, reduceCtorEq, Nat.reduceEqDiff, Nat.reduceAdd, Nat.reduceSub, Nat.reduceLeDiff, indexAddrA, indexRefA, appendA, strA, Nat.reduceMul, Nat.zero_mul, Nat.reduceMod, Int.reduceEq, Int.reduceLT, Int.reduceLE, Nat.reduceLT, Nat.lt_irrefl, Nat.reduceBEq, tys0, tys1, tys2, tys3, tys4, tys5, tys6, tys7, tys8, tys9, tys10, tys11, tys12, tys13, tys14, tys15, tys16, tys17, tys18, Try.ntmps37, Try.results37]
    exact Fin.eq (by simp [sameB, h1]) rfl
  simp only [run0, run1, run2, run3, run4, run5, run6, run7, run8, run9, run10, run11, run12, run13, run14, run15, run16, run17, run18, run19, run20, run21, run22, reduceCtorEq, Nat.reduceEqDiff, Nat.reduceAdd, Nat.reduceSub, Nat.reduceLeDiff, indexAddrA, indexRefA, appendA, strA, Nat.reduceMul, Nat.zero_mul, Nat.reduceMod, Int.reduceEq, Int.reduceLT, Int.reduceLE, Nat.reduceLT, Nat.lt_irrefl, Nat.reduceBEq, tys0, tys1, tys2, tys3, tys4, tys5, tys6, tys7, tys8, tys9, tys10, tys11, tys12, tys13, tys14, tys15, tys16, tys17, tys18, Try.ntmps37, Try.results37]
  refine RunL.callp rfl rfl ok_f79 (implHydra_ok Q hQ) (by simp only [pureL, pQ, Bool.and_self]) rfl ?_
  cases h2 : hydB Q
  · simp only [run0, run1, run2, run3, run4, run5, run6, run7, run8, run9, run10, run11, run12, run13, run14, run15, run16, run17, run18, run19, run20, run21, run22, reduceCtorEq, Nat.reduceEqDiff, Nat.reduceAdd, Nat.reduceSub, Nat.reduceLeDiff, indexAddrA, indexRefA, appendA, strA, Nat.reduceMul, Nat.zero_mul, Nat.reduceMod, Int.reduceEq, Int.reduceLT, Int.reduceLE, Nat.reduceLT, Nat.lt_irrefl, Nat.reduceBEq, tys0, tys1, tys2, tys3, tys4, tys5, tys6, tys7, tys8, tys9, tys10, tys11, tys12, tys13, tys14, tys15, tys16, tys17, tys18, Try.ntmps37, Try.results37]
    exact Fin.eq (by simp [sameB, h2]) rfl
  have n1 := nodeV0 P h1
  have n2 := nodeV0 Q h2
  obtain ⟨a1, a2, a3⟩ := ordH_sz h1
  obtain ⟨b1, b2, b3⟩ := ordH_sz h2
  simp only [run0, run1, run2, run3, run4, run5, run6, run7, run8, run9, run10, run11, run12, run13, run14, run15, run16, run17, run18, run19, run20, run21, run22, reduceCtorEq, Nat.reduceEqDiff, Nat.reduceAdd, Nat.reduceSub, Nat.reduceLeDiff, indexAddrA, indexRefA, appendA, strA, Nat.reduceMul, Nat.zero_mul, Nat.reduceMod, Int.reduceEq, Int.reduceLT, Int.reduceLE, Nat.reduceLT, Nat.lt_irrefl, Nat.reduceBEq, tys0, tys1, tys2, tys3, tys4, tys5, tys6, tys7, tys8, tys9, tys10, tys11, tys12, tys13, tys14, tys15, tys16, tys17, tys18, Try.ntmps37, Try.results37]
  refine ⟨by kernel_rfl, ?_⟩
  refine RunL.callp rfl rfl ok_f80 (treeOf_ok P h1) (by simp only [pureL, pP, Bool.and_self]) rfl ?_
  simp only [run0, run1, run2, run3, run4, run5, run6, run7, run8, run9, run10, run11, run12, run13, run14, run15, run16, run17, run18, run19, run20, run21, run22, reduceCtorEq, Nat.reduceEqDiff, Nat.reduceAdd, Nat.reduceSub, Nat.reduceLeDiff, indexAddrA, indexRefA, appendA, strA, Nat.reduceMul, Nat.zero_mul, Nat.reduceMod, Int.reduceEq, Int.reduceLT, Int.reduceLE, Nat.reduceLT, Nat.lt_irrefl, Nat.reduceBEq, tys0, tys1, tys2, tys3, tys4, tys5, tys6, tys7, tys8, tys9, tys10, tys11, tys12, tys13, tys14, tys15, tys16, tys17, tys18, Try.ntmps37, Try.results37, n1, Int.toNat_zero, Int.le_refl]
  refine RunL.callp rfl rfl ok_f81 (ordinal_ok _ 0 a3) (by simp only [pureL, pureB, Fo.els_pure, Bool.and_self, Bool.and_true, Bool.true_and]) rfl ?_
  simp only [run0, run1, run2, run3, run4, run5, run6, run7, run8, run9, run10, run11, run12, run13, run14, run15, run16, run17, run18, run19, run20, run21, run22, reduceCtorEq, Nat.reduceEqDiff, Nat.reduceAdd, Nat.reduceSub, Nat.reduceLeDiff, indexAddrA, indexRefA, appendA, strA, Nat.reduceMul, Nat.zero_mul, Nat.reduceMod, Int.reduceEq, Int.reduceLT, Int.reduceLE, Nat.reduceLT, Nat.lt_irrefl, Nat.reduceBEq, tys0, tys1, tys2, tys3, tys4, tys5, tys6, tys7, tys8, tys9, tys10, tys11, tys12, tys13, tys14, tys15, tys16, tys17, tys18, Try.ntmps37, Try.results37]
  refine RunL.callp rfl rfl ok_f80 (treeOf_ok Q h2) (by simp only [pureL, pQ, Bool.and_self]) rfl ?_
  simp only [run0, run1, run2, run3, run4, run5, run6, run7, run8, run9, run10, run11, run12, run13, run14, run15, run16, run17, run18, run19, run20, run21, run22, reduceCtorEq, Nat.reduceEqDiff, Nat.reduceAdd, Nat.reduceSub, Nat.reduceLeDiff, indexAddrA, indexRefA, appendA, strA, Nat.reduceMul, Nat.zero_mul, Nat.reduceMod, Int.reduceEq, Int.reduceLT, Int.reduceLE, Nat.reduceLT, Nat.lt_irrefl, Nat.reduceBEq, tys0, tys1, tys2, tys3, tys4, tys5, tys6, tys7, tys8, tys9, tys10, tys11, tys12, tys13, tys14, tys15, tys16, tys17, tys18, Try.ntmps37, Try.results37, n2, Int.toNat_zero, Int.le_refl]
  refine RunL.callp rfl rfl ok_f81 (ordinal_ok _ 0 b3) (by simp only [pureL, pureB, Fo.els_pure, Bool.and_self, Bool.and_true, Bool.true_and]) rfl ?_
  simp only [run0, run1, run2, run3, run4, run5, run6, run7, run8, run9, run10, run11, run12, run13, run14, run15, run16, run17, run18, run19, run20, run21, run22, reduceCtorEq, Nat.reduceEqDiff, Nat.reduceAdd, Nat.reduceSub, Nat.reduceLeDiff, indexAddrA, indexRefA, appendA, strA, Nat.reduceMul, Nat.zero_mul, Nat.reduceMod, Int.reduceEq, Int.reduceLT, Int.reduceLE, Nat.reduceLT, Nat.lt_irrefl, Nat.reduceBEq, tys0, tys1, tys2, tys3, tys4, tys5, tys6, tys7, tys8, tys9, tys10, tys11, tys12, tys13, tys14, tys15, tys16, tys17, tys18, Try.ntmps37, Try.results37]
  refine RunL.callp rfl rfl ok_f71 (cmp_ok (ordH P) (ordH Q) (by omega) (by omega)) (by first | rfl | simp only [pureL, pureB, Bool.and_self, Bool.and_true, Bool.true_and, Od.elems_pure, Od.pay_pure, Od.av_pure]) rfl ?_
  simp only [run0, run1, run2, run3, run4, run5, run6, run7, run8, run9, run10, run11, run12, run13, run14, run15, run16, run17, run18, run19, run20, run21, run22, reduceCtorEq, Nat.reduceEqDiff, Nat.reduceAdd, Nat.reduceSub, Nat.reduceLeDiff, indexAddrA, indexRefA, appendA, strA, Nat.reduceMul, Nat.zero_mul, Nat.reduceMod, Int.reduceEq, Int.reduceLT, Int.reduceLE, Nat.reduceLT, Nat.lt_irrefl, Nat.reduceBEq, tys0, tys1, tys2, tys3, tys4, tys5, tys6, tys7, tys8, tys9, tys10, tys11, tys12, tys13, tys14, tys15, tys16, tys17, tys18, Try.ntmps37, Try.results37]
  exact Fin.eq (by simp [sameB, h1, h2]) rfl

theorem specSame_ok (P Q : List Int) (hP : P.length ≤ 1048576) (hQ : Q.length ≤ 1048576) : Ct Try.prog 35 [hyA P, hyA Q] [] (.tup [.bool (sameB P Q), .bool (hydB P && hydB Q)]) [] := by
  have pP := hyA_pure P
  have pQ := hyA_pure Q
  simp only [hyA] at pP pQ
  refine Ct.by_ hmix [] Try.func35 rfl ?_
  simp only [run0, run1, run2, run3, run4, run5, run6, run7, run8, run9, run10, run11, run12, run13, run14, run15, run16, run17, run18, run19, run20, run21, run22, reduceCtorEq, Nat.reduceEqDiff, Nat.reduceAdd, Nat.reduceSub, Nat.reduceLeDiff, indexAddrA, indexRefA, appendA, strA, Nat.reduceMul, Nat.zero_mul, Nat.reduceMod, Int.reduceEq, Int.reduceLT, Int.reduceLE, Nat.reduceLT, Nat.lt_irrefl, Nat.reduceBEq, tys0, tys1, tys2, tys3, tys4, tys5, tys6, tys7, tys8, tys9, tys10, tys11, tys12, tys13, tys14, tys15, tys16, tys17, tys18, Try.ntmps35, Try.results35, hyA]
  refine RunL.callp rfl rfl ok_f76 (specHydra_ok P hP) (by simp only [pureL, pP, Bool.and_self]) rfl ?_
  cases h1 : hydB P
  · simp only [run0, run1, run2, run3, run4, run5, run6, run7, run8, run9, run10, run11, run12, run13, run14, run15, run16, run17, run18, run19, run20, run21, run22, reduceCtorEq, Nat.reduceEqDiff, Nat.reduceAdd, Nat.reduceSub, Nat.reduceLeDiff, indexAddrA, indexRefA, appendA, strA, Nat.reduceMul, Nat.zero_mul, Nat.reduceMod, Int.reduceEq, Int.reduceLT, Int.reduceLE, Nat.reduceLT, Nat.lt_irrefl, Nat.reduceBEq, tys0, tys1, tys2, tys3, tys4, tys5, tys6, tys7, tys8, tys9, tys10, tys11, tys12, tys13, tys14, tys15, tys16, tys17, tys18, Try.ntmps35, Try.results35]
    exact Fin.eq (by simp [sameB, h1]) rfl
  simp only [run0, run1, run2, run3, run4, run5, run6, run7, run8, run9, run10, run11, run12, run13, run14, run15, run16, run17, run18, run19, run20, run21, run22, reduceCtorEq, Nat.reduceEqDiff, Nat.reduceAdd, Nat.reduceSub, Nat.reduceLeDiff, indexAddrA, indexRefA, appendA, strA, Nat.reduceMul, Nat.zero_mul, Nat.reduceMod, Int.reduceEq, Int.reduceLT, Int.reduceLE, Nat.reduceLT, Nat.lt_irrefl, Nat.reduceBEq, tys0, tys1, tys2, tys3, tys4, tys5, tys6, tys7, tys8, tys9, tys10, tys11, tys12, tys13, tys14, tys15, tys16, tys17, tys18, Try.ntmps35, Try.results35]
  refine RunL.callp rfl rfl ok_f76 (specHydra_ok Q hQ) (by simp only [pureL, pQ, Bool.and_self]) rfl ?_
  cases h2 : hydB Q
  · simp only [run0, run1, run2, run3, run4, run5, run6, run7, run8, run9, run10, run11, run12, run13, run14, run15, run16, run17, run18, run19, run20, run21, run22, reduceCtorEq, Nat.reduceEqDiff, Nat.reduceAdd, Nat.reduceSub, Nat.reduceLeDiff, indexAddrA, indexRefA, appendA, strA, Nat.reduceMul, Nat.zero_mul, Nat.reduceMod, Int.reduceEq, Int.reduceLT, Int.reduceLE, Nat.reduceLT, Nat.lt_irrefl, Nat.reduceBEq, tys0, tys1, tys2, tys3, tys4, tys5, tys6, tys7, tys8, tys9, tys10, tys11, tys12, tys13, tys14, tys15, tys16, tys17, tys18, Try.ntmps35, Try.results35]
    exact Fin.eq (by simp [sameB, h2]) rfl
  obtain ⟨a1, a2, a3⟩ := ordH_sz h1
  obtain ⟨b1, b2, b3⟩ := ordH_sz h2
  have l1 := hyd_len h1
  have l2 := hyd_len h2
  simp only [run0, run1, run2, run3, run4, run5, run6, run7, run8, run9, run10, run11, run12, run13, run14, run15, run16, run17, run18, run19, run20, run21, run22, reduceCtorEq, Nat.reduceEqDiff, Nat.reduceAdd, Nat.reduceSub, Nat.reduceLeDiff, indexAddrA, indexRefA, appendA, strA, Nat.reduceMul, Nat.zero_mul, Nat.reduceMod, Int.reduceEq, Int.reduceLT, Int.reduceLE, Nat.reduceLT, Nat.lt_irrefl, Nat.reduceBEq, tys0, tys1, tys2, tys3, tys4, tys5, tys6, tys7, tys8, tys9, tys10, tys11, tys12, tys13, tys14, tys15, tys16, tys17, tys18, Try.ntmps35, Try.results35]
  refine ⟨by kernel_rfl, ?_⟩
  refine RunL.callp rfl rfl ok_f77 (deOrdinal_ok P (hydB_par h1).1 (hydB_par h1).2 P.length 0 (by omega) (by omega)) (by simp only [pureL, pureB, ints_pure, Bool.and_self]) rfl ?_
  simp only [run0, run1, run2, run3, run4, run5, run6, run7, run8, run9, run10, run11, run12, run13, run14, run15, run16, run17, run18, run19, run20, run21, run22, reduceCtorEq, Nat.reduceEqDiff, Nat.reduceAdd, Nat.reduceSub, Nat.reduceLeDiff, indexAddrA, indexRefA, appendA, strA, Nat.reduceMul, Nat.zero_mul, Nat.reduceMod, Int.reduceEq, Int.reduceLT, Int.reduceLE, Nat.reduceLT, Nat.lt_irrefl, Nat.reduceBEq, tys0, tys1, tys2, tys3, tys4, tys5, tys6, tys7, tys8, tys9, tys10, tys11, tys12, tys13, tys14, tys15, tys16, tys17, tys18, Try.ntmps35, Try.results35]
  refine RunL.callp rfl rfl ok_f77 (deOrdinal_ok Q (hydB_par h2).1 (hydB_par h2).2 Q.length 0 (by omega) (by omega)) (by simp only [pureL, pureB, ints_pure, Bool.and_self]) rfl ?_
  simp only [run0, run1, run2, run3, run4, run5, run6, run7, run8, run9, run10, run11, run12, run13, run14, run15, run16, run17, run18, run19, run20, run21, run22, reduceCtorEq, Nat.reduceEqDiff, Nat.reduceAdd, Nat.reduceSub, Nat.reduceLeDiff, indexAddrA, indexRefA, appendA, strA, Nat.reduceMul, Nat.zero_mul, Nat.reduceMod, Int.reduceEq, Int.reduceLT, Int.reduceLE, Nat.reduceLT, Nat.lt_irrefl, Nat.reduceBEq, tys0, tys1, tys2, tys3, tys4, tys5, tys6, tys7, tys8, tys9, tys10, tys11, tys12, tys13, tys14, tys15, tys16, tys17, tys18, Try.ntmps35, Try.results35]
  refine RunL.callp rfl rfl ok_f68 (odCmp_ok (ordH P) (ordH Q) (by omega) (by omega) a2 b2) (by first | rfl | simp only [pureL, pureB, Bool.and_self, Bool.and_true, Bool.true_and, Od.elems_pure, Od.pay_pure, Od.av_pure]) rfl ?_
  simp only [run0, run1, run2, run3, run4, run5, run6, run7, run8, run9, run10, run11, run12, run13, run14, run15, run16, run17, run18, run19, run20, run21, run22, reduceCtorEq, Nat.reduceEqDiff, Nat.reduceAdd, Nat.reduceSub, Nat.reduceLeDiff, indexAddrA, indexRefA, appendA, strA, Nat.reduceMul, Nat.zero_mul, Nat.reduceMod, Int.reduceEq, Int.reduceLT, Int.reduceLE, Nat.reduceLT, Nat.lt_irrefl, Nat.reduceBEq, tys0, tys1, tys2, tys3, tys4, tys5, tys6, tys7, tys8, tys9, tys10, tys11, tys12, tys13, tys14, tys15, tys16, tys17, tys18, Try.ntmps35, Try.results35]
  exact Fin.eq (by simp [sameB, h1, h2]) rfl

theorem FnExactSameHydra_ok {a0 a1 : AV} (h0 : IsOf Try.prog 57 a0) (h1 : IsOf Try.prog 57 a1) : Ct Try.prog 8 [a0, a1] [] (.bool true) [] := by
  obtain ⟨P, rfl, hP⟩ := laws_isHy h0
  obtain ⟨Q, rfl, hQ⟩ := laws_isHy h1
  have pP := hyA_pure P
  have pQ := hyA_pure Q
  refine Ct.by_ hmix [] Try.func8 rfl ?_
  simp only [run0, run1, run2, run3, run4, run5, run6, run7, run8, run9, run10, run11, run12, run13, run14, run15, run16, run17, run18, run19, run20, run21, run22, reduceCtorEq, Nat.reduceEqDiff, Nat.reduceAdd, Nat.reduceSub, Nat.reduceLeDiff, indexAddrA, indexRefA, appendA, strA, Nat.reduceMul, Nat.zero_mul, Nat.reduceMod, Int.reduceEq, Int.reduceLT, Int.reduceLE, Nat.reduceLT, Nat.lt_irrefl, Nat.reduceBEq, tys0, tys1, tys2, tys3, tys4, tys5, tys6, tys7, tys8, tys9, tys10, tys11, tys12, tys13, tys14, tys15, tys16, tys17, tys18, Try.ntmps8, Try.results8, hyA]
  refine RunL.callp rfl rfl ok_f34 (szHydra_ok P 1048576 hP (by omega) (by omega)) (by simp only [pureL, pureB, pP, Bool.and_self]) rfl ?_
  rcases szN_spec P.length 1048576 with ⟨g1, g2⟩ | ⟨g1, g2⟩
  case inr =>
    have e1 : szN P.length 1048576 < 0 := by omega
    simp only [run0, run1, run2, run3, run4, run5, run6, run7, run8, run9, run10, run11, run12, run13, run14, run15, run16, run17, run18, run19, run20, run21, run22, reduceCtorEq, Nat.reduceEqDiff, Nat.reduceAdd, Nat.reduceSub, Nat.reduceLeDiff, indexAddrA, indexRefA, appendA, strA, Nat.reduceMul, Nat.zero_mul, Nat.reduceMod, Int.reduceEq, Int.reduceLT, Int.reduceLE, Nat.reduceLT, Nat.lt_irrefl, Nat.reduceBEq, tys0, tys1, tys2, tys3, tys4, tys5, tys6, tys7, tys8, tys9, tys10, tys11, tys12, tys13, tys14, tys15, tys16, tys17, tys18, Try.ntmps8, Try.results8, e1]
    exact Fin.eq rfl rfl
  have e1 : ¬ szN P.length 1048576 < 0 := by omega
  simp only [run0, run1, run2, run3, run4, run5, run6, run7, run8, run9, run10, run11, run12, run13, run14, run15, run16, run17, run18, run19, run20, run21, run22, reduceCtorEq, Nat.reduceEqDiff, Nat.reduceAdd, Nat.reduceSub, Nat.reduceLeDiff, indexAddrA, indexRefA, appendA, strA, Nat.reduceMul, Nat.zero_mul, Nat.reduceMod, Int.reduceEq, Int.reduceLT, Int.reduceLE, Nat.reduceLT, Nat.lt_irrefl, Nat.reduceBEq, tys0, tys1, tys2, tys3, tys4, tys5, tys6, tys7, tys8, tys9, tys10, tys11, tys12, tys13, tys14, tys15, tys16, tys17, tys18, Try.ntmps8, Try.results8, e1]
  refine RunL.callp rfl rfl ok_f34 (szHydra_ok Q (szN P.length 1048576) hQ (by omega) (by omega)) (by simp only [pureL, pureB, pQ, Bool.and_self]) rfl ?_
  rcases szN_spec Q.length (szN P.length 1048576) with ⟨k1, k2⟩ | ⟨k1, k2⟩
  case inr =>
    have e2 : szN Q.length (szN P.length 1048576) < 0 := by omega
    simp only [run0, run1, run2, run3, run4, run5, run6, run7, run8, run9, run10, run11, run12, run13, run14, run15, run16, run17, run18, run19, run20, run21, run22, reduceCtorEq, Nat.reduceEqDiff, Nat.reduceAdd, Nat.reduceSub, Nat.reduceLeDiff, indexAddrA, indexRefA, appendA, strA, Nat.reduceMul, Nat.zero_mul, Nat.reduceMod, Int.reduceEq, Int.reduceLT, Int.reduceLE, Nat.reduceLT, Nat.lt_irrefl, Nat.reduceBEq, tys0, tys1, tys2, tys3, tys4, tys5, tys6, tys7, tys8, tys9, tys10, tys11, tys12, tys13, tys14, tys15, tys16, tys17, tys18, Try.ntmps8, Try.results8, e2]
    exact Fin.eq rfl rfl
  have e2 : ¬ szN Q.length (szN P.length 1048576) < 0 := by omega
  have lP : P.length ≤ 1048576 := by omega
  have lQ : Q.length ≤ 1048576 := by omega
  simp only [run0, run1, run2, run3, run4, run5, run6, run7, run8, run9, run10, run11, run12, run13, run14, run15, run16, run17, run18, run19, run20, run21, run22, reduceCtorEq, Nat.reduceEqDiff, Nat.reduceAdd, Nat.reduceSub, Nat.reduceLeDiff, indexAddrA, indexRefA, appendA, strA, Nat.reduceMul, Nat.zero_mul, Nat.reduceMod, Int.reduceEq, Int.reduceLT, Int.reduceLE, Nat.reduceLT, Nat.lt_irrefl, Nat.reduceBEq, tys0, tys1, tys2, tys3, tys4, tys5, tys6, tys7, tys8, tys9, tys10, tys11, tys12, tys13, tys14, tys15, tys16, tys17, tys18, Try.ntmps8, Try.results8, e2]
  refine ⟨by kernel_rfl, ?_⟩
  refine RunL.callp rfl rfl ok_f36 (toHydra_ok P lP) (by simp only [pureL, pureB, pP, Bool.and_self]) rfl ?_
  simp only [run0, run1, run2, run3, run4, run5, run6, run7, run8, run9, run10, run11, run12, run13, run14, run15, run16, run17, run18, run19, run20, run21, run22, reduceCtorEq, Nat.reduceEqDiff, Nat.reduceAdd, Nat.reduceSub, Nat.reduceLeDiff, indexAddrA, indexRefA, appendA, strA, Nat.reduceMul, Nat.zero_mul, Nat.reduceMod, Int.reduceEq, Int.reduceLT, Int.reduceLE, Nat.reduceLT, Nat.lt_irrefl, Nat.reduceBEq, tys0, tys1, tys2, tys3, tys4, tys5, tys6, tys7, tys8, tys9, tys10, tys11, tys12, tys13, tys14, tys15, tys16, tys17, tys18, Try.ntmps8, Try.results8, hyA]
  refine RunL.callp rfl rfl ok_f36 (toHydra_ok Q lQ) (by simp only [pureL, pureB, pQ, Bool.and_self]) rfl ?_
  simp only [run0, run1, run2, run3, run4, run5, run6, run7, run8, run9, run10, run11, run12, run13, run14, run15, run16, run17, run18, run19, run20, run21, run22, reduceCtorEq, Nat.reduceEqDiff, Nat.reduceAdd, Nat.reduceSub, Nat.reduceLeDiff, indexAddrA, indexRefA, appendA, strA, Nat.reduceMul, Nat.zero_mul, Nat.reduceMod, Int.reduceEq, Int.reduceLT, Int.reduceLE, Nat.reduceLT, Nat.lt_irrefl, Nat.reduceBEq, tys0, tys1, tys2, tys3, tys4, tys5, tys6, tys7, tys8, tys9, tys10, tys11, tys12, tys13, tys14, tys15, tys16, tys17, tys18, Try.ntmps8, Try.results8, hyA]
  refine RunL.callp rfl rfl ok_f35 (specSame_ok P Q lP lQ) (by simp only [pureL, pP, pQ, Bool.and_self]) rfl ?_
  simp only [run0, run1, run2, run3, run4, run5, run6, run7, run8, run9, run10, run11, run12, run13, run14, run15, run16, run17, run18, run19, run20, run21, run22, reduceCtorEq, Nat.reduceEqDiff, Nat.reduceAdd, Nat.reduceSub, Nat.reduceLeDiff, indexAddrA, indexRefA, appendA, strA, Nat.reduceMul, Nat.zero_mul, Nat.reduceMod, Int.reduceEq, Int.reduceLT, Int.reduceLE, Nat.reduceLT, Nat.lt_irrefl, Nat.reduceBEq, tys0, tys1, tys2, tys3, tys4, tys5, tys6, tys7, tys8, tys9, tys10, tys11, tys12, tys13, tys14, tys15, tys16, tys17, tys18, Try.ntmps8, Try.results8, hyA]
  refine RunL.callp rfl rfl ok_f36 (toHydra_ok P lP) (by simp only [pureL, pureB, pP, Bool.and_self]) rfl ?_
  simp only [run0, run1, run2, run3, run4, run5, run6, run7, run8, run9, run10, run11, run12, run13, run14, run15, run16, run17, run18, run19, run20, run21, run22, reduceCtorEq, Nat.reduceEqDiff, Nat.reduceAdd, Nat.reduceSub, Nat.reduceLeDiff, indexAddrA, indexRefA, appendA, strA, Nat.reduceMul, Nat.zero_mul, Nat.reduceMod, Int.reduceEq, Int.reduceLT, Int.reduceLE, Nat.reduceLT, Nat.lt_irrefl, Nat.reduceBEq, tys0, tys1, tys2, tys3, tys4, tys5, tys6, tys7, tys8, tys9, tys10, tys11, tys12, tys13, tys14, tys15, tys16, tys17, tys18, Try.ntmps8, Try.results8, hyA]
  refine RunL.callp rfl rfl ok_f36 (toHydra_ok Q lQ) (by simp only [pureL, pureB, pQ, Bool.and_self]) rfl ?_
  simp only [run0, run1, run2, run3, run4, run5, run6, run7, run8, run9, run10, run11, run12, run13, run14, run15, run16, run17, run18, run19, run20, run21, run22, reduceCtorEq, Nat.reduceEqDiff, Nat.reduceAdd, Nat.reduceSub, Nat.reduceLeDiff, indexAddrA, indexRefA, appendA, strA, Nat.reduceMul, Nat.zero_mul, Nat.reduceMod, Int.reduceEq, Int.reduceLT, Int.reduceLE, Nat.reduceLT, Nat.lt_irrefl, Nat.reduceBEq, tys0, tys1, tys2, tys3, tys4, tys5, tys6, tys7, tys8, tys9, tys10, tys11, tys12, tys13, tys14, tys15, tys16, tys17, tys18, Try.ntmps8, Try.results8, hyA]
  refine RunL.callp rfl rfl ok_f37 (implSame_ok P Q lP lQ) (by simp only [pureL, pP, pQ, Bool.and_self]) rfl ?_
  simp only [run0, run1, run2, run3, run4, run5, run6, run7, run8, run9, run10, run11, run12, run13, run14, run15, run16, run17, run18, run19, run20, run21, run22, reduceCtorEq, Nat.reduceEqDiff, Nat.reduceAdd, Nat.reduceSub, Nat.reduceLeDiff, indexAddrA, indexRefA, appendA, strA, Nat.reduceMul, Nat.zero_mul, Nat.reduceMod, Int.reduceEq, Int.reduceLT, Int.reduceLE, Nat.reduceLT, Nat.lt_irrefl, Nat.reduceBEq, tys0, tys1, tys2, tys3, tys4, tys5, tys6, tys7, tys8, tys9, tys10, tys11, tys12, tys13, tys14, tys15, tys16, tys17, tys18, Try.ntmps8, Try.results8, hyA, bne_self_eq_false]
  refine ⟨by kernel_rfl, ?_⟩
  refine RunL.callp rfl rfl ok_f36 (toHydra_ok P lP) (by simp only [pureL, pureB, pP, Bool.and_self]) rfl ?_
  simp only [run0, run1, run2, run3, run4, run5, run6, run7, run8, run9, run10, run11, run12, run13, run14, run15, run16, run17, run18, run19, run20, run21, run22, reduceCtorEq, Nat.reduceEqDiff, Nat.reduceAdd, Nat.reduceSub, Nat.reduceLeDiff, indexAddrA, indexRefA, appendA, strA, Nat.reduceMul, Nat.zero_mul, Nat.reduceMod, Int.reduceEq, Int.reduceLT, Int.reduceLE, Nat.reduceLT, Nat.lt_irrefl, Nat.reduceBEq, tys0, tys1, tys2, tys3, tys4, tys5, tys6, tys7, tys8, tys9, tys10, tys11, tys12, tys13, tys14, tys15, tys16, tys17, tys18, Try.ntmps8, Try.results8, hyA]
  refine RunL.callp rfl rfl ok_f38 (eqHydra_ok P lP) (by simp only [pureL, pP, pQ, Bool.and_self]) rfl ?_
  simp only [run0, run1, run2, run3, run4, run5, run6, run7, run8, run9, run10, run11, run12, run13, run14, run15, run16, run17, run18, run19, run20, run21, run22, reduceCtorEq, Nat.reduceEqDiff, Nat.reduceAdd, Nat.reduceSub, Nat.reduceLeDiff, indexAddrA, indexRefA, appendA, strA, Nat.reduceMul, Nat.zero_mul, Nat.reduceMod, Int.reduceEq, Int.reduceLT, Int.reduceLE, Nat.reduceLT, Nat.lt_irrefl, Nat.reduceBEq, tys0, tys1, tys2, tys3, tys4, tys5, tys6, tys7, tys8, tys9, tys10, tys11, tys12, tys13, tys14, tys15, tys16, tys17, tys18, Try.ntmps8, Try.results8, hyA]
  refine ⟨by kernel_rfl, ?_⟩
  refine RunL.callp rfl rfl ok_f36 (toHydra_ok Q lQ) (by simp only [pureL, pureB, pQ, Bool.and_self]) rfl ?_
  simp only [run0, run1, run2, run3, run4, run5, run6, run7, run8, run9, run10, run11, run12, run13, run14, run15, run16, run17, run18, run19, run20, run21, run22, reduceCtorEq, Nat.reduceEqDiff, Nat.reduceAdd, Nat.reduceSub, Nat.reduceLeDiff, indexAddrA, indexRefA, appendA, strA, Nat.reduceMul, Nat.zero_mul, Nat.reduceMod, Int.reduceEq, Int.reduceLT, Int.reduceLE, Nat.reduceLT, Nat.lt_irrefl, Nat.reduceBEq, tys0, tys1, tys2, tys3, tys4, tys5, tys6, tys7, tys8, tys9, tys10, tys11, tys12, tys13, tys14, tys15, tys16, tys17, tys18, Try.ntmps8, Try.results8, hyA]
  refine RunL.callp rfl rfl ok_f38 (eqHydra_ok Q lQ) (by simp only [pureL, pP, pQ, Bool.and_self]) rfl ?_
  simp only [run0, run1, run2, run3, run4, run5, run6, run7, run8, run9, run10, run11, run12, run13, run14, run15, run16, run17, run18, run19, run20, run21, run22, reduceCtorEq, Nat.reduceEqDiff, Nat.reduceAdd, Nat.reduceSub, Nat.reduceLeDiff, indexAddrA, indexRefA, appendA, strA, Nat.reduceMul, Nat.zero_mul, Nat.reduceMod, Int.reduceEq, Int.reduceLT, Int.reduceLE, Nat.reduceLT, Nat.lt_irrefl, Nat.reduceBEq, tys0, tys1, tys2, tys3, tys4, tys5, tys6, tys7, tys8, tys9, tys10, tys11, tys12, tys13, tys14, tys15, tys16, tys17, tys18, Try.ntmps8, Try.results8]
  exact Fin.eq rfl rfl

end Go.Proofs.Ytphmkhaboghagaa
/-
  A logic of values for Go's functions (part 24): a call that is lent what the caller owns, and that only reads it: it may come before or behind other reading steps.
-/
namespace Go.Proofs.Ytphmkhaboghagaa.K
set_option linter.unusedVariables false
set_option linter.unusedSimpArgs false
open Go Go.RowKit

theorem RunL.lendB {P : Program} {k : Oper → Knd} {ops : Array Oper} {K : St → Prop} {o : Oper} {rest : List Oper} {s : St} {f : FuncId} {args : Array Operand} {ats : Array TypeId} {r : AV} {xs ys : List AV}
    (hg : guardA ops s o = some true) (ho : o.op = .call { callee := .value (.func f), args := args, argTypes := ats }) (hf : okFn P f = true) (hkd : Knd.le .B (k o) = true) (hW : ∀ i, isW k i = false ∧ rowsAt k i = false)
    (h : Ct P f ys [] r []) (hx : args.toList.map s.ev = xs) (hy : ∀ X, VwL (s.L ++ X) xs ys) (hr : flatB r = true) (hk : R P k ops rest (s.put o.dst r) K) : RunL P k ops (o :: rest) s K := by
  refine .op ⟨.B, r, []⟩ hkd ⟨⟨fun _ h => (nomatch h), fun h => (nomatch h)⟩, fun s1 ha hL => ⟨by rw [agree_guard ha]; exact hg, ?_⟩⟩ (R.sound hk)
  obtain ⟨L0, X, hX, hlen, hS⟩ := hL
  have e0 : L0 = s.L := by
    apply List.ext_getElem?
    intro i
    obtain ⟨w1, w2⟩ := hW i
    rcases hS i w1 with e | ⟨e, _⟩
    · exact e
    · rw [w2] at e; cases e
  subst e0
  have he : args.toList.map s1.ev = xs := by
    rw [← hx]
    exact map_congr_ev fun x hx => agree_ev ha (by rw [ho]; simp [Op.operands, Call.operands]; exact .inr (by simpa using hx))
  have hc : Ct P f (args.toList.map s1.ev) s1.L r s1.L := by
    rw [he, hX]
    exact Ct.lend h (hy X) hr
  have := call_sound (P := P) (s := s1) ho hf hc
  exact this

end Go.Proofs.Ytphmkhaboghagaa.K
/-
  An address of an array's element: the array lies in a variable of the call's own.
-/
namespace Go.Proofs.Ytphmkhaboghagaa.K
open Go Go.RowKit
set_option maxRecDepth 8000

theorem run_indexArr {P : Program} {t e : TypeId} {len : Nat} (w : World) (ht : P.underlying t = some (.array len e)) (hi : (P.info? e).isSome = true) (k : IntKind) (i : Int) (b off : Nat)
    (h0 : 0 ≤ i) (h1 : i < (len : Int)) :
    (Instr.indexAt t (.pointer (some ⟨b, off, none⟩)) (.int k i)).run P w = .ok (.pointer (some ⟨b, off + i.toNat * P.cellsOf e, none⟩)) w := by
  have hadd : (⟨b, off, none⟩ : Addr).add (i.toNat * P.cellsOf e) = ⟨b, off + i.toNat * P.cellsOf e, none⟩ := by unfold Addr.add; split <;> simp_all
  simp [Instr.indexAt, asIntOf, run_underlying ht, Instr.sureAddr, h0, h1, run_sizeOf w hi, hadd]
theorem indexArr_sound {P : Program} {o : Oper} {s : St} {t e : TypeId} {x i : Operand} {id off len : Nat} {ik : IntKind} {n : Int} (ho : o.op = .indexAddr t x i) (hx : s.ev x = .ptr id off) (hi : s.ev i = .int ik n)
    (ht : P.underlying t = some (.array len e)) (hsz : (P.info? e).isSome = true) (h0 : 0 ≤ n) (h1 : n < (len : Int)) : OpS P o s (s.put o.dst (.ptr id (off + n.toNat * P.cellsOf e))) := by
  refine OpS.pure fun γ a w hr => ?_
  have e1 := hr.ev x
  have e2 := hr.ev i
  rw [hx] at e1
  rw [hi] at e2
  unfold execOp
  rw [ho]
  generalize hu : a.eval x = u at e1
  generalize hv : a.eval i = v at e2
  cases e1 with
  | ptr _ _ b c T cs hL hb =>
    cases e2
    have := run_indexArr (P := P) w ht hsz ik n b off h0 h1
    exact ⟨_, by simp [hu, hv, this], .ptr _ _ _ _ _ _ hL hb⟩
/-- The address of an element of an own array. -/
theorem RunL.indexArr {P : Program} {k : Oper → Knd} {ops : Array Oper} {K : St → Prop} {o : Oper} {rest : List Oper} {s : St} {t e : TypeId} {x i : Operand} {id off len : Nat} {ik : IntKind} {n : Int}
    (hg : guardA ops s o = some true) (ho : o.op = .indexAddr t x i) (ht : P.underlying t = some (.array len e)) (hx : s.ev x = .ptr id off) (hi : s.ev i = .int ik n) (hsz : (P.info? e).isSome = true) (h0 : 0 ≤ n) (h1 : n < (len : Int))
    (h : R P k ops rest (s.put o.dst (.ptr id (off + n.toNat * P.cellsOf e))) K) : RunL P k ops (o :: rest) s K := by
  refine .op ⟨.A, .ptr id (off + n.toNat * P.cellsOf e), []⟩ rfl ⟨⟨fun _ h => (by cases h), fun h => (by cases h)⟩, fun s1 ha _ => ⟨by rw [agree_guard ha]; exact hg, ?_⟩⟩ (R.sound h)
  exact indexArr_sound ho (by rw [agree_ev ha (by rw [ho]; simp [Op.operands])]; exact hx) (by rw [agree_ev ha (by rw [ho]; simp [Op.operands])]; exact hi) ht hsz h0 h1
/-- A load that may look at a variable that results go to. -/
theorem RunL.loadX {P : Program} {k : Oper → Knd} {ops : Array Oper} {K : St → Prop} {o : Oper} {rest : List Oper} {s : St} {x : AV} (hg : guardA ops s o = some true) (hk : k o = .D) (hx : pureA P s o.op = some x)
    (h : R P k ops rest (s.put o.dst x) K) : RunL P k ops (o :: rest) s K := .loadD hg hk hx (R.sound h)

end Go.Proofs.Ytphmkhaboghagaa.K
/-
  Is a slice nil? (A slice without elements may be nil or not: both are told.)
-/
namespace Go.Proofs.Ytphmkhaboghagaa.K
set_option linter.unusedVariables false
set_option linter.unusedSimpArgs false
open Go Go.RowKit
set_option maxRecDepth 8000

theorem equalIn_nil {P : Program} {T e : TypeId} (w : World) (ht : P.underlying T = some (.slice e)) (d : Nat) (A : Option Addr) (n c : Nat) :
    (Op.equalIn (d + 1) T (.slice A n c) (.slice none 0 0)).run P w = .ok A.isNone w := by
  unfold Op.equalIn
  simp only [Sem.run_bind, run_underlying ht, Result.andThen_ok]
  cases A <;> simp
theorem run_isNil {P : Program} {T e : TypeId} (w : World) (ht : P.underlying T = some (.slice e)) (A : Option Addr) (n c : Nat) (ox oy : Operand) :
    (do eqGuard .eql T ox oy (.slice A n c) (.slice none 0 0); binOp .eql T (.slice A n c) (.slice none 0 0) : Sem Value).run P w = .ok (.bool A.isNone) w := by
  have hg : (eqGuard .eql T ox oy (.slice A n c) (.slice none 0 0)).run P w = .ok () w := by
    unfold eqGuard
    simp
  have he : Op.equal T (.slice A n c) (.slice none 0 0) = Op.equalIn Op.maxDepth T (.slice A n c) (.slice none 0 0) := rfl
  have h1 := equalIn_nil (P := P) w ht 9999 A n c
  have hd : Op.maxDepth = 9999 + 1 := rfl
  rw [hd] at he
  simp only [Sem.run_bind, hg, Result.andThen_ok, binOp]
  rw [he]
  generalize Op.equalIn (9999 + 1) T (.slice A n c) (.slice none 0 0) = m at *
  simp [h1]
theorem AWp.nilTest {P : Program} {id : Nat} {o1 o2 : Oper} {Q : Exit → St → Prop} {s : St} {x0 : Operand} {d1 d2 : Tmp} {T T2 e : TypeId} {own : Bool} {es : List AV}
    (h1 : o1.op = .move x0) (hd1 : o1.dst = some d1) (hg1 : o1.guard = none) (h2 : o2.op = .binOp .eql T (.tmp d1) (.const (.slice none 0 0)) T2) (hd2 : o2.dst = some d2) (hg2 : o2.guard = none)
    (ht : P.underlying T = some (.slice e)) (hx : s.ev x0 = .sl own es) (hlt : d1 < s.t.length) (hc : ∀ e ∈ es, e.cells ≠ [])
    (h : ∀ b, (es ≠ [] → b = false) → Q .normal ((s.put (some d1) (.sl own es)).put (some d2) (.bool b))) : AWp P (.region id #[o1, o2] false) Q s := by
  intro ro γ a w _ hr
  refine wpIn_region ?_
  have gA1 : guardA #[o1, o2] s o1 = some true := by unfold guardA; rw [hg1]
  have gA2 : ∀ s', guardA #[o1, o2] s' o2 = some true := fun s' => by unfold guardA; rw [hg2]
  have m1 : OpS P o1 s (s.put o1.dst (.sl own es)) := pureA_sound (by rw [h1]; simp only [pureA, hx])
  have hr2 : List.range (#[o1, o2] : Array Oper).size = [0, 1] := rfl
  rw [hr2]
  simp only [wpOpsIn, List.getElem?_toArray, List.getElem?_cons_zero, List.getElem?_cons_succ]
  rw [guardA_wanted hr gA1, if_pos rfl]
  refine m1.wpIn ro hr fun γ' a' w' hr' hE' hS' => ?_
  rw [guardA_wanted hr' (gA2 _), if_pos rfl]
  have hL : (s.put o1.dst (.sl own es)).L = s.L := St.put_L _ _ _
  have e1 := hr'.ev (.tmp d1)
  have hev : (s.put o1.dst (.sl own es)).ev (.tmp d1) = .sl own es := by
    rw [hd1]; simp [St.put, St.ev, hlt]
  rw [hev] at e1
  have key : ∃ b : Bool, (es ≠ [] → b = false) ∧ (execOp a'.eval o2).run P w' = .ok (.value (.bool b)) w' := by
    generalize hu : a'.eval (.tmp d1) = u at e1
    cases e1 with
    | sl _ _ A n c sz vals hn hc' hsz hq2 hq1 hq3 =>
      refine ⟨A.isNone, fun hne => ?_, ?_⟩
      · obtain ⟨z, zs, rfl⟩ := List.exists_cons_of_ne_nil hne
        obtain ⟨y, ys, hy⟩ := List.exists_cons_of_ne_nil (hc z (by simp))
        have := hq2 0 z 0 y rfl (by rw [hy]; rfl)
        obtain ⟨b, o, rfl⟩ := roCell_addr this
        rfl
      · unfold execOp
        rw [h2]
        have := run_isNil (P := P) w' ht A n c (.tmp d1) (.const (.slice none 0 0))
        have hc0 : a'.eval (.const (.slice none 0 0)) = .slice none 0 0 := rfl
        simp only [hu, hc0]
        simp only [Sem.run_bind] at this ⊢
        simp [this]
  obtain ⟨b, hb, hrun⟩ := key
  refine OpR.wpIn (.inl ?_) (fun c hc => by rw [h2] at hc; cases hc) ro
  unfold Oper.wp
  rw [hrun]
  refine ⟨γ', (s.put (some d1) (.sl own es)).put (some d2) (.bool b), ?_, ?_, hS', h b hb⟩
  · have := hr'.put o2.dst (RV.bool b)
    rw [hd1, hd2] at this
    rw [hd2]
    exact this
  · rw [St.put_L]
    rw [hd1] at hE'
    exact hE'

end Go.Proofs.Ytphmkhaboghagaa.K
/-
  Rows of the call's own that nobody writes any more are told as values from here on.
-/
namespace Go.Proofs.Ytphmkhaboghagaa.K
set_option linter.unusedVariables false
set_option linter.unusedSimpArgs false
open Go Go.RowKit

def frzM (D : List Nat) (γ : Nat → Gh) (w : World) : Nat → Gh := fun b =>
  match γ b with
  | .ow id p c => if id ∈ D then (match w.heap[b]? with | some o => .ro o | none => .out) else .ow id p c
  | x => x
theorem frzM_ro {D : List Nat} {γ : Nat → Gh} {w : World} : ∀ b o, γ b = .ro o → frzM D γ w b = .ro o := fun b o h => by simp [frzM, h]
def killS (D : List Nat) (L : List AObj) : List AObj := L.mapIdx fun i o => if i ∈ D then .dead else o
theorem killS_get (D : List Nat) (L : List AObj) (i : Nat) : (killS D L)[i]? = (L[i]?).map fun o => if i ∈ D then .dead else o := by
  simp [killS]
theorem killS_out {D : List Nat} {L : List AObj} {i : Nat} (h : i ∉ D) : (killS D L)[i]? = L[i]? := by
  rw [killS_get]; cases L[i]? <;> simp [h]
theorem killS_in {D : List Nat} {L : List AObj} {i : Nat} {o : AObj} (h : i ∈ D) (ho : L[i]? = some o) : (killS D L)[i]? = some .dead := by
  rw [killS_get, ho]; simp [h]
/-- 'x', told with what the call owns, is 'y' once the rows 'D' are not written any more. -/
def FrV (D : List Nat) (L : List AObj) (x y : AV) : Prop := ∀ γ w v, Inv γ L w → RV γ L x v → RV (frzM D γ w) (killS D L) y v
theorem FrV.pur {D : List Nat} {L : List AObj} {x : AV} (h : Pur x) : FrV D L x x := fun γ w v _ hv => h _ _ _ _ _ frzM_ro hv
theorem FrV.nil {D : List Nat} {L : List AObj} (o : Bool) : FrV D L (.lit (.slice none 0 0)) (.sl o []) := by
  intro γ w v hI hv
  cases hv
  exact .sl _ _ _ 0 0 0 (fun _ _ => undef) rfl (Nat.le_refl _) (by simp) (by simp) (by simp) (by simp)
theorem FrV.ptr {D : List Nat} {L : List AObj} {id off : Nat} {T : TypeId} {cs : List AV} (hD : id ∉ D) (hL : L[id]? = some (.box T cs)) : FrV D L (.ptr id off) (.ptr id off) := by
  intro γ w v hI hv
  cases hv with
  | ptr _ _ b c T' cs' hL' hb => exact .ptr _ _ b c T' cs' (by rw [killS_out hD]; exact hL') (by simp [frzM, hb, hD])
theorem FrV.ref {D : List Nat} {L : List AObj} {id g n : Nat} {p : Pth} {T : TypeId} {sz : Nat} {es es' ys : List AV} {o : Bool} (hD : id ∈ D) (hL : L[id]? = some (.vec T sz g es)) (hs : sub es p = some es') (hy : ys.length = n)
    (hall : ∀ (i : Nat) e y, es'[i]? = some e → ys[i]? = some y → y.cells.length = e.cells.length ∧ ∀ (j : Nat) c d, e.cells[j]? = some c → y.cells[j]? = some d → FrV D L (viewC id (p ++ [(i, j)]) g c) d) :
    FrV D L (.ref id p g n) (.sl o ys) := by
  intro γ w v hI hv
  cases hv with
  | ref _ _ _ _ _ hok ho =>
    obtain ⟨_, _, _, es2, hL2, hs2, hn, hv⟩ := hok.form (by simp [eptrNow, hL])
    rw [hL] at hL2; cases hL2
    rw [hs] at hs2; cases hs2
    rcases hv with ⟨rfl, rfl, rfl, _⟩ | ⟨b, c, rfl, hb⟩
    · have : ys = [] := List.eq_nil_of_length_eq_zero hy
      subst this
      exact .sl _ _ _ 0 0 0 (fun _ _ => undef) rfl (Nat.le_refl _) (by simp) (by simp) (by simp) (by simp)
    · obtain ⟨arr, s, T', harr, _, hasz, hlc, _, hrow⟩ := hI.rowCell hL hs hb
      have hsome : ∀ {i : Nat} {y : AV}, ys[i]? = some y → ∃ e, es'[i]? = some e := by
        intro i y hiy
        have := (List.getElem?_eq_some_iff.1 hiy).1
        exact ⟨es'[i]'(by omega), List.getElem?_eq_getElem (by omega)⟩
      have hcell : ∀ (i : Nat) y (j : Nat) d, ys[i]? = some y → y.cells[j]? = some d → ∃ u, arr[i * s + j]? = some u ∧ u.oneCell' = true ∧ RV (frzM D γ w) (killS D L) d u := by
        intro i y j d hiy hjd
        obtain ⟨e, he⟩ := hsome hiy
        obtain ⟨hlen, hcd⟩ := hall i e y he hiy
        have hj : j < e.cells.length := by rw [← hlen]; exact (List.getElem?_eq_some_iff.1 hjd).1
        have hc : e.cells[j]? = some e.cells[j] := List.getElem?_eq_getElem hj
        obtain ⟨u, h1, h2, h3⟩ := hrow.2 i e j _ he hc
        exact ⟨u, h1, h2, hcd j _ d hc hjd γ w u hI (RV.viewC hL hs he hc h2 h3)⟩
      refine .sl _ _ _ _ _ s (fun i j => arr.getD (i * s + j) undef) hy.symm (by omega) ?_ ?_ ?_ ?_
      · intro y hy'
        obtain ⟨i, hi, rfl⟩ := List.getElem_of_mem hy'
        have hiy : ys[i]? = some ys[i] := List.getElem?_eq_getElem hi
        obtain ⟨e, he⟩ := hsome hiy
        rw [(hall i e _ he hiy).1]
        exact hrow.1 e (List.mem_of_getElem? he)
      · intro i y j d hiy hjd
        obtain ⟨u, h1, _, _⟩ := hcell i y j d hiy hjd
        have hf : frzM D γ w b = .ro (.cells arr T' (0, 0)) := by simp [frzM, hb, harr, hD]
        simp only [roCell, hf, Nat.zero_add, h1]
        simp [Array.getD_eq_getD_getElem?, h1]
      · intro i y j d hiy hjd
        obtain ⟨u, h1, h2, _⟩ := hcell i y j d hiy hjd
        simpa [Array.getD_eq_getD_getElem?, h1] using h2
      · intro i y j d hiy hjd
        obtain ⟨u, h1, _, h3⟩ := hcell i y j d hiy hjd
        simpa [Array.getD_eq_getD_getElem?, h1] using h3


theorem AWp.freeze {P : Program} {c : Code} {Q : Exit → St → Prop} {s : St} (D : List Nat) {t' : List AV} (hlen : t'.length = s.t.length)
    (hT : ∀ (i : Nat) y, t'[i]? = some y → y = .junk ∨ ∃ x, s.t[i]? = some x ∧ FrV D s.L x y) (hv : ∀ id ∈ D, ∃ T sz g es, s.L[id]? = some (.vec T sz g es))
    (hL : ∀ id, id ∉ D → ∀ o, s.L[id]? = some o → o = .dead ∨ ∃ T cs, o = .box T cs ∧ ∀ x ∈ cs, Pur x) (h : AWp P c Q ⟨t', killS D s.L⟩) : AWp P c Q s := by
  intro ro γ a w hp hr
  have hI := hr.inv
  have h3 : ∀ {b id p c}, frzM D γ w b = .ow id p c → γ b = .ow id p c ∧ id ∉ D := by
    intro b id p c hb
    unfold frzM at hb
    split at hb
    · rename_i id' p' c' he
      split at hb
      · split at hb <;> cases hb
      · rename_i hd; cases hb; exact ⟨he, hd⟩
    · rename_i hne; exact absurd hb (hne _ _ _)
  have hk : ∀ {b id p c}, γ b = .ow id p c → id ∉ D → frzM D γ w b = .ow id p c := fun hb hd => by simp [frzM, hb, hd]
  have hI' : Inv (frzM D γ w) (killS D s.L) w := by
    refine ⟨fun b o hb => ?_, fun b id p c hb => ?_, fun b b' id p c c' hb hb' => hI.inj _ _ _ _ _ _ (h3 hb).1 (h3 hb').1, fun id T cs hq => ?_, fun id kt vt es hq => ?_⟩
    · unfold frzM at hb
      split at hb
      · split at hb
        · split at hb
          · rename_i o' ho'; cases hb; exact ho'
          · cases hb
        · cases hb
      · exact hI.ro b o hb
    · obtain ⟨hb0, hd⟩ := h3 hb
      obtain ⟨o, ho, hrep⟩ := hI.ow _ _ _ _ hb0
      refine ⟨o, ho, ?_⟩
      unfold BlockRep at hrep ⊢
      rw [killS_out hd]
      cases hq : s.L[id]? with
      | none => rw [hq] at hrep; exact hrep.elim
      | some ob =>
        rw [hq] at hrep
        rcases hL id hd ob hq with rfl | ⟨T, cs, rfl, hp⟩
        · exact hrep.elim
        · obtain ⟨q1, arr, q2, q3, q4⟩ := hrep
          refine ⟨q1, arr, q2, q3, fun j x hx => ?_⟩
          obtain ⟨v, v1, v2, v3⟩ := q4 j x hx
          exact ⟨v, v1, v2, hp x (List.mem_of_getElem? hx) _ _ _ _ _ frzM_ro v3⟩
    · by_cases hd : id ∈ D
      · obtain ⟨_, _, _, _, hz⟩ := hv id hd
        rw [killS_in hd hz] at hq; cases hq
      · rw [killS_out hd] at hq
        obtain ⟨b, c, hb⟩ := hI.box _ _ _ hq
        exact ⟨b, c, hk hb hd⟩
    · by_cases hd : id ∈ D
      · obtain ⟨_, _, _, _, hz⟩ := hv id hd
        rw [killS_in hd hz] at hq; cases hq
      · rw [killS_out hd] at hq
        obtain ⟨b, c, hb⟩ := hI.map _ _ _ _ hq
        exact ⟨b, c, hk hb hd⟩
  have hE : Ext γ s.L (frzM D γ w) (killS D s.L) := by
    refine ⟨frzM_ro, fun id o hq => ?_, fun b id p c hb => ?_, fun id T1 sz1 g1 es1 T' sz' es' hq hq' p e1 _ b c hb => (h3 hb).1⟩
    · by_cases hd : id ∈ D
      · obtain ⟨_, _, _, _, hz⟩ := hv id hd
        rw [hz] at hq; cases hq
        exact ⟨_, killS_in hd hz, trivial⟩
      · exact ⟨o, by rw [killS_out hd]; exact hq, OStep.refl o⟩
    · by_cases hd : id ∈ D
      · refine .inr fun o hq => ?_
        obtain ⟨_, _, _, _, hz⟩ := hv id hd
        rw [hz] at hq; cases hq
        exact ⟨_, _, _, _, rfl, fun T' sz' es' hq' => by rw [killS_in hd hz] at hq'; cases hq'⟩
      · exact .inl (hk hb hd)
  have hS : Stp γ w (frzM D γ w) w := ⟨rfl, rfl, rfl, Nat.le_refl _, frzM_ro, fun b _ hb => ⟨by simp [frzM, hb], rfl⟩⟩
  have hR : Rel (frzM D γ w) ⟨t', killS D s.L⟩ a w := ⟨hr.defers.mono frzM_ro, by rw [hr.size]; exact hlen.symm, fun i y hy => by
    rcases hT i y hy with rfl | ⟨x, hx, hxy⟩
    · exact .junk _
    · exact hxy γ w _ hI (hr.tmps i x hx), hI'⟩
  refine wpIn_mono (h ro _ a w hp hR) ?_
  rintro e a' w' ⟨γ2, s2, k1, k2, k3, k4⟩
  exact ⟨γ2, s2, k1, hE.trans k2, hS.trans k3, k4⟩

end Go.Proofs.Ytphmkhaboghagaa.K
/-
  A logic of values for Go's functions (part 28): a loop over a function whose rounds all go on.
-/
namespace Go.Proofs.Ytphmkhaboghagaa.K
set_option linter.unusedVariables false
set_option linter.unusedSimpArgs false
open Go Go.RowKit

mutual
/-- Values that hold no yield. -/
def noY : AV → Bool
  | .sl _ es => noYL es
  | .agg cs => noYL cs
  | .tup cs => noYL cs
  | .fn _ cs => noYL cs
  | .rptr c _ => noY c
  | .yld _ _ _ => false
  | _ => true
def noYL : List AV → Bool
  | [] => true
  | x :: xs => noY x && noYL xs
end
theorem noYL_mem {xs : List AV} : noYL xs = true ↔ ∀ x ∈ xs, noY x = true := by
  induction xs with
  | nil => simp [noYL]
  | cons x xs ih => simp [noYL, ih]
theorem noY_cells {x c : AV} (h : noY x = true) (hc : c ∈ x.cells) : noY c = true := by
  cases x <;> first
    | (simp only [AV.cells, List.mem_singleton] at hc; subst hc; exact h)
    | (simp only [AV.cells] at hc; simp only [noY] at h; exact noYL_mem.1 h c hc)
mutual
theorem noY_of : ∀ {x : AV}, pureB x = true → noY x = true
  | .int _ _, _ => rfl
  | .bool _, _ => rfl
  | .str _, _ => rfl
  | .lit _, _ => rfl
  | .junk, _ => rfl
  | .sl _ es, h => by simp only [pureB] at h; simp only [noY]; exact noYL_of h
  | .agg es, h => by simp only [pureB] at h; simp only [noY]; exact noYL_of h
  | .tup es, h => by simp only [pureB] at h; simp only [noY]; exact noYL_of h
  | .fn _ es, h => by simp only [pureB] at h; simp only [noY]; exact noYL_of h
  | .rptr c _, h => by simp only [pureB] at h; simp only [noY]; exact noY_of h
  | .ref .., _ => rfl
  | .ptr .., _ => rfl
  | .eptr .., _ => rfl
  | .map _, _ => rfl
  | .yld .., h => by simp [pureB] at h
theorem noYL_of : ∀ {xs : List AV}, pureL xs = true → noYL xs = true
  | [], _ => rfl
  | x :: xs, h => by
    simp only [pureL, Bool.and_eq_true] at h
    simp only [noYL, noY_of h.1, noYL_of h.2, Bool.and_self]
end
def noYO : AObj → Bool
  | .box _ cs => noYL cs
  | .vec _ _ _ es => noYL es
  | _ => true

theorem noYL_sub : ∀ (p : Pth) (es es' : List AV), noYL es = true → sub es p = some es' → noYL es' = true
  | [], es, es', h, hs => by simp [sub] at hs; subst hs; exact h
  | (i, j) :: p, es, es', h, hs => by
    simp only [sub] at hs
    cases he : es[i]? with
    | none => simp only [he] at hs; cases hs
    | some e =>
      simp only [he] at hs
      cases hc : e.cells[j]? with
      | none => simp only [hc] at hs; cases hs
      | some x =>
        simp only [hc] at hs
        have hx := noY_cells (noYL_mem.1 h e (List.mem_of_getElem? he)) (List.mem_of_getElem? hc)
        cases x with
        | sl own es2 =>
          cases own with
          | true => exact noYL_sub p es2 es' (by simpa [noY] using hx) hs
          | false => cases hs
        | _ => cases hs

/-- Two tellings of memory that agree but for a loop's record. -/
structure AgrY (γ γ' : Nat → Gh) : Prop where
  ro : ∀ b o, γ b = .ro o → (∀ r, o ≠ .loop r) → γ' b = .ro o
  ow : ∀ b id p c, γ' b = .ow id p c ↔ γ b = .ow id p c

theorem AgrY.roCell {γ γ' : Nat → Gh} (h : AgrY γ γ') {A : Option Addr} {k : Nat} {v : Value} (hr : roCell γ A k = some v) : K.roCell γ' A k = some v := by
  unfold K.roCell at *
  split at hr
  · rename_i b o
    split at hr
    · rename_i arr T fr hb
      simp only [h.ro _ _ hb (fun d e => by cases e)]
      exact hr
    · cases hr
  · cases hr

theorem AgrY.refOk {γ γ' : Nat → Gh} (A : AgrY γ γ') {L : List AObj} {id : Nat} {p : Pth} {g n : Nat} {v : Value} (h : RefOk γ L id p g n v) : RefOk γ' L id p g n v := by
  unfold RefOk at *
  split at h
  · obtain ⟨h1, h2⟩ := h
    refine ⟨h1, fun e => ?_⟩
    obtain ⟨es', he, hn, hv⟩ := h2 e
    refine ⟨es', he, hn, ?_⟩
    rcases hv with ⟨h1, h2, h3⟩ | ⟨b, c, h1, h2⟩
    · exact .inl ⟨h1, h2, fun b c hb => h3 b c ((A.ow _ _ _ _).1 hb)⟩
    · exact .inr ⟨b, c, h1, (A.ow _ _ _ _).2 h2⟩
  · exact h
  · exact h

theorem AgrY.eptrOk {γ γ' : Nat → Gh} (A : AgrY γ γ') {L : List AObj} {id : Nat} {p : Pth} {g i off : Nat} {v : Value} (h : EptrOk γ L id p g i off v) : EptrOk γ' L id p g i off v := by
  unfold EptrOk at *
  split at h
  · obtain ⟨h1, h2⟩ := h
    refine ⟨h1, fun e => ?_⟩
    obtain ⟨es', e1, b, c, sz, h3, h4, h5, h6, h7, h8⟩ := h2 e
    exact ⟨es', e1, b, c, sz, h3, h4, h5, h6, h7, (A.ow _ _ _ _).2 h8⟩
  · exact h
  · exact h

theorem RV.agrY {γ γ' : Nat → Gh} (A : AgrY γ γ') {L : List AObj} {x : AV} {v : Value} (h : RV γ L x v) : noY x = true → RV γ' L x v := by
  induction h with
  | int k n => intro _; exact .int k n
  | bool b => intro _; exact .bool b
  | str s => intro _; exact .str s
  | lit v h => intro _; exact .lit v h
  | sl own es A' n c sz vals hn hc hsz h2 h1 h3 ih =>
    intro hy
    simp only [noY] at hy
    exact .sl own es A' n c sz vals hn hc hsz (fun i e j x a b => A.roCell (h2 i e j x a b)) h1 fun i e j x a b => ih i e j x a b (noY_cells (noYL_mem.1 hy e (List.mem_of_getElem? a)) (List.mem_of_getElem? b))
  | agg cs vs hn h1 h ih => intro hy; simp only [noY] at hy; exact .agg cs vs hn h1 fun i x hx => ih i x hx (noYL_mem.1 hy x (List.mem_of_getElem? hx))
  | tup cs vs hn h ih => intro hy; simp only [noY] at hy; exact .tup cs vs hn fun i x hx => ih i x hx (noYL_mem.1 hy x (List.mem_of_getElem? hx))
  | ref id p g n v h h1 => intro _; exact .ref id p g n v (A.refOk h) h1
  | ptr id off b c T cs hL h => intro _; exact .ptr id off b c T cs hL ((A.ow _ _ _ _).2 h)
  | eptr id p g i off v h h1 => intro _; exact .eptr id p g i off v (A.eptrOk h) h1
  | rptr x off b o vals h2 h1 h3 ih => intro hy; simp only [noY] at hy; exact .rptr x off b o vals (fun j y a => A.roCell (h2 j y a)) h1 fun j y a => ih j y a (noY_cells hy (List.mem_of_getElem? a))
  | fn f cs vs hn h ih => intro hy; simp only [noY] at hy; exact .fn f cs vs hn fun i x hx => ih i x hx (noYL_mem.1 hy x (List.mem_of_getElem? hx))
  | map id b c kt vt es hL h => intro _; exact .map id b c kt vt es hL ((A.ow _ _ _ _).2 h)
  | yld l r ts h hts ih => intro hy; simp [noY] at hy
  | junk v => intro _; exact .junk v

theorem BlockRep.agrY {γ γ' : Nat → Gh} (A : AgrY γ γ') {L : List AObj} {o : Obj} {id : Nat} {p : Pth} {c : Nat} (hy : L.all noYO = true) (h : BlockRep γ L o id p c) : BlockRep γ' L o id p c := by
  unfold BlockRep at *
  split at h
  · rename_i T cs hL
    have hy := List.all_eq_true.1 hy _ (List.mem_of_getElem? hL)
    obtain ⟨h1, arr, h2, h3, h4⟩ := h
    refine ⟨h1, arr, h2, h3, fun j x hx => ?_⟩
    obtain ⟨v, a, b, c⟩ := h4 j x hx
    exact ⟨v, a, b, c.agrY A (noYL_mem.1 hy x (List.mem_of_getElem? hx))⟩
  · rename_i T sz g es hL
    have hy := List.all_eq_true.1 hy _ (List.mem_of_getElem? hL)
    obtain ⟨es', s, arr, T', h1, h2, h3, h4, h5, h6, h7⟩ := h
    have hy' := noYL_sub _ _ _ hy h1
    refine ⟨es', s, arr, T', h1, h2, h3, h4, h5, h6, h7.1, fun i e j x hi hj => ?_⟩
    obtain ⟨v, a, b, c⟩ := h7.2 i e j x hi hj
    refine ⟨v, a, b, ?_⟩
    have hx : noY x = true := noY_cells (noYL_mem.1 hy' e (List.mem_of_getElem? hi)) (List.mem_of_getElem? hj)
    unfold CV at *
    split at c
    · rcases c with ⟨h1, h2, h3⟩ | ⟨b, c, h1, h2⟩
      · exact .inl ⟨h1, h2, fun b c hb => h3 b c ((A.ow _ _ _ _).1 hb)⟩
      · exact .inr ⟨b, c, h1, (A.ow _ _ _ _).2 h2⟩
    · exact c.agrY A hx
  · exact h
  · exact h

theorem newG_same (γ : Nat → Gh) (n : Nat) (g : Gh) : newG γ n g n = g := by simp [newG]
theorem newG_other {γ : Nat → Gh} {n b : Nat} {g : Gh} (h : b ≠ n) : newG γ n g b = γ b := by simp [newG, h]

theorem agrY_hush {γ : Nat → Gh} {l : Nat} {r : Loop} (h : γ l = .ro (.loop r)) : AgrY γ (newG γ l .out) := by
  refine ⟨fun b o hb hn => ?_, fun b id p c => ?_⟩
  · have hne : b ≠ l := fun e => by rw [e, h] at hb; cases hb; exact hn _ rfl
    rw [newG_other hne]; exact hb
  · by_cases hne : b = l
    · subst hne; rw [newG_same, h]; exact ⟨fun h => (by cases h), fun h => (by cases h)⟩
    · rw [newG_other hne]

theorem agr_wake {γ : Nat → Gh} {l : Nat} {r : Loop} (h : γ l = .out) : Agr γ (newG γ l (.ro (.loop r))) := by
  refine ⟨fun b o hb hn => ?_, fun b id p c => ?_⟩
  · have hne : b ≠ l := fun e => by rw [e, h] at hb; cases hb
    rw [newG_other hne]; exact hb
  · by_cases hne : b = l
    · subst hne; rw [newG_same, h]; exact ⟨fun h => (by cases h), fun h => (by cases h)⟩
    · rw [newG_other hne]

theorem BlockRep.noLoop {γ : Nat → Gh} {L : List AObj} {o : Obj} {id : Nat} {p : Pth} {c : Nat} (h : BlockRep γ L o id p c) : ∀ x, o ≠ .loop x := by
  intro x e
  subst e
  unfold BlockRep at h
  split at h
  · obtain ⟨_, _, h, _⟩ := h; cases h
  · obtain ⟨_, _, _, _, _, h, _⟩ := h; cases h
  · obtain ⟨_, _, _, h, _⟩ := h; cases h
  · exact h

/-- The record is not looked at any more; it may turn. -/
theorem Inv.hush {γ : Nat → Gh} {L : List AObj} {w w' : World} {l : Nat} {r : Loop} (h : Inv γ L w) (hl : γ l = .ro (.loop r)) (hy : L.all noYO = true) (hw : ∀ b : Nat, b ≠ l → w'.heap[b]? = w.heap[b]?) :
    Inv (newG γ l .out) L w' := by
  have A := agrY_hush hl
  have ne : ∀ {b id p c}, γ b = .ow id p c → b ≠ l := fun hb e => by rw [e, hl] at hb; cases hb
  refine ⟨fun b o hb => ?_, fun b id p c hb => ?_, fun b b' id p c c' h1 h2 => h.inj b b' id p c c' ((A.ow _ _ _ _).1 h1) ((A.ow _ _ _ _).1 h2), fun id T cs hL => ?_, fun id kt vt es hL => ?_⟩
  · have hne : b ≠ l := fun e => by rw [e, newG_same] at hb; cases hb
    rw [newG_other hne] at hb
    rw [hw b hne]; exact h.ro b o hb
  · have hb := (A.ow _ _ _ _).1 hb
    obtain ⟨o, ho, hr⟩ := h.ow b id p c hb
    exact ⟨o, by rw [hw b (ne hb)]; exact ho, hr.agrY A hy⟩
  · obtain ⟨b, c, hb⟩ := h.box id T cs hL; exact ⟨b, c, (A.ow _ _ _ _).2 hb⟩
  · obtain ⟨b, c, hb⟩ := h.map id kt vt es hL; exact ⟨b, c, (A.ow _ _ _ _).2 hb⟩

/-- The record is known again. -/
theorem Inv.wake {γ : Nat → Gh} {L : List AObj} {w w' : World} {l : Nat} {r : Loop} (h : Inv γ L w) (hl : γ l = .out) (hw : ∀ b : Nat, b ≠ l → w'.heap[b]? = w.heap[b]?) (hr : w'.heap[l]? = some (.loop r)) :
    Inv (newG γ l (.ro (.loop r))) L w' := by
  have A : Agr γ (newG γ l (.ro (.loop r))) := agr_wake hl
  have ne : ∀ {b id p c}, γ b = .ow id p c → b ≠ l := fun hb e => by rw [e, hl] at hb; cases hb
  refine ⟨fun b o hb => ?_, fun b id p c hb => ?_, fun b b' id p c c' h1 h2 => h.inj b b' id p c c' ((A.ow _ _ _ _).1 h1) ((A.ow _ _ _ _).1 h2), fun id T cs hL => ?_, fun id kt vt es hL => ?_⟩
  · by_cases hne : b = l
    · subst hne; rw [newG_same] at hb; cases hb; exact hr
    · rw [newG_other hne] at hb
      rw [hw b hne]; exact h.ro b o hb
  · have hb := (A.ow _ _ _ _).1 hb
    obtain ⟨o, ho, hr⟩ := h.ow b id p c hb
    exact ⟨o, by rw [hw b (ne hb)]; exact ho, hr.agr A⟩
  · obtain ⟨b, c, hb⟩ := h.box id T cs hL; exact ⟨b, c, (A.ow _ _ _ _).2 hb⟩
  · obtain ⟨b, c, hb⟩ := h.map id kt vt es hL; exact ⟨b, c, (A.ow _ _ _ _).2 hb⟩

/-- A block that is not known turns. -/
theorem Inv.idle {γ : Nat → Gh} {L : List AObj} {w w' : World} {l : Nat} (h : Inv γ L w) (hl : γ l = .out) (hw : ∀ b : Nat, b ≠ l → w'.heap[b]? = w.heap[b]?) : Inv γ L w' := by
  refine ⟨fun b o hb => ?_, fun b id p c hb => ?_, h.inj, h.box, h.map⟩
  · rw [hw b (fun e => by rw [e, hl] at hb; cases hb)]; exact h.ro b o hb
  · obtain ⟨o, ho, hr⟩ := h.ow b id p c hb
    exact ⟨o, by rw [hw b (fun e => by rw [e, hl] at hb; cases hb)]; exact ho, hr⟩

/-- The round's variables are laid into the record's. -/
def setP (ps : List Tmp) (xs : List AV) (s : St) : St := (ps.zip xs).foldl (fun s q => s.put (some q.1) q.2) s

theorem setP_L : ∀ (ps : List Tmp) (xs : List AV) (s : St), (setP ps xs s).L = s.L
  | [], _, _ => rfl
  | _ :: _, [], _ => rfl
  | p :: ps, x :: xs, s => by
    show (setP ps xs (s.put (some p) x)).L = s.L
    rw [setP_L ps xs]; rfl

theorem Rel.setP {γ : Nat → Gh} {w : World} : ∀ (ps : List Tmp) (xs : List AV) (vs : List Value) (s : St) (a : Act), xs.length = vs.length → (∀ (i : Nat) x, xs[i]? = some x → RV γ s.L x (vs.getD i undef)) → Rel γ s a w →
    Rel γ (setP ps xs s) { a with tmps := (ps.zip vs).foldl (fun t q => t.setIfInBounds q.1 q.2) a.tmps } w
  | [], xs, vs, s, a, hl, hv, hr => hr
  | p :: ps, [], [], s, a, hl, hv, hr => hr
  | p :: ps, [], v :: vs, s, a, hl, hv, hr => by simp at hl
  | p :: ps, x :: xs, [], s, a, hl, hv, hr => by simp at hl
  | p :: ps, x :: xs, v :: vs, s, a, hl, hv, hr => by
    have h1 := hr.put (some p) (hv 0 x rfl)
    exact Rel.setP ps xs vs (s.put (some p) x) (a.put (some p) v) (by simpa using hl) (fun i y hy => by rw [St.put_L]; exact hv (i + 1) y hy) h1

/-- What a call of yield does: a round of the loop whose record is 'r', which goes on. -/
def YC (P : Program) (l : Nat) (r : Loop) (ts : List AV) (args : List AV) (L L' : List AObj) : Prop :=
  args.length = r.params.size ∧ ∀ γ w vs, γ l = .ro (.loop r) → Inv γ L w → (∀ (i : Nat) x, ts[i]? = some x → RV γ L x (r.tmps.getD i undef)) → ArgsR γ L args vs → ∀ ro,
    RoundIn (FW ro) 0 P l r.fn ((r.params.zip vs).foldl (fun t (p, v) => t.setIfInBounds p v) r.tmps) r.assign r.body w fun e w' =>
      e = .returned (.bool true) ∧ ∃ γ', Inv γ' L' w' ∧ Ext γ L γ' L' ∧ Stp γ w γ' w'

theorem yield_sound {P : Program} {o : Oper} {s : St} {l : Nat} {r : Loop} {ts : List AV} {args : Array Operand} {ats : Array TypeId} {x : Operand} {L' : List AObj}
    (ho : o.op = .call { callee := .value x, args := args, argTypes := ats }) (hx : s.ev x = .yld l r ts)
    (h : YC P l r ts (args.toList.map s.ev) s.L L') : OpS P o s ({ s with L := L' }.put o.dst (.bool true)) := by
  intro γ a w K Q hr hK
  have hxv := hr.ev x
  rw [hx] at hxv
  generalize hxe : a.eval x = v at hxv
  cases hxv with
  | yld _ _ _ hl hts =>
    have hh := hr.inv.ro _ _ hl
    have hsz : (args.map a.eval).size = r.params.size := by rw [← h.1]; simp
    have hrun : (execOp a.eval o).run P w = .ok (.round l r.fn ((r.params.zip (args.map a.eval)).foldl (fun t (p, v) => t.setIfInBounds p v) r.tmps) r.assign r.body) w := by
      unfold execOp
      rw [ho]
      have := run_yield (P := P) hh hsz
      simp [resolve, hxe, Deferred.ofValue, invoke, this]
    refine .inr ⟨_, _, _, _, _, _, hrun, fun ro => RoundIn.mono (h.2 γ w _ hl hr.inv hts ⟨by simp, fun i y hy => ?_⟩ ro) ?_⟩
    · simp only [List.getElem?_map, Option.map_eq_some_iff] at hy
      obtain ⟨z, hz, rfl⟩ := hy
      have hlt := (List.getElem?_eq_some_iff.1 hz).1
      simp at hlt
      have hz' : args[i] = z := by simpa [hlt] using hz
      simp [Array.getD, hlt, hz']
      exact hr.ev z
    · rintro e w' ⟨rfl, γ', hI, hE, hS⟩
      exact ⟨_, rfl, hK γ' _ w' ((hr.mono hE hI).put o.dst (.bool true)) (by rw [St.put_L]; exact hE) hS⟩

theorem RunL.cally {P : Program} {k : Oper → Knd} {ops : Array Oper} {K : St → Prop} {o : Oper} {rest : List Oper} {s : St} {x : Operand} {l : Nat} {r : Loop} {ts : List AV} {args : Array Operand} {ats : Array TypeId} {L' : List AObj}
    (hg : guardA ops s o = some true) (ho : o.op = .call { callee := .value x, args := args, argTypes := ats }) (hc : s.ev x = .yld l r ts) (hkd : Knd.le .C (k o) = true) (hal : isAlloc k o = false ∨ ∃ X, L' = s.L ++ X)
    (h : YC P l r ts (args.toList.map s.ev) s.L L') (hk : R P k ops rest ({ s with L := L' }.put o.dst (.bool true)) K) : RunL P k ops (o :: rest) s K := by
  refine .op ⟨.C, .bool true, L'⟩ hkd ⟨⟨fun h _ => hal.resolve_left (by rw [h]; exact fun e => (nomatch e)), fun h => (nomatch h)⟩, fun s1 ha hL => ⟨by rw [agree_guard ha]; exact hg, ?_⟩⟩ (R.sound hk)
  have he : args.toList.map s1.ev = args.toList.map s.ev :=
    map_congr_ev fun y hy => agree_ev ha (by rw [ho]; simp [Op.operands, Call.operands]; exact .inr (by simpa using hy))
  have hx1 : s1.ev x = .yld l r ts := by rw [agree_ev ha (by rw [ho]; simp [Op.operands, Call.operands])]; exact hc
  have hL : s1.L = s.L := hL
  exact yield_sound (P := P) (s := s1) ho hx1 (by rw [he, hL]; exact h)

/-- **A loop over a function, whose rounds all go on**: 'Ls k' is what the call owns when k rounds are over, 'xs k' what the k-th round is handed. -/
theorem AWp.range {P : Program} {g : Operand} {params : Array Tmp} {assign body : Code} {Q : Exit → St → Prop} {s : St} {F : FuncId} {cap : List AV} {z : AV} (hg : s.ev g = .fn F cap) (hF : okFn P F = true)
    (hpl : plainC assign = true ∧ plainC body = true) (n : Nat) (Ls : Nat → List AObj) (xs : Nat → List AV) (h0 : s.L = Ls 0) (hlen : ∀ k, k < n → (xs k).length = params.size)
    (hny : ∀ k, k ≤ n → (Ls k).all noYO = true) (hnt : noYL s.t = true) (hnx : ∀ k, k < n → noYL (xs k) = true)
    (hit : ∀ l r ts, (∀ k, k < n → YC P l r ts (xs k) (Ls k) (Ls (k + 1))) → Ct P F (.yld l r ts :: cap) (Ls 0) z (Ls n))
    (hround : ∀ k, k < n → AWp P assign (ExThen (AWp P body fun e s' => e = .normal ∧ s'.L = Ls (k + 1)) fun _ _ => False) (setP params.toList (xs k) ⟨s.t, Ls k⟩))
    (hQ : Q .normal ⟨s.t, Ls n⟩) : AWp P (.rangeFunc g params assign body) Q s := by
  intro ro γ a w hp hr
  have hro : ro = none := hp.resolve_right (by simp [plainC])
  subst hro
  refine wpIn_rangeFunc ?_
  intro fn _
  have hgv := hr.ev g
  rw [hg] at hgv
  generalize hge : a.eval g = gv at hgv
  cases hgv with
  | fn _ _ vcap hnc hcap =>
  obtain ⟨rec, hrec⟩ : ∃ rec : Loop, rec = { state := .ready, pending := none, fn, tmps := a.tmps, params, assign, body, defers := w.heap.size } := ⟨_, rfl⟩
  have hD : γ w.heap.size = .out := hr.inv.out (Nat.le_refl _)
  obtain ⟨E1, I1, S1⟩ := hr.inv.allocRo (.deferred (some []))
  generalize hγ1 : newG γ w.heap.size (.ro (.deferred (some []))) = γ1 at E1 I1 S1
  obtain ⟨E2, I2, S2⟩ := I1.allocRo (.loop rec)
  have hsz1 : (w.alloc (.deferred (some []))).heap.size = w.heap.size + 1 := by rw [World.size_alloc]
  rw [hsz1] at E2 I2 S2
  generalize hγ2 : newG γ1 (w.heap.size + 1) (.ro (.loop rec)) = γ2 at E2 I2 S2
  have hl2 : γ2 (w.heap.size + 1) = .ro (.loop rec) := by rw [← hγ2, newG_same]
  have hD2 : γ2 w.heap.size = .ro (.deferred (some [])) := by rw [← hγ2, newG_other (by omega), ← hγ1, newG_same]
  have E := E1.trans E2
  have S := S1.trans S2
  have hts : ∀ (i : Nat) x, s.t[i]? = some x → RV γ2 s.L x (rec.tmps.getD i undef) := fun i x hx => by rw [hrec]; exact (hr.tmps i x hx).mono E
  obtain ⟨W2, hW2⟩ : ∃ W2, W2 = (w.alloc (.deferred (some []))).alloc (.loop rec) := ⟨_, rfl⟩
  rw [← hW2] at I2 S2 S
  have hent : (Instr.enterLoop fn a.tmps params assign body none).run P w = .ok (w.heap.size + 1, [{ target := .collected w.heap.size, args := #[] }]) W2 := by
    rw [hW2, hrec]; exact run_enterLoop_outer _ _ _ _ _
  refine ⟨w.heap.size + 1, [{ target := .collected w.heap.size, args := #[] }], W2, { target := .fn (.func F) vcap, args := #[.func (.yield (w.heap.size + 1)) #[] #[]] }, W2, F,
    #[.func (.yield (w.heap.size + 1)) #[] #[]] ++ vcap, W2, hent, ?_, fun _ _ => trivial, ?_, fun h => (by simp [FW] at h), ?_⟩
  · simp [resolve, hge, Deferred.ofValue]
    rfl
  · simp [invoke, run_callFunc hF]
  have hyc : ∀ k, k < n → YC P (w.heap.size + 1) rec s.t (xs k) (Ls k) (Ls (k + 1)) := by
    intro k hk
    refine ⟨by rw [hrec]; exact hlen k hk, fun γ w' vs hl hI ht ha ro => ?_⟩
    generalize hln : w.heap.size + 1 = l at *
    have hh := hI.ro _ _ hl
    have hlt : l < w'.heap.size := (Array.getElem?_eq_some_iff.1 hh).1
    have A := agrY_hush hl
    have hyk := hny k (by omega)
    have hyk1 := hny (k + 1) (by omega)
    have hIb : Inv (newG γ l .out) (Ls k) w' := hI.hush hl hyk fun b _ => rfl
    have hr0 : Rel (newG γ l .out) ⟨s.t, Ls k⟩ { tmps := rec.tmps, defers := [] } w' := ⟨.nil, by rw [hrec]; exact hr.size, fun i x hx => (ht i x hx).agrY A (noYL_mem.1 hnt x (List.mem_of_getElem? hx)), hIb⟩
    have hr1 := Rel.setP params.toList (xs k) vs.toList _ _ (by simp [ha.1]) (fun i x hx => by
      have := ha.2 i x hx
      have e : vs.toList.getD i undef = vs.getD i undef := by simp [List.getD_eq_getElem?_getD, Array.getD_eq_getD_getElem?]
      rw [e]
      exact this.agrY A (noYL_mem.1 (hnx k hk) x (List.mem_of_getElem? hx))) hr0
    have hfold : (rec.params.zip vs).foldl (fun t (p, v) => t.setIfInBounds p v) rec.tmps = (params.toList.zip vs.toList).foldl (fun t q => t.setIfInBounds q.1 q.2) rec.tmps := by
      rw [← Array.foldl_toList, Array.toList_zip, hrec]
    rw [hfold]
    have hfn : rec.fn = fn := by rw [hrec]
    have ha1 : rec.assign = assign := by rw [hrec]
    have hb1 : rec.body = body := by rw [hrec]
    rw [ha1, hb1]
    refine roundIn_of_wpIn trivial ?_
    refine wpIn_mono (hround k hk (some l) _ _ w' (.inr hpl.1) hr1) ?_
    rintro e a1 w1 ⟨γ1', s1, r1, e1, st1, q1⟩
    have hLs : (setP params.toList (xs k) ⟨s.t, Ls k⟩).L = Ls k := setP_L _ _ _
    rw [hLs] at e1
    cases e with
    | normal =>
      have hl1 := st1.out l hlt (newG_same _ _ _)
      have hh1 : w1.heap[l]? = some (.loop rec) := hl1.2.trans hh
      have hlt1 : l < w1.heap.size := (Array.getElem?_eq_some_iff.1 hh1).1
      refine ⟨_, run_beginRound hh1 (by rw [hrec]), ?_⟩
      have hw2 : ∀ (o : Obj) (w : World) (b : Nat), b ≠ l → (w.putObj l o).heap[b]? = w.heap[b]? := fun o w b hb => World.putObj_heap_other hb
      have r2 : Rel γ1' s1 a1 (w1.putObj l (.loop { rec with state := .busy })) := ⟨r1.defers, r1.size, r1.tmps, r1.inv.idle hl1.1 (hw2 _ _)⟩
      refine wpIn_mono (q1 (some l) γ1' a1 _ (.inr hpl.2) r2) ?_
      rintro e3 a3 w3 ⟨γ3, s3, r3, e3', st3, rfl, hL3⟩
      have hl3 := st3.out l (by rw [World.putObj_size]; exact hlt1) hl1.1
      have hh3 : w3.heap[l]? = some (.loop { rec with state := .busy }) := hl3.2.trans (World.putObj_heap_same hlt1)
      have hend := run_endRound (P := P) (none : Option Code) hh3
      refine ⟨_, _, hend, rfl, newG γ3 l (.ro (.loop rec)), ?_, ?_, ?_⟩
      · have hI3 := r3.inv
        rw [hL3] at hI3
        refine hI3.wake hl3.1 (hw2 _ _) ?_
        rw [World.putObj_heap_same (Array.getElem?_eq_some_iff.1 hh3).1, hrec]; rfl
      · have e13 := e1.trans e3'
        rw [hL3] at e13
        have A3 : Agr γ3 (newG γ3 l (.ro (.loop rec))) := agr_wake hl3.1
        refine ⟨fun b o hb => ?_, e13.ob, fun b id p c hb => ?_, fun id T sz g es T' sz' es' hL hL' p e4 he b c hb => (A.ow _ _ _ _).1 (e13.nil id T sz g es T' sz' es' hL hL' p e4 he b c ((A3.ow _ _ _ _).1 hb))⟩
        · by_cases hbl : b = l
          · subst hbl; rw [hl] at hb; cases hb; exact newG_same _ _ _
          · rw [newG_other hbl]; exact e13.ro b o (by rw [newG_other hbl]; exact hb)
        · exact (e13.lab b id p c ((A.ow _ _ _ _).2 hb)).imp (fun k => (A3.ow _ _ _ _).2 k) (fun k => k)
      · refine ⟨st3.os.trans st1.os, st3.tape.trans st1.tape, st3.output.trans st1.output, ?_, fun b o hb => ?_, fun b hb ho => ?_⟩
        · have h1 := st1.size
          have h2 := st3.size
          rw [World.putObj_size] at h2
          rw [World.putObj_size]; omega
        · by_cases hbl : b = l
          · subst hbl; rw [hl] at hb; cases hb; exact newG_same _ _ _
          · rw [newG_other hbl]; exact e3'.ro b o (e1.ro b o (by rw [newG_other hbl]; exact hb))
        · have hbl : b ≠ l := fun e => by rw [e, hl] at ho; cases ho
          obtain ⟨k1, k2⟩ := st1.out b hb (by rw [newG_other hbl]; exact ho)
          obtain ⟨k3, k4⟩ := st3.out b (by rw [World.putObj_size]; have := st1.size; omega) k1
          refine ⟨by rw [newG_other hbl]; exact k3, ?_⟩
          rw [hw2 _ _ b hbl, k4, hw2 _ _ b hbl, k2]
    | ret => exact q1.elim
    | exit id => exact q1.elim
    | goto id => exact q1.elim
    | panic c => exact q1.elim
    | outgrown => exact q1.elim
  have hct := hit (w.heap.size + 1) rec s.t hyc
  rw [h0] at I2 E2 E hts
  have hargs : ArgsR γ2 (Ls 0) (.yld (w.heap.size + 1) rec s.t :: cap) (#[.func (.yield (w.heap.size + 1)) #[] #[]] ++ vcap) := by
    refine ⟨by simp [hnc]; omega, fun i x hx => ?_⟩
    cases i with
    | zero =>
      simp only [List.getElem?_cons_zero, Option.some.injEq] at hx
      subst hx
      have : (#[Value.func (.yield (w.heap.size + 1)) #[] #[]] ++ vcap).getD 0 undef = .func (.yield (w.heap.size + 1)) #[] #[] := by simp [Array.getD_eq_getD_getElem?, Array.getElem?_append]
      rw [this]
      exact .yld _ _ _ hl2 hts
    | succ i =>
      simp only [List.getElem?_cons_succ] at hx
      have hv := hcap i x hx
      have : (#[Value.func (.yield (w.heap.size + 1)) #[] #[]] ++ vcap).getD (i + 1) undef = vcap.getD i undef := by
        simp [Array.getD_eq_getD_getElem?, Array.getElem?_append]
      rw [this]
      rw [h0] at hv
      exact hv.mono E
  refine (callsIn_FW (hct γ2 _ _ I2 hargs)).mono ?_
  rintro e w3 ⟨γ3, v, rfl, I3, _, E3, S3⟩
  have hl3 : γ3 (w.heap.size + 1) = .ro (.loop rec) := E3.ro _ _ hl2
  have hD3 : γ3 w.heap.size = .ro (.deferred (some [])) := E3.ro _ _ hD2
  have hh3 := I3.ro _ _ hl3
  have hend := run_endLoop (P := P) hh3 (by rw [hrec]; simp)
  have hpe : rec.pending = none := by rw [hrec]
  rw [hpe] at hend
  refine ⟨none, _, hend, newG γ3 (w.heap.size + 1) .out, ⟨s.t, Ls n⟩, ?_, ?_, ?_, hQ⟩
  · have E4 := E.trans E3
    have A := agrY_hush hl3
    refine ⟨?_, hr.size, fun i x hx => ?_, I3.hush hl3 (hny n (Nat.le_refl _)) fun b hb => World.putObj_heap_other hb⟩
    · obtain ⟨rs, h1, h2, h3⟩ := hr.defers
      have hlt : ∀ r ∈ rs, r < w.heap.size := fun r hm => (Array.getElem?_eq_some_iff.1 (hr.inv.ro _ _ (h3 r hm))).1
      refine ⟨w.heap.size :: rs, List.nodup_cons.2 ⟨fun hm => by have := hlt _ hm; omega, h1⟩, by rw [List.map_cons, ← h2]; rfl, fun r hm => ?_⟩
      rcases List.mem_cons.1 hm with rfl | hm
      · rw [newG_other (by omega)]; exact hD3
      · have := hlt r hm
        rw [newG_other (by omega)]; exact E4.ro _ _ (h3 r hm)
    · have hv := hr.tmps i x hx
      rw [h0] at hv
      exact (hv.mono E4).agrY A (noYL_mem.1 hnt x (List.mem_of_getElem? hx))
  · have E4 := E.trans E3
    have A := agrY_hush hl3
    refine ⟨fun b o hb => ?_, by rw [h0]; exact E4.ob, fun b id p c hb => ?_, fun id T sz g es T' sz' es' hL hL' p e4 he b c hb => ?_⟩
    · have hlt := (Array.getElem?_eq_some_iff.1 (hr.inv.ro _ _ hb)).1
      rw [newG_other (by omega)]; exact E4.ro b o hb
    · rw [h0]; exact (E4.lab b id p c hb).imp (fun k => (A.ow _ _ _ _).2 k) (fun k => k)
    · rw [h0] at hL; exact E4.nil id T sz g es T' sz' es' hL hL' p e4 he b c ((A.ow _ _ _ _).1 hb)
  · have S4 := S.trans S3
    refine ⟨S4.os, S4.tape, S4.output, by rw [World.putObj_size]; exact S4.size, fun b o hb => ?_, fun b hb ho => ?_⟩
    · have hlt := (Array.getElem?_eq_some_iff.1 (hr.inv.ro _ _ hb)).1
      rw [newG_other (by omega)]; exact S4.ro b o hb
    · obtain ⟨k1, k2⟩ := S4.out b hb ho
      rw [newG_other (by omega)]
      exact ⟨k1, (World.putObj_heap_other (by omega)).trans k2⟩

end Go.Proofs.Ytphmkhaboghagaa.K
/-
  A logic of values for Go's functions (part 29): pointers compared; a pointer turned to unsafe.Pointer and back; the bytes of a row as a string.
-/
namespace Go.Proofs.Ytphmkhaboghagaa.K
set_option linter.unusedVariables false
set_option linter.unusedSimpArgs false
open Go Go.RowKit
set_option maxRecDepth 8000

/-- One operation, told where nothing that is owned has changed. -/
theorem RunL.opC {P : Program} {k : Oper → Knd} {ops : Array Oper} {K : St → Prop} {o : Oper} {rest : List Oper} {s : St} {x : AV} {L' : List AObj}
    (hg : guardA ops s o = some true) (hkd : Knd.le .C (k o) = true) (hal : isAlloc k o = false)
    (h : ∀ s1 : St, s1.L = s.L → (∀ y ∈ o.op.operands, s1.ev y = s.ev y) → OpS P o s1 ({ s1 with L := L' }.put o.dst x)) (hk : R P k ops rest ({ s with L := L' }.put o.dst x) K) : RunL P k ops (o :: rest) s K := by
  refine .op ⟨.C, x, L'⟩ hkd ⟨⟨fun h _ => absurd h (by rw [hal]; exact Bool.false_ne_true), fun h => (nomatch h)⟩, fun s1 ha hL => ⟨by rw [agree_guard ha]; exact hg, ?_⟩⟩ (R.sound hk)
  exact h s1 hL fun y hy => agree_ev ha hy

theorem ptr_eqGuard {P : Program} {T : TypeId} (w : World) (ox oy : Operand) (op : BinOp) (a b : Option Addr) (hop : op = .eql ∨ op = .neq) : (eqGuard op T ox oy (.pointer a) (.pointer b)).run P w = .ok () w := by
  unfold eqGuard
  rcases hop with rfl | rfl <;> simp
theorem run_eqNil {P : Program} {T e : TypeId} (w : World) (ht : P.underlying T = some (.pointer e)) (a : Option Addr) (ox oy : Operand) :
    (do eqGuard .eql T ox oy (.pointer a) (.pointer none); binOp .eql T (.pointer a) (.pointer none) : Sem Value).run P w = .ok (.bool a.isNone) w := by
  have h1 : (Op.equalIn (9999 + 1) T (.pointer a) (.pointer none)).run P w = .ok a.isNone w := by
    unfold Op.equalIn
    simp only [Sem.run_bind, run_underlying ht, Result.andThen_ok]
    cases a <;> simp
  have he : Op.equal T (.pointer a) (.pointer none) = Op.equalIn Op.maxDepth T (.pointer a) (.pointer none) := rfl
  have hd : Op.maxDepth = 9999 + 1 := rfl
  rw [hd] at he
  simp only [Sem.run_bind, ptr_eqGuard w ox oy .eql a none (.inl rfl), Result.andThen_ok, binOp]
  rw [he]
  generalize Op.equalIn (9999 + 1) T (.pointer a) (.pointer none) = m at *
  simp [h1]

theorem eqNil_sound {P : Program} {o : Oper} {s : St} {T T2 e : TypeId} {x : Operand} {b : Bool} (ho : o.op = .binOp .eql T x (.const (.pointer none)) T2) (ht : P.underlying T = some (.pointer e))
    (hx : (s.ev x = .lit (.pointer none) ∧ b = true) ∨ ((∃ id off, s.ev x = .ptr id off) ∧ b = false)) : OpS P o s ({ s with L := s.L }.put o.dst (.bool b)) := by
  refine OpS.pure fun γ a w hr => ⟨.bool b, ?_, .bool b⟩
  have hv := hr.ev x
  have hc : a.eval (.const (.pointer none)) = .pointer none := rfl
  have key : ∃ q : Option Addr, a.eval x = .pointer q ∧ q.isNone = b := by
    rcases hx with ⟨hx, rfl⟩ | ⟨⟨id, off, hx⟩, rfl⟩
    · rw [hx] at hv
      generalize a.eval x = u at hv
      cases hv
      exact ⟨none, rfl, rfl⟩
    · rw [hx] at hv
      generalize a.eval x = u at hv
      cases hv
      exact ⟨_, rfl, rfl⟩
  obtain ⟨q, hq, hb⟩ := key
  have := run_eqNil (P := P) w ht q x (.const (.pointer none))
  unfold execOp
  rw [ho]
  simp only [hq, hc]
  simp only [Sem.run_bind] at this ⊢
  rw [hb] at this
  simp [this]

theorem neqSame_sound {P : Program} {o : Oper} {s : St} {T T2 e : TypeId} {x y : Operand} {id off : Nat} (ho : o.op = .binOp .neq T x y T2) (ht : P.underlying T = some (.pointer e)) (hi : (P.info? e).isSome = true)
    (hx : s.ev x = .ptr id off) (hy : s.ev y = .ptr id off) : OpS P o s ({ s with L := s.L }.put o.dst (.bool false)) := by
  refine OpS.pure fun γ a w hr => ⟨.bool false, ?_, .bool false⟩
  obtain ⟨j, hj⟩ := Option.isSome_iff_exists.1 hi
  have hv := hr.ev x
  have hu := hr.ev y
  rw [hx] at hv
  rw [hy] at hu
  generalize hxe : a.eval x = v at hv
  generalize hye : a.eval y = u at hu
  cases hv with
  | ptr _ _ b c T1 cs hL hb =>
    cases hu with
    | ptr _ _ b2 c2 T2 cs2 hL2 hb2 =>
      have hbb := hr.inv.inj _ _ _ _ _ _ hb hb2
      subst hbb
      have h1 := Lib.run_neq_ptr_same w ⟨b, off, none⟩ ht hj
      have h2 := ptr_eqGuard (P := P) (T := T) w x y .neq (some ⟨b, off, none⟩) (some ⟨b, off, none⟩) (.inr rfl)
      unfold execOp
      rw [ho]
      simp only [hxe, hye, Sem.run_bind, h2, Result.andThen_ok, h1]
      rfl

theorem Inv.shape {γ : Nat → Gh} {L : List AObj} {w : World} (h : Inv γ L w) {id b c : Nat} {T : TypeId} {cs : List AV} (hL : L[id]? = some (.box T cs)) (hb : γ b = .ow id [] c) :
    w.shape? b = some (T, cs.length) := by
  obtain ⟨o, ho, hr⟩ := h.ow b id [] c hb
  unfold BlockRep at hr
  rw [hL] at hr
  obtain ⟨_, arr, rfl, hs, _⟩ := hr
  simp [World.shape?, ho, hs]

theorem toUnsafe_sound {P : Program} {o : Oper} {s : St} {src dst t : TypeId} {x : Operand} {id off : Nat} {T : TypeId} {cs : List AV} (ho : o.op = .convert src dst x) (hs : P.underlying src = some (.pointer t)) (hd : P.underlying dst = some .unsafePointer)
    (ht : (P.info? t).isSome = true) (h0 : P.cellsOf t ≠ 0) (hx : s.ev x = .ptr id off) (hL : s.L[id]? = some (.box T cs)) (hoff : off < cs.length) : OpS P o s ({ s with L := s.L }.put o.dst (.ptr id off)) := by
  refine OpS.pure fun γ a w hr => ?_
  obtain ⟨j, hj, hsz⟩ := info_of ht
  have hv := hr.ev x
  rw [hx] at hv
  generalize hxe : a.eval x = v at hv
  cases hv with
  | ptr _ _ b c T1 cs1 hL1 hb =>
    have hsh := hr.inv.shape hL hb
    have h1 := Lib.run_to_unsafe w ⟨b, off, none⟩ hs hd hj (by rw [← hsz]; exact h0) hsh hoff
    refine ⟨.pointer (some ⟨b, off, none⟩), ?_, .ptr id off b c T1 cs1 hL1 hb⟩
    unfold execOp
    rw [ho]
    simp only [hxe, Sem.run_bind, h1, Result.andThen_ok, Sem.run_pure]

theorem fromUnsafe_sound {P : Program} {o : Oper} {s : St} {src dst u : TypeId} {x : Operand} {id : Nat} {T : TypeId} {cs : List AV} (ho : o.op = .convert src dst x) (hs : P.underlying src = some .unsafePointer) (hd : P.underlying dst = some (.pointer u))
    (hu : (P.info? u).isSome = true) (hx : s.ev x = .ptr id 0) (hL : s.L[id]? = some (.box T cs)) (hlies : liesAt P P.depth T (cs.length / P.cellsOf T) 0 u 1 = true) : OpS P o s ({ s with L := s.L }.put o.dst (.ptr id 0)) := by
  refine OpS.pure fun γ a w hr => ?_
  obtain ⟨j, hj, hsz⟩ := info_of hu
  have hv := hr.ev x
  rw [hx] at hv
  generalize hxe : a.eval x = v at hv
  cases hv with
  | ptr _ _ b c T1 cs1 hL1 hb =>
    have hsh := hr.inv.shape hL hb
    have h1 := Lib.run_from_unsafe w ⟨b, 0, none⟩ hs hd hj hsh hlies
    refine ⟨.pointer (some ⟨b, 0, none⟩), ?_, .ptr id 0 b c T1 cs1 hL1 hb⟩
    unfold execOp
    rw [ho]
    simp only [hxe, Sem.run_bind, h1, Result.andThen_ok, Sem.run_pure]

/-- A call of a function without a body that hands its argument back. -/
theorem noEscape_sound {P : Program} {o : Oper} {s : St} {f : FuncId} {fn : Func} {x : Operand} {ats : Array TypeId} (ho : o.op = .call { callee := .value (.func f), args := #[x], argTypes := ats }) (hf : P.funcs[f]? = some fn)
    (hname : (fn.name == "runtime.NumGoroutine") = false) (hb : fn.body.isNone = true) (hn : Extern.findNext fn = none) (he : Extern.find fn = some Extern.AbiNoEscape.same) : OpS P o s ({ s with L := s.L }.put o.dst (s.ev x)) := by
  refine OpS.pure fun γ a w hr => ⟨a.eval x, ?_, hr.ev x⟩
  have h1 := run_callFunc_extern hf hname hb hn he #[a.eval x] w
  rw [Lib.run_noEscape] at h1
  have hm : (#[x] : Array Operand).map a.eval = #[a.eval x] := by simp
  have hf0 : a.eval (.func f) = .func (.func f) #[] #[] := rfl
  generalize a.eval x = v at *
  unfold execOp
  rw [ho]
  simp [resolve, hm, hf0, Deferred.ofValue, invoke, h1, Result.andThen]

/-- The address of a row's first element. -/
theorem sliceData_sound {P : Program} {o : Oper} {s : St} {x : Operand} {ats : Array TypeId} {id g n : Nat} {T : TypeId} {es : List AV} (ho : o.op = .call { callee := .builtin .unsafeSliceData, args := #[x], argTypes := ats })
    (hx : s.ev x = .ref id [] g n) (hL : s.L[id]? = some (.vec T 1 g es)) (hn : 0 < n) (hes : ∀ e ∈ es, e.cells.length = 1) : OpS P o s (s.put o.dst (.eptr id [] g 0 0)) := by
  refine OpS.pure fun γ a w hr => ?_
  have hv := hr.ev x
  rw [hx] at hv
  generalize hxe : a.eval x = v at hv
  cases hv with
  | ref _ _ _ _ _ hok ho1 =>
    rw [RefOk, hL] at hok
    obtain ⟨es2, hs2, hle, hv⟩ := hok.2 rfl
    simp [sub] at hs2
    subst hs2
    rcases hv with ⟨rfl, rfl, _⟩ | ⟨b, c, rfl, hb⟩
    · simp at hle; omega
    · obtain ⟨arr, sz, T', harr, _, hasz, hlc, _, hrow⟩ := hr.inv.rowCell (es' := es) hL (by simp [sub]) hb
      have h1 := Lib.run_unsafeSliceData_row (P := P) w ats o.type ⟨b, 0, none⟩ n c (by omega)
      refine ⟨.pointer (some ⟨b, 0, none⟩), ?_, .eptr _ _ _ _ _ _ ?_ rfl⟩
      · unfold execOp
        rw [ho]
        simp [resolve, invoke, builtin, hxe, h1]
      · simp only [EptrOk, hL]
        have hlt : 0 < es.length := by omega
        exact ⟨Nat.le_refl _, fun _ => ⟨es, es[0], b, c, 1, by simp [sub], by simp [hlt], hes _ (List.getElem_mem hlt), hes, by simp, hb⟩⟩

theorem RunL.sliceData {P : Program} {k : Oper → Knd} {ops : Array Oper} {K : St → Prop} {o : Oper} {rest : List Oper} {s : St} {x : Operand} {ats : Array TypeId} {id g n : Nat} {T : TypeId} {es : List AV}
    (hg : guardA ops s o = some true) (ho : o.op = .call { callee := .builtin .unsafeSliceData, args := #[x], argTypes := ats }) (hkd : Knd.le .B (k o) = true) (hW : ∀ i, isW k i = false ∧ rowsAt k i = false)
    (hx : s.ev x = .ref id [] g n) (hL : s.L[id]? = some (.vec T 1 g es)) (hn : 0 < n) (hes : ∀ e ∈ es, e.cells.length = 1) (hk : R P k ops rest (s.put o.dst (.eptr id [] g 0 0)) K) : RunL P k ops (o :: rest) s K := by
  refine .op ⟨.B, .eptr id [] g 0 0, []⟩ hkd ⟨⟨fun _ h => (nomatch h), fun h => (nomatch h)⟩, fun s1 ha hL1 => ⟨by rw [agree_guard ha]; exact hg, ?_⟩⟩ (R.sound hk)
  obtain ⟨L0, X, hX, hlen, hS⟩ := hL1
  have e0 : L0 = s.L := by
    apply List.ext_getElem?
    intro i
    obtain ⟨w1, w2⟩ := hW i
    rcases hS i w1 with e | ⟨e, _⟩
    · exact e
    · rw [w2] at e; cases e
  subst e0
  have hx1 : s1.ev x = .ref id [] g n := by rw [agree_ev ha (by rw [ho]; simp [Op.operands, Call.operands])]; exact hx
  exact sliceData_sound (P := P) (s := s1) ho hx1 (by rw [hX, List.getElem?_append_left (List.getElem?_eq_some_iff.1 hL).1]; exact hL) hn hes

theorem freeze_heap (w : World) (b n k : Nat) (h : k ≠ b) : (w.freeze ⟨b, 0, none⟩ n).heap[k]? = w.heap[k]? := by
  unfold World.freeze
  split
  · rfl
  · simp [Array.getElem?_modify, Ne.symm h]
theorem freeze_rest (w : World) (b n : Nat) : (w.freeze ⟨b, 0, none⟩ n).os = w.os ∧ (w.freeze ⟨b, 0, none⟩ n).tape = w.tape ∧ (w.freeze ⟨b, 0, none⟩ n).output = w.output ∧ (w.freeze ⟨b, 0, none⟩ n).heap.size = w.heap.size := by
  unfold World.freeze
  split
  · exact ⟨rfl, rfl, rfl, rfl⟩
  · exact ⟨rfl, rfl, rfl, by simp⟩

/-- The row 'j' is given up; its block may have turned. -/
theorem Inv.drop {γ : Nat → Gh} {L : List AObj} {w w' : World} (hI : Inv γ L w) {j b0 c0 : Nat} {T : TypeId} {sz g : Nat} {es : List AV} (hj : L[j]? = some (.vec T sz g es)) (hb0 : γ b0 = .ow j [] c0)
    (hw : ∀ k : Nat, k ≠ b0 → w'.heap[k]? = w.heap[k]?) (hr : w'.os = w.os ∧ w'.tape = w.tape ∧ w'.output = w.output ∧ w'.heap.size = w.heap.size) :
    ∃ γ', Inv γ' (L.set j .dead) w' ∧ Ext γ L γ' (L.set j .dead) ∧ Stp γ w γ' w' := by
  have hjl := (List.getElem?_eq_some_iff.1 hj).1
  let γ' : Nat → Gh := fun b => match γ b with | .ow id p c => if id = j then .out else .ow id p c | x => x
  have hA : ∀ {b id p c}, γ b = .ow id p c → id ≠ j → γ' b = .ow id p c := by
    intro b id p c hb hne; simp [γ', hb, hne]
  have h3 : ∀ {b id p c}, γ' b = .ow id p c → γ b = .ow id p c ∧ id ≠ j := by
    intro b id p c hb
    cases hg : γ b with
    | ow id' p' c' =>
      by_cases hij : id' = j
      · simp [γ', hg, hij] at hb
      · simp [γ', hg, hij] at hb; obtain ⟨rfl, rfl, rfl⟩ := hb; exact ⟨rfl, hij⟩
    | out => simp [γ', hg] at hb
    | ro o => simp [γ', hg] at hb
  have h4 : ∀ b o, γ' b = .ro o ↔ γ b = .ro o := by
    intro b o
    cases hg : γ b with
    | ow id' p' c' => by_cases hij : id' = j <;> simp [γ', hg, hij]
    | out => simp [γ', hg]
    | ro o => simp [γ', hg]
  have hset : ∀ {id : Nat}, id ≠ j → (L.set j AObj.dead)[id]? = L[id]? := fun {id} hne => List.getElem?_set_ne (fun e => hne e.symm)
  have hself : (L.set j AObj.dead)[j]? = some .dead := List.getElem?_set_self hjl
  have hE : Ext γ L γ' (L.set j .dead) := by
    refine ⟨fun b o hb => (h4 b o).2 hb, fun id o hL => ?_, fun b id p c hb => ?_, fun id T1 sz1 g1 es1 T' sz' es' hL hL' p e1 _ b c hb => (h3 hb).1⟩
    · by_cases hij : id = j
      · subst hij; rw [hj] at hL; cases hL; exact ⟨_, hself, trivial⟩
      · exact ⟨o, by rw [hset hij]; exact hL, OStep.refl o⟩
    · by_cases hij : id = j
      · subst hij
        refine .inr fun o hL => ?_
        rw [hj] at hL; cases hL
        exact ⟨_, _, _, _, rfl, fun T' sz' es' hL' => by rw [hself] at hL'; cases hL'⟩
      · exact .inl (hA hb hij)
  have hne : ∀ {b id p c}, γ b = .ow id p c → id ≠ j → b ≠ b0 := fun hb hij e => by rw [e, hb0] at hb; cases hb; exact hij rfl
  refine ⟨γ', ⟨fun b o hb => ?_, fun b id p c hb => ?_, fun b b' id p c c' hb hb' => hI.inj _ _ _ _ _ _ (h3 hb).1 (h3 hb').1, fun id T cs hL => ?_, fun id kt vt es hL => ?_⟩, hE, ?_⟩
  · have hb := (h4 b o).1 hb
    rw [hw b (fun e => by rw [e, hb0] at hb; cases hb)]; exact hI.ro b o hb
  · obtain ⟨hb1, hij⟩ := h3 hb
    obtain ⟨o, ho, hrep⟩ := hI.ow _ _ _ _ hb1
    exact ⟨o, by rw [hw b (hne hb1 hij)]; exact ho, BlockRep.keep hE (hset hij) (fun b p c hb => hA hb hij) (fun b p c hb => (h3 hb).1) hrep⟩
  · by_cases hij : id = j
    · subst hij; rw [hself] at hL; cases hL
    · rw [hset hij] at hL
      obtain ⟨b, c, hb⟩ := hI.box _ _ _ hL
      exact ⟨b, c, hA hb hij⟩
  · by_cases hij : id = j
    · subst hij; rw [hself] at hL; cases hL
    · rw [hset hij] at hL
      obtain ⟨b, c, hb⟩ := hI.map _ _ _ _ hL
      exact ⟨b, c, hA hb hij⟩
  · refine ⟨hr.1, hr.2.1, hr.2.2.1, by rw [hr.2.2.2]; exact Nat.le_refl _, hE.ro, fun b hb ho => ?_⟩
    exact ⟨by simp [γ', ho], hw b (fun e => by rw [e, hb0] at ho; cases ho)⟩

/-- The bytes of a row as a string: the row is not written any more. -/
theorem unsafeString_sound {P : Program} {o : Oper} {s : St} {x y : Operand} {pt it : TypeId} {id g : Nat} {T : TypeId} {l : List UInt8} (ho : o.op = .call { callee := .builtin .unsafeString, args := #[x, y], argTypes := #[pt, it] })
    (hx : s.ev x = .eptr id [] g 0 0) (hy : s.ev y = .int .i64 l.length) (hL : s.L[id]? = some (.vec T 1 g (l.map fun b => AV.int .u8 b.toNat))) (hp : P.underlying pt = some (.pointer T)) (hc : P.cellsOf T = 1) (h0 : l ≠ []) :
    OpS P o s ({ s with L := s.L.set id .dead }.put o.dst (.str ⟨l.toArray⟩)) := by
  intro γ a w K Q hr hK
  refine .inl ?_
  have hv := hr.ev x
  have hu := hr.ev y
  rw [hx] at hv
  rw [hy] at hu
  generalize hxe : a.eval x = v at hv
  generalize hye : a.eval y = u at hu
  cases hu
  cases hv with
  | eptr _ _ _ _ _ _ hok ho1 =>
    rw [EptrOk, hL] at hok
    obtain ⟨es', e, b, c, sz, hs, he, hel, hall, rfl, hb⟩ := hok.2 rfl
    simp [sub] at hs
    subst hs
    obtain ⟨arr, sz2, T', harr, hTs, hasz, hlc, hcm, hrow⟩ := hr.inv.rowCell (es' := l.map fun b => AV.int .u8 b.toNat) hL (by simp [sub]) hb
    obtain ⟨hT, hsz2⟩ := hTs rfl
    subst hT hsz2
    have hb2 : w.heap[b]? = some (.cells arr T' (0, 0)) := harr
    simp only [List.length_map] at hlc
    have hsh : w.shape? b = some (T', arr.size) := by simp [World.shape?, hb2]
    have hcm2 : c ≤ 9223372036854775807 := by unfold maxLen at hcm; omega
    have hrun := Lib.run_unsafeString_row (P := P) w pt it o.type T' hp hc b arr.size hsh l h0 (by rw [hasz]; omega) (by omega) (fun j q hq => by
      have hq' : (l.map fun b => AV.int .u8 b.toNat)[j]? = some (.int .u8 q.toNat) := by rw [List.getElem?_map, hq]; rfl
      obtain ⟨v, hv1, _, hv2⟩ := hrow.2 j _ 0 (.int .u8 q.toNat) hq' rfl
      have hv3 : v = .int .u8 q.toNat := by
        have : RV γ s.L (.int .u8 q.toNat) v := hv2
        cases this; rfl
      subst hv3
      have hadd : (⟨b, 0, none⟩ : Addr).add j = ⟨b, j, none⟩ := by unfold Addr.add; split <;> simp_all
      rw [hadd]
      simp only [Nat.mul_one, Nat.add_zero] at hv1
      simp [World.cell?, hb2, hv1])
    obtain ⟨γ', hI', hE, hS⟩ := hr.inv.drop (w' := w.freeze ⟨b, 0, none⟩ l.length) hL hb (fun k hk => freeze_heap w b _ k hk) (freeze_rest w b _)
    unfold Oper.wp execOp
    have ha0 : (0 * sz + 0 : Nat) = 0 := by simp
    rw [ha0] at hxe
    simp only [ho, resolve, invoke, builtin, Sem.run_bind, Sem.run_pure, Result.andThen_ok, List.map_toArray, List.map_cons, List.map_nil, hxe, hye, hrun]
    exact hK γ' _ _ ((hr.mono hE hI').put o.dst (.str _)) (by rw [St.put_L]; exact hE) hS

end Go.Proofs.Ytphmkhaboghagaa.K
/-
  strings.Builder in the logic of values: written to, and told as a string.
-/
namespace Go.Proofs.Ytphmkhaboghagaa
open Go K
set_option linter.unusedSimpArgs false
set_option linter.unusedVariables false
set_option maxHeartbeats 1600000
set_option maxRecDepth 8000

theorem sbF : (fieldOf Try.prog 137 0 = some (0, 135) ∧ fieldOf Try.prog 137 1 = some (1, 38)) ∧ ((Try.prog.info? 135).isSome = true ∧ Try.prog.cellsOf 135 = 1) ∧
    ((Try.prog.underlying 135).isSome = true ∧ aggT Try.prog 135 = false) ∧ ((Try.prog.info? 137).isSome = true ∧ Try.prog.cellsOf 137 = 2) ∧
    ((Try.prog.underlying 137).isSome = true ∧ aggT Try.prog 137 = true) ∧ zeroOf Try.prog 137 = some (.agg #[.pointer none, .slice none 0 0]) :=
  ⟨⟨by kernel_rfl, by kernel_rfl⟩, ⟨by kernel_rfl, by kernel_rfl⟩, ⟨by kernel_rfl, by kernel_rfl⟩, ⟨by kernel_rfl, by kernel_rfl⟩, ⟨by kernel_rfl, by kernel_rfl⟩, by kernel_rfl⟩
theorem bld_lies : liesAt Try.prog Try.prog.depth 137 (2 / Try.prog.cellsOf 137) 0 137 1 = true := by kernel_rfl
theorem bld_ptr : Try.prog.underlying 135 = some (.pointer 137) := by kernel_rfl
theorem bld_uns : Try.prog.underlying 146 = some .unsafePointer := by kernel_rfl

theorem withL {P : Program} {o : Oper} {s : St} {x : AV} {L0 : List AObj} (h : OpS P o s ({ s with L := s.L }.put o.dst x)) (hL : s.L = L0) : OpS P o s ({ s with L := L0 }.put o.dst x) := hL ▸ h
theorem ccUsed_ok (L : List AObj) (id : Nat) (y : AV) (hL : L[id]? = some (.box 137 [.ptr id 0, y])) : Ct Try.prog 123 [.ptr id 0] L (.tup []) L := by
  refine Ct.by_ hmix [] Try.func123 rfl ?_
  simp only [run0, run1, run2, run3, run4, run5, run6, run7, run8, run9, run10, run11, run12, run13, run14, run15, run16, run17, run18, run19, run20, run21, run22, reduceCtorEq, Nat.reduceEqDiff, Nat.reduceAdd, Nat.reduceSub, Nat.reduceLeDiff, indexAddrA, indexRefA, appendA, strA, Nat.reduceMul, Nat.zero_mul, Nat.reduceMod, Int.reduceEq, Int.reduceLT, Int.reduceLE, Nat.reduceLT, Nat.lt_irrefl, Nat.reduceBEq, tys0, tys1, tys2, tys3, tys4, tys5, tys6, tys7, tys8, tys9, tys10, tys11, tys12, tys13, tys14, tys15, tys16, tys17, tys18, Try.ntmps123, Try.results123, hL, sbF]
  refine RunL.opC (x := .bool false) (L' := L) rfl rfl rfl (fun s1 h1 h2 => ?_) ?_
  · have e1 := h2 (.tmp 5) (by simp [Op.operands, Call.operands])
    exact withL (eqNil_sound (b := false) rfl bld_ptr (.inr ⟨⟨id, 0, e1.trans rfl⟩, rfl⟩)) h1
  simp only [run0, run1, run2, run3, run4, run5, run6, run7, run8, run9, run10, run11, run12, run13, run14, run15, run16, run17, run18, run19, run20, run21, run22, reduceCtorEq, Nat.reduceEqDiff, Nat.reduceAdd, Nat.reduceSub, Nat.reduceLeDiff, indexAddrA, indexRefA, appendA, strA, Nat.reduceMul, Nat.zero_mul, Nat.reduceMod, Int.reduceEq, Int.reduceLT, Int.reduceLE, Nat.reduceLT, Nat.lt_irrefl, Nat.reduceBEq, tys0, tys1, tys2, tys3, tys4, tys5, tys6, tys7, tys8, tys9, tys10, tys11, tys12, tys13, tys14, tys15, tys16, tys17, tys18, Try.ntmps123, Try.results123, hL, sbF]
  refine RunL.opC (x := .bool false) (L' := L) rfl rfl rfl (fun s1 h1 h2 => ?_) ?_
  · have e1 := h2 (.tmp 17) (by simp [Op.operands, Call.operands])
    have e2 := h2 (.tmp 18) (by simp [Op.operands, Call.operands])
    exact withL (neqSame_sound rfl bld_ptr (by kernel_rfl) (e1.trans rfl) (e2.trans rfl)) h1
  simp only [run0, run1, run2, run3, run4, run5, run6, run7, run8, run9, run10, run11, run12, run13, run14, run15, run16, run17, run18, run19, run20, run21, run22, reduceCtorEq, Nat.reduceEqDiff, Nat.reduceAdd, Nat.reduceSub, Nat.reduceLeDiff, indexAddrA, indexRefA, appendA, strA, Nat.reduceMul, Nat.zero_mul, Nat.reduceMod, Int.reduceEq, Int.reduceLT, Int.reduceLE, Nat.reduceLT, Nat.lt_irrefl, Nat.reduceBEq, tys0, tys1, tys2, tys3, tys4, tys5, tys6, tys7, tys8, tys9, tys10, tys11, tys12, tys13, tys14, tys15, tys16, tys17, tys18, Try.ntmps123, Try.results123, hL, sbF]
  exact Fin.own rfl rfl

theorem ccFresh_ok (L : List AObj) (id : Nat) (y : AV) (hL : L[id]? = some (.box 137 [.lit (.pointer none), y])) : Ct Try.prog 123 [.ptr id 0] L (.tup []) (L.set id (.box 137 [.ptr id 0, y])) := by
  refine Ct.by_ hmix [] Try.func123 rfl ?_
  simp only [run0, run1, run2, run3, run4, run5, run6, run7, run8, run9, run10, run11, run12, run13, run14, run15, run16, run17, run18, run19, run20, run21, run22, reduceCtorEq, Nat.reduceEqDiff, Nat.reduceAdd, Nat.reduceSub, Nat.reduceLeDiff, indexAddrA, indexRefA, appendA, strA, Nat.reduceMul, Nat.zero_mul, Nat.reduceMod, Int.reduceEq, Int.reduceLT, Int.reduceLE, Nat.reduceLT, Nat.lt_irrefl, Nat.reduceBEq, tys0, tys1, tys2, tys3, tys4, tys5, tys6, tys7, tys8, tys9, tys10, tys11, tys12, tys13, tys14, tys15, tys16, tys17, tys18, Try.ntmps123, Try.results123, hL, sbF]
  refine RunL.opC (x := .bool true) (L' := L) rfl rfl rfl (fun s1 h1 h2 => ?_) ?_
  · have e1 := h2 (.tmp 5) (by simp [Op.operands, Call.operands])
    exact withL (eqNil_sound (b := true) rfl bld_ptr (.inl ⟨e1.trans rfl, rfl⟩)) h1
  simp only [run0, run1, run2, run3, run4, run5, run6, run7, run8, run9, run10, run11, run12, run13, run14, run15, run16, run17, run18, run19, run20, run21, run22, reduceCtorEq, Nat.reduceEqDiff, Nat.reduceAdd, Nat.reduceSub, Nat.reduceLeDiff, indexAddrA, indexRefA, appendA, strA, Nat.reduceMul, Nat.zero_mul, Nat.reduceMod, Int.reduceEq, Int.reduceLT, Int.reduceLE, Nat.reduceLT, Nat.lt_irrefl, Nat.reduceBEq, tys0, tys1, tys2, tys3, tys4, tys5, tys6, tys7, tys8, tys9, tys10, tys11, tys12, tys13, tys14, tys15, tys16, tys17, tys18, Try.ntmps123, Try.results123, hL, sbF]
  refine RunL.opC (x := .ptr id 0) (L' := L) rfl rfl rfl (fun s1 h1 h2 => ?_) ?_
  · have e1 := h2 (.tmp 8) (by simp [Op.operands, Call.operands])
    exact withL (toUnsafe_sound rfl bld_ptr bld_uns (by kernel_rfl) (by rw [sbF.2.2.2.1.2]; decide) (e1.trans rfl) (by rw [h1]; exact hL) (by simp)) h1
  simp only [run0, run1, run2, run3, run4, run5, run6, run7, run8, run9, run10, run11, run12, run13, run14, run15, run16, run17, run18, run19, run20, run21, run22, reduceCtorEq, Nat.reduceEqDiff, Nat.reduceAdd, Nat.reduceSub, Nat.reduceLeDiff, indexAddrA, indexRefA, appendA, strA, Nat.reduceMul, Nat.zero_mul, Nat.reduceMod, Int.reduceEq, Int.reduceLT, Int.reduceLE, Nat.reduceLT, Nat.lt_irrefl, Nat.reduceBEq, tys0, tys1, tys2, tys3, tys4, tys5, tys6, tys7, tys8, tys9, tys10, tys11, tys12, tys13, tys14, tys15, tys16, tys17, tys18, Try.ntmps123, Try.results123, hL, sbF]
  refine RunL.opC (x := .ptr id 0) (L' := L) rfl rfl rfl (fun s1 h1 h2 => ?_) ?_
  · have e1 := h2 (.tmp 9) (by simp [Op.operands, Call.operands])
    have := withL (noEscape_sound (P := Try.prog) (s := s1) (o := { dst := some 10, op := .call { callee := .value (.func 124), args := #[.tmp 9], argTypes := #[146] }, type := 146, pos := "builder.go:39", after := #[{ on := 2, ground := .data }], guard := none }) (f := 124) (x := .tmp 9) rfl Try.func124 (by kernel_rfl) (by kernel_rfl) (by kernel_rfl) (by kernel_rfl)) h1
    rw [e1] at this
    exact this
  simp only [run0, run1, run2, run3, run4, run5, run6, run7, run8, run9, run10, run11, run12, run13, run14, run15, run16, run17, run18, run19, run20, run21, run22, reduceCtorEq, Nat.reduceEqDiff, Nat.reduceAdd, Nat.reduceSub, Nat.reduceLeDiff, indexAddrA, indexRefA, appendA, strA, Nat.reduceMul, Nat.zero_mul, Nat.reduceMod, Int.reduceEq, Int.reduceLT, Int.reduceLE, Nat.reduceLT, Nat.lt_irrefl, Nat.reduceBEq, tys0, tys1, tys2, tys3, tys4, tys5, tys6, tys7, tys8, tys9, tys10, tys11, tys12, tys13, tys14, tys15, tys16, tys17, tys18, Try.ntmps123, Try.results123, hL, sbF]
  refine RunL.opC (x := .ptr id 0) (L' := L) rfl rfl rfl (fun s1 h1 h2 => ?_) ?_
  · have e1 := h2 (.tmp 10) (by simp [Op.operands, Call.operands])
    exact withL (fromUnsafe_sound rfl bld_uns bld_ptr (by kernel_rfl) (e1.trans rfl) (by rw [h1]; exact hL) bld_lies) h1
  simp only [run0, run1, run2, run3, run4, run5, run6, run7, run8, run9, run10, run11, run12, run13, run14, run15, run16, run17, run18, run19, run20, run21, run22, reduceCtorEq, Nat.reduceEqDiff, Nat.reduceAdd, Nat.reduceSub, Nat.reduceLeDiff, indexAddrA, indexRefA, appendA, strA, Nat.reduceMul, Nat.zero_mul, Nat.reduceMod, Int.reduceEq, Int.reduceLT, Int.reduceLE, Nat.reduceLT, Nat.lt_irrefl, Nat.reduceBEq, tys0, tys1, tys2, tys3, tys4, tys5, tys6, tys7, tys8, tys9, tys10, tys11, tys12, tys13, tys14, tys15, tys16, tys17, tys18, Try.ntmps123, Try.results123, hL, sbF]
  exact Fin.own rfl rfl

end Go.Proofs.Ytphmkhaboghagaa
/-
  strings.Builder in the logic of values: WriteString and String.
-/
namespace Go.Proofs.Ytphmkhaboghagaa
open Go K
set_option linter.unusedSimpArgs false
set_option linter.unusedVariables false
set_option maxHeartbeats 1600000
set_option maxRecDepth 8000

/-! ### writing -/
def bytesL (l : List UInt8) : List AV := l.map fun b => AV.int .u8 b.toNat
theorem bytesL_len (l : List UInt8) : (bytesL l).length = l.length := by simp [bytesL]
theorem bytesL_app (a b : List UInt8) : bytesL (a ++ b) = bytesL a ++ bytesL b := by simp [bytesL]
theorem bytesL_noOwn (l : List UInt8) : noOwn (bytesL l) = true := by simp [noOwn, bytesL, AV.cells]
theorem bytesL_all (l : List UInt8) : ((bytesL l).all fun z => z.cells.length == 1) = true := by simp [bytesL, AV.cells]
theorem bytesL_cells (l : List UInt8) : ∀ e ∈ bytesL l, e.cells.length = 1 := fun e he => by
  obtain ⟨b, _, rfl⟩ := List.mem_map.1 he; rfl
/-- The builder 'id' holds the bytes 'l' in the row 'rid'. -/
def Bld (L : List AObj) (id rid g : Nat) (l : List UInt8) : Prop := L[id]? = some (.box 137 [.ptr id 0, .ref rid [] g l.length]) ∧ L[rid]? = some (.vec 5 1 g (bytesL l))
def wsR (s : ByteArray) : AV := .tup [.int .i64 s.size, .lit .nilIface]

theorem wsNew_ok (L : List AObj) (id : Nat) (s : ByteArray) (hs : s.size ≤ 1000000) (hL : L[id]? = some (.box 137 [.lit (.pointer none), .lit (.slice none 0 0)])) :
    Ct Try.prog 117 [.ptr id 0, .str s] L (wsR s) (L.set id (.box 137 [.ptr id 0, .ref L.length [] 1 s.data.toList.length]) ++ [.vec 5 1 1 (bytesL s.data.toList)]) := by
  have hidl := (List.getElem?_eq_some_iff.1 hL).1
  have hget : ∀ X, (L.set id X)[id]? = some X := fun X => List.getElem?_set_self hidl
  have hget2 : ∀ X Y, (L.set id X ++ Y)[id]? = some X := fun X Y => by rw [List.getElem?_append_left (by simpa using hidl)]; exact hget X
  have hset2 : ∀ X Y Z, (L.set id X ++ Y).set id Z = L.set id Z ++ Y := fun X Y Z => by rw [List.set_append_left _ _ (by simpa using hidl), List.set_set]
  have hsz : s.data.toList.length ≤ 137438953472 := by have : s.data.toList.length = s.size := Array.length_toList
                                                       omega
  have m1 : (s.data.toList.map fun b => AV.int .u8 b.toNat).length = s.data.toList.length := List.length_map _
  have m2 : noOwn (s.data.toList.map fun b => AV.int .u8 b.toNat) = true := bytesL_noOwn _
  have m3 : ((s.data.toList.map fun b => AV.int .u8 b.toNat).all fun z => z.cells.length == 1) = true := bytesL_all _
  refine Ct.by_ hmix [] Try.func117 rfl ?_
  simp only [run0, run1, run2, run3, run4, run5, run6, run7, run8, run9, run10, run11, run12, run13, run14, run15, run16, run17, run18, run19, run20, run21, run22, reduceCtorEq, Nat.reduceEqDiff, Nat.reduceAdd, Nat.reduceSub, Nat.reduceLeDiff, indexAddrA, indexRefA, appendA, strA, Nat.reduceMul, Nat.zero_mul, Nat.reduceMod, Int.reduceEq, Int.reduceLT, Int.reduceLE, Nat.reduceLT, Nat.lt_irrefl, Nat.reduceBEq, tys0, tys1, tys2, tys3, tys4, tys5, tys6, tys7, tys8, tys9, tys10, tys11, tys12, tys13, tys14, tys15, tys16, tys17, tys18, Try.ntmps117, Try.results117]
  refine RunL.callM rfl rfl ok_f123 rfl rfl (ccFresh_ok L id _ hL) rfl ?_
  simp only [run0, run1, run2, run3, run4, run5, run6, run7, run8, run9, run10, run11, run12, run13, run14, run15, run16, run17, run18, run19, run20, run21, run22, reduceCtorEq, Nat.reduceEqDiff, Nat.reduceAdd, Nat.reduceSub, Nat.reduceLeDiff, indexAddrA, indexRefA, appendA, strA, Nat.reduceMul, Nat.zero_mul, Nat.reduceMod, Int.reduceEq, Int.reduceLT, Int.reduceLE, Nat.reduceLT, Nat.lt_irrefl, Nat.reduceBEq, tys0, tys1, tys2, tys3, tys4, tys5, tys6, tys7, tys8, tys9, tys10, tys11, tys12, tys13, tys14, tys15, tys16, tys17, tys18, Try.ntmps117, Try.results117, sbF, hget, hget2, hset2, hsz, m1, m2, m3]
  exact Fin.own rfl rfl

theorem wsMore_ok (L : List AObj) (id rid g : Nat) (l : List UInt8) (s : ByteArray) (hs : s.size ≤ 1000000) (hl : l.length ≤ 1000000) (hL : Bld L id rid g l) (hne : id ≠ rid) :
    Ct Try.prog 117 [.ptr id 0, .str s] L (wsR s) ((L.set rid (.vec 5 1 (g + 1) (bytesL (l ++ s.data.toList)))).set id (.box 137 [.ptr id 0, .ref rid [] (g + 1) (l ++ s.data.toList).length])) := by
  obtain ⟨hL1, hL2⟩ := hL
  have hidl := (List.getElem?_eq_some_iff.1 hL1).1
  have hrdl := (List.getElem?_eq_some_iff.1 hL2).1
  have hg1 : ∀ X, (L.set rid X)[id]? = some (.box 137 [.ptr id 0, .ref rid [] g l.length]) := fun X => (List.getElem?_set_ne hne.symm).trans hL1
  have hg2 : ∀ X, (L.set rid X)[rid]? = some X := fun X => List.getElem?_set_self hrdl
  have b1 := bytesL_len l
  have b2 := bytesL_noOwn l
  have b3 := bytesL_all l
  have b4 := bytesL_cells l
  have hsl : s.data.toList.length = s.size := Array.length_toList
  have hsz : l.length + s.data.toList.length ≤ 137438953472 := by omega
  have m1 : (s.data.toList.map fun b => AV.int .u8 b.toNat).length = s.data.toList.length := List.length_map _
  have m2 : noOwn (s.data.toList.map fun b => AV.int .u8 b.toNat) = true := bytesL_noOwn _
  have m3 : ((s.data.toList.map fun b => AV.int .u8 b.toNat).all fun z => z.cells.length == 1) = true := bytesL_all _
  refine Ct.by_ hmix [] Try.func117 rfl ?_
  simp only [run0, run1, run2, run3, run4, run5, run6, run7, run8, run9, run10, run11, run12, run13, run14, run15, run16, run17, run18, run19, run20, run21, run22, reduceCtorEq, Nat.reduceEqDiff, Nat.reduceAdd, Nat.reduceSub, Nat.reduceLeDiff, indexAddrA, indexRefA, appendA, strA, Nat.reduceMul, Nat.zero_mul, Nat.reduceMod, Int.reduceEq, Int.reduceLT, Int.reduceLE, Nat.reduceLT, Nat.lt_irrefl, Nat.reduceBEq, tys0, tys1, tys2, tys3, tys4, tys5, tys6, tys7, tys8, tys9, tys10, tys11, tys12, tys13, tys14, tys15, tys16, tys17, tys18, Try.ntmps117, Try.results117]
  refine RunL.callM rfl rfl ok_f123 rfl rfl (ccUsed_ok L id _ hL1) rfl ?_
  simp only [run0, run1, run2, run3, run4, run5, run6, run7, run8, run9, run10, run11, run12, run13, run14, run15, run16, run17, run18, run19, run20, run21, run22, reduceCtorEq, Nat.reduceEqDiff, Nat.reduceAdd, Nat.reduceSub, Nat.reduceLeDiff, indexAddrA, indexRefA, appendA, strA, Nat.reduceMul, Nat.zero_mul, Nat.reduceMod, Int.reduceEq, Int.reduceLT, Int.reduceLE, Nat.reduceLT, Nat.lt_irrefl, Nat.reduceBEq, tys0, tys1, tys2, tys3, tys4, tys5, tys6, tys7, tys8, tys9, tys10, tys11, tys12, tys13, tys14, tys15, tys16, tys17, tys18, Try.ntmps117, Try.results117, sbF, hL1, hL2, hg1, hg2, hsz, m1, m2, m3, b1, b2, b3]
  rw [bytesL_app]
  exact Fin.own rfl rfl

theorem bldString_ok (L : List AObj) (id rid g : Nat) (l : List UInt8) (hl : l.length ≤ 1000000) (h0 : l ≠ []) (hL : Bld L id rid g l) (hne : id ≠ rid) :
    Ct Try.prog 118 [.ptr id 0] L (.str ⟨l.toArray⟩) (L.set rid .dead) := by
  obtain ⟨hL1, hL2⟩ := hL
  have b1 := bytesL_len l
  have b2 := bytesL_noOwn l
  have hlp : 0 < l.length := List.length_pos_iff.2 h0
  refine Ct.by_ hmix [ 8000000] Try.func118 rfl ?_
  simp only [run0, run1, run2, run3, run4, run5, run6, run7, run8, run9, run10, run11, run12, run13, run14, run15, run16, run17, run18, run19, run20, run21, run22, reduceCtorEq, Nat.reduceEqDiff, Nat.reduceAdd, Nat.reduceSub, Nat.reduceLeDiff, indexAddrA, indexRefA, appendA, strA, Nat.reduceMul, Nat.zero_mul, Nat.reduceMod, Int.reduceEq, Int.reduceLT, Int.reduceLE, Nat.reduceLT, Nat.lt_irrefl, Nat.reduceBEq, tys0, tys1, tys2, tys3, tys4, tys5, tys6, tys7, tys8, tys9, tys10, tys11, tys12, tys13, tys14, tys15, tys16, tys17, tys18, Try.ntmps118, Try.results118, sbF, hL1, hL2]
  refine ⟨[0, 1, 2, 3, 4, 5, 6, 7, 8, 9, 10, 11], by kernel_rfl, ?_⟩
  simp only [run0, run1, run2, run3, run4, run5, run6, run7, run8, run9, run10, run11, run12, run13, run14, run15, run16, run17, run18, run19, run20, run21, run22, reduceCtorEq, Nat.reduceEqDiff, Nat.reduceAdd, Nat.reduceSub, Nat.reduceLeDiff, indexAddrA, indexRefA, appendA, strA, Nat.reduceMul, Nat.zero_mul, Nat.reduceMod, Int.reduceEq, Int.reduceLT, Int.reduceLE, Nat.reduceLT, Nat.lt_irrefl, Nat.reduceBEq, tys0, tys1, tys2, tys3, tys4, tys5, tys6, tys7, tys8, tys9, tys10, tys11, tys12, tys13, tys14, tys15, tys16, tys17, tys18, Try.ntmps118, Try.results118, sbF, hL1, hL2]
  refine RunL.sliceData rfl rfl rfl (by intro i; exact ⟨rfl, rfl⟩) rfl hL2 hlp (bytesL_cells l) ?_
  simp only [run0, run1, run2, run3, run4, run5, run6, run7, run8, run9, run10, run11, run12, run13, run14, run15, run16, run17, run18, run19, run20, run21, run22, reduceCtorEq, Nat.reduceEqDiff, Nat.reduceAdd, Nat.reduceSub, Nat.reduceLeDiff, indexAddrA, indexRefA, appendA, strA, Nat.reduceMul, Nat.zero_mul, Nat.reduceMod, Int.reduceEq, Int.reduceLT, Int.reduceLE, Nat.reduceLT, Nat.lt_irrefl, Nat.reduceBEq, tys0, tys1, tys2, tys3, tys4, tys5, tys6, tys7, tys8, tys9, tys10, tys11, tys12, tys13, tys14, tys15, tys16, tys17, tys18, Try.ntmps118, Try.results118, sbF, hL1, hL2, b1]
  refine RunL.opC (x := .str ⟨l.toArray⟩) (L' := L.set rid .dead) rfl rfl rfl (fun s1 h1 h2 => ?_) ?_
  · have e1 := h2 (.tmp 7) (by simp [Op.operands, Call.operands])
    have e2 := h2 (.tmp 12) (by simp [Op.operands, Call.operands])
    have := unsafeString_sound (P := Try.prog) (s := s1) (o := { dst := some 13, op := .call { callee := .builtin .unsafeString, args := #[.tmp 7, .tmp 12], argTypes := #[144, 3] }, type := 9, pos := "builder.go:47", after := #[{ on := 4, ground := .data }, { on := 9, ground := .data }], guard := none }) rfl (e1.trans rfl) (e2.trans rfl) (by rw [h1]; exact hL2) (show Try.prog.underlying 144 = some (.pointer 5) from by kernel_rfl) (by kernel_rfl) h0
    rw [h1] at this
    exact this
  simp only [run0, run1, run2, run3, run4, run5, run6, run7, run8, run9, run10, run11, run12, run13, run14, run15, run16, run17, run18, run19, run20, run21, run22, reduceCtorEq, Nat.reduceEqDiff, Nat.reduceAdd, Nat.reduceSub, Nat.reduceLeDiff, indexAddrA, indexRefA, appendA, strA, Nat.reduceMul, Nat.zero_mul, Nat.reduceMod, Int.reduceEq, Int.reduceLT, Int.reduceLE, Nat.reduceLT, Nat.lt_irrefl, Nat.reduceBEq, tys0, tys1, tys2, tys3, tys4, tys5, tys6, tys7, tys8, tys9, tys10, tys11, tys12, tys13, tys14, tys15, tys16, tys17, tys18, Try.ntmps118, Try.results118, sbF, hL1, hL2, b1]
  exact Fin.own rfl rfl

end Go.Proofs.Ytphmkhaboghagaa
/-
  Hydras as text: both sides.
-/
namespace Go.Proofs.Ytphmkhaboghagaa
open Go K Od
set_option linter.unusedSimpArgs false
set_option linter.unusedVariables false
set_option maxHeartbeats 1600000
set_option maxRecDepth 8000

def showF : Fo → List UInt8
  | .nil => []
  | .cons _ ch r => 40 :: (showF ch ++ 41 :: showF r)
def shT (f : Fo) : List UInt8 := 40 :: (showF f ++ [41])
theorem showF_app : ∀ a b : Fo, showF (a.app b) = showF a ++ showF b
  | .nil, b => rfl
  | .cons n ch r, b => by simp only [Fo.app, showF, showF_app r b, List.cons_append, List.append_assoc]
theorem showF_len : ∀ a : Fo, (showF a).length = 2 * a.sz
  | .nil => rfl
  | .cons n ch r => by simp only [showF, Fo.sz, List.length_cons, List.length_append, showF_len ch, showF_len r]; omega
theorem showF_one (n : Int) (ch : Fo) : showF (.cons n ch .nil) = shT ch := by simp [showF, shT]
theorem shT_len (a : Fo) : (shT a).length = 2 * a.sz + 2 := by simp [shT, showF_len]
def strL (l : List UInt8) : AV := .str ⟨l.toArray⟩
theorem strL_app (a b : List UInt8) : (⟨a.toArray⟩ : ByteArray) ++ ⟨b.toArray⟩ = ⟨(a ++ b).toArray⟩ := by
  apply ByteArray.ext
  rw [ByteArray.data_append]
  simp

theorem strU {P : Program} {t : TypeId} (h : (match P.underlying t with | some (TypeDesc.struct fs) => (fs.all fun f => (P.info? f.type).isSome) | _ => false) = true) :
    ∃ fs, P.underlying t = some (TypeDesc.struct fs) ∧ (fs.all fun f => (P.info? f.type).isSome) = true := by
  split at h
  · exact ⟨_, by assumption, h⟩
  · cases h
theorem strL_size (l : List UInt8) : (⟨l.toArray⟩ : ByteArray).size = l.length := by show l.toArray.size = _; simp
structure TxS where
  d : Fo
  r : Fo
theorem treeText_ok (f : Fo) (n : Int) (hs : f.sz ≤ 40) : Ct Try.prog 89 [.rptr (.agg [.int .i64 n, .sl false (Fo.els f)]) 0] [] (strL (shT f)) [] := by
  have hfl := len_sz f
  obtain ⟨fs, u1, u2⟩ := strU (P := Try.prog) (t := 137) (by kernel_rfl)
  have u3 : Value.oneCell' (Value.pointer none) = true := rfl
  have u5 : Value.oneCell' (Value.slice none 0 0) = true := rfl
  have u4 : List.map absV #[Value.pointer none, Value.slice none 0 0].toList = [.lit (.pointer none), .lit (.slice none 0 0)] := rfl
  refine Ct.by_ hmix [] Try.func89 rfl ?_
  simp only [run0, run1, run2, run3, run4, run5, run6, run7, run8, run9, run10, run11, run12, run13, run14, run15, run16, run17, run18, run19, run20, run21, run22, reduceCtorEq, Nat.reduceEqDiff, Nat.reduceAdd, Nat.reduceSub, Nat.reduceLeDiff, indexAddrA, indexRefA, appendA, strA, Nat.reduceMul, Nat.zero_mul, Nat.reduceMod, Int.reduceEq, Int.reduceLT, Int.reduceLE, Nat.reduceLT, Nat.lt_irrefl, Nat.reduceBEq, tys0, tys1, tys2, tys3, tys4, tys5, tys6, tys7, tys8, tys9, tys10, tys11, tys12, tys13, tys14, tys15, tys16, tys17, tys18, Try.ntmps89, Try.results89, Fo.els_length, sbF, u1, u2, u3, u4, u5]
  refine RunL.callM rfl rfl ok_f117 rfl rfl (wsNew_ok _ 0 ⟨#[40]⟩ (by decide) rfl) rfl ?_
  simp only [run0, run1, run2, run3, run4, run5, run6, run7, run8, run9, run10, run11, run12, run13, run14, run15, run16, run17, run18, run19, run20, run21, run22, reduceCtorEq, Nat.reduceEqDiff, Nat.reduceAdd, Nat.reduceSub, Nat.reduceLeDiff, indexAddrA, indexRefA, appendA, strA, Nat.reduceMul, Nat.zero_mul, Nat.reduceMod, Int.reduceEq, Int.reduceLT, Int.reduceLE, Nat.reduceLT, Nat.lt_irrefl, Nat.reduceBEq, tys0, tys1, tys2, tys3, tys4, tys5, tys6, tys7, tys8, tys9, tys10, tys11, tys12, tys13, tys14, tys15, tys16, tys17, tys18, Try.ntmps89, Try.results89, Fo.els_length]
  refine AWp.loop_inv (ι := TxS) (fun p => ⟨[.rptr (.agg [.int .i64 n, .sl false (Fo.els f)]) 0, .junk, .junk, .ptr 0 0, .junk, .junk, .junk, .junk, .junk, .junk, .junk, .sl false (Fo.els f), .int .i64 f.len, .int .i64 p.d.len, .junk, .junk, .junk, .junk, .junk, .junk, .junk, .junk, .junk],
      [.box 137 [.ptr 0 0, .ref 1 [] (p.d.len + 1) (40 :: showF p.d).length], .vec 5 1 (p.d.len + 1) (bytesL (40 :: showF p.d))]⟩)
    (fun p => f = p.d.app p.r) (fun p => p.r.len) ⟨.nil, f⟩ rfl ⟨by simp only [Fo.len, Int.natCast_zero]; repeat constructor, rfl⟩ ?_
  rintro ⟨d, r⟩ ha
  refine W.sound hmix (E := []) ?_
  simp only at ha
  obtain ⟨hl, hz⟩ := fo_split f d r ha
  have hsl := showF_len d
  have hB : Bld [.box 137 [.ptr 0 0, .ref 1 [] (d.len + 1) (40 :: showF d).length], .vec 5 1 (d.len + 1) (bytesL (40 :: showF d))] 0 1 (d.len + 1) (40 :: showF d) := ⟨rfl, rfl⟩
  cases r with
  | nil =>
    have e1 : ¬ ((d.len : Int) < (f.len : Int)) := by simp [Fo.len] at hl; omega
    have hd : d = f := by rw [ha]; clear ha hl hz e1 hB hsl; induction d with
      | nil => rfl
      | cons n a b _ ih => simp only [Fo.app]; rw [← ih]
    subst hd
    simp only [run0, run1, run2, run3, run4, run5, run6, run7, run8, run9, run10, run11, run12, run13, run14, run15, run16, run17, run18, run19, run20, run21, run22, reduceCtorEq, Nat.reduceEqDiff, Nat.reduceAdd, Nat.reduceSub, Nat.reduceLeDiff, indexAddrA, indexRefA, appendA, strA, Nat.reduceMul, Nat.zero_mul, Nat.reduceMod, Int.reduceEq, Int.reduceLT, Int.reduceLE, Nat.reduceLT, Nat.lt_irrefl, Nat.reduceBEq, tys0, tys1, tys2, tys3, tys4, tys5, tys6, tys7, tys8, tys9, tys10, tys11, tys12, tys13, tys14, tys15, tys16, tys17, tys18, Try.ntmps89, Try.results89, e1]
    refine RunL.callM rfl rfl ok_f118 rfl rfl (bldString_ok _ 0 1 _ _ (by simp only [List.length_cons]; omega) (by simp) hB (by decide)) rfl ?_
    have q : (⟨(40 :: showF d).toArray⟩ : ByteArray).size + (⟨#[41]⟩ : ByteArray).size ≤ 9223372036854775807 := by
      rw [strL_size, show (⟨#[41]⟩ : ByteArray).size = 1 from rfl, List.length_cons]; omega
    simp only [run0, run1, run2, run3, run4, run5, run6, run7, run8, run9, run10, run11, run12, run13, run14, run15, run16, run17, run18, run19, run20, run21, run22, reduceCtorEq, Nat.reduceEqDiff, Nat.reduceAdd, Nat.reduceSub, Nat.reduceLeDiff, indexAddrA, indexRefA, appendA, strA, Nat.reduceMul, Nat.zero_mul, Nat.reduceMod, Int.reduceEq, Int.reduceLT, Int.reduceLE, Nat.reduceLT, Nat.lt_irrefl, Nat.reduceBEq, tys0, tys1, tys2, tys3, tys4, tys5, tys6, tys7, tys8, tys9, tys10, tys11, tys12, tys13, tys14, tys15, tys16, tys17, tys18, Try.ntmps89, Try.results89, strL_app, q]
    exact Fin.eq rfl rfl
  | cons k ch r =>
    simp only [Fo.len, Fo.sz] at hl hz
    have e1 : (d.len : Int) < (f.len : Int) := by omega
    have e2 : (Fo.els f)[d.len]? = some (.rptr (.agg [.int .i64 k, .sl false (Fo.els ch)]) 0) := by rw [ha]; exact els_at d k ch r
    have e5 : IntKind.i64.wrap ((d.len : Int) + 1) = ((d.app (.cons k ch .nil)).len : Int) := by
      rw [i64_id (by omega) (by omega), Fo.len_app]; rfl
    have hrec := treeText_ok ch k (by omega)
    have hcl := shT_len ch
    simp only [run0, run1, run2, run3, run4, run5, run6, run7, run8, run9, run10, run11, run12, run13, run14, run15, run16, run17, run18, run19, run20, run21, run22, reduceCtorEq, Nat.reduceEqDiff, Nat.reduceAdd, Nat.reduceSub, Nat.reduceLeDiff, indexAddrA, indexRefA, appendA, strA, Nat.reduceMul, Nat.zero_mul, Nat.reduceMod, Int.reduceEq, Int.reduceLT, Int.reduceLE, Nat.reduceLT, Nat.lt_irrefl, Nat.reduceBEq, tys0, tys1, tys2, tys3, tys4, tys5, tys6, tys7, tys8, tys9, tys10, tys11, tys12, tys13, tys14, tys15, tys16, tys17, tys18, Try.ntmps89, Try.results89, e1, e2, Int.toNat_natCast, Int.natCast_nonneg]
    refine RunL.callp rfl rfl ok_f89 hrec (by simp only [pureL, pureB, Fo.els_pure, Bool.and_self, Bool.and_true, Bool.true_and]) rfl ?_
    simp only [run0, run1, run2, run3, run4, run5, run6, run7, run8, run9, run10, run11, run12, run13, run14, run15, run16, run17, run18, run19, run20, run21, run22, reduceCtorEq, Nat.reduceEqDiff, Nat.reduceAdd, Nat.reduceSub, Nat.reduceLeDiff, indexAddrA, indexRefA, appendA, strA, Nat.reduceMul, Nat.zero_mul, Nat.reduceMod, Int.reduceEq, Int.reduceLT, Int.reduceLE, Nat.reduceLT, Nat.lt_irrefl, Nat.reduceBEq, tys0, tys1, tys2, tys3, tys4, tys5, tys6, tys7, tys8, tys9, tys10, tys11, tys12, tys13, tys14, tys15, tys16, tys17, tys18, Try.ntmps89, Try.results89, strL]
    refine RunL.callM rfl rfl ok_f117 rfl rfl (wsMore_ok _ 0 1 _ _ ⟨(shT ch).toArray⟩ (by simp [ByteArray.size, hcl]; omega) (by simp only [List.length_cons]; omega) hB (by decide)) rfl ?_
    simp only [run0, run1, run2, run3, run4, run5, run6, run7, run8, run9, run10, run11, run12, run13, run14, run15, run16, run17, run18, run19, run20, run21, run22, reduceCtorEq, Nat.reduceEqDiff, Nat.reduceAdd, Nat.reduceSub, Nat.reduceLeDiff, indexAddrA, indexRefA, appendA, strA, Nat.reduceMul, Nat.zero_mul, Nat.reduceMod, Int.reduceEq, Int.reduceLT, Int.reduceLE, Nat.reduceLT, Nat.lt_irrefl, Nat.reduceBEq, tys0, tys1, tys2, tys3, tys4, tys5, tys6, tys7, tys8, tys9, tys10, tys11, tys12, tys13, tys14, tys15, tys16, tys17, tys18, Try.ntmps89, Try.results89, e5]
    refine ⟨⟨d.app (.cons k ch .nil), r⟩, by rw [ha, Fo.app_assoc]; rfl, by simp [Fo.len], by repeat constructor, ?_⟩
    rw [showF_app, showF_one, Fo.len_app, show (Fo.cons k ch .nil).len = 1 from rfl, List.length_append]
termination_by f.sz
decreasing_by all_goals (subst ha; simp only [Fo.sz_app, Fo.sz]; omega)

theorem deShow_ok (P : List Int) (hp : ParOk P) (hP : P.length ≤ 40) (n j : Nat) (h1 : P.length ≤ j + n) (hj : j < P.length) : Ct Try.prog 88 [.agg [.sl false (ints P)], .int .i64 j] [] (strL (shT (fo P P.length j))) [] := by
  have hdeep : fo P P.length j = foL (fo P P.length) (kidsL P j) := by
    rw [fo_deep hp P.length j P.length (P.length + 1) (by omega) (by omega) (by omega)]; rfl
  have hsz := fo_small hp P.length j
  have hkl : (kidsTo P j P.length).length = (kidsL P j).length := by simp [kidsTo, kidsL]
  have hkn := kidsTo_len P j P.length
  have hk : kidsTo P j P.length = (kidsL P j).map Int.ofNat := rfl
  rw [hdeep] at hsz ⊢
  generalize hK : kidsL P j = K at *
  refine Ct.by_ hmix [] Try.func88 rfl ?_
  simp only [run0, run1, run2, run3, run4, run5, run6, run7, run8, run9, run10, run11, run12, run13, run14, run15, run16, run17, run18, run19, run20, run21, run22, reduceCtorEq, Nat.reduceEqDiff, Nat.reduceAdd, Nat.reduceSub, Nat.reduceLeDiff, indexAddrA, indexRefA, appendA, strA, Nat.reduceMul, Nat.zero_mul, Nat.reduceMod, Int.reduceEq, Int.reduceLT, Int.reduceLE, Nat.reduceLT, Nat.lt_irrefl, Nat.reduceBEq, tys0, tys1, tys2, tys3, tys4, tys5, tys6, tys7, tys8, tys9, tys10, tys11, tys12, tys13, tys14, tys15, tys16, tys17, tys18, Try.ntmps88, Try.results88]
  refine RunL.callp rfl rfl ok_f110 (deChildren_ok P j (by omega)) (by simp only [pureL, pureB, ints_pure, Bool.and_self, Bool.and_true, Bool.true_and]) rfl ?_
  simp only [run0, run1, run2, run3, run4, run5, run6, run7, run8, run9, run10, run11, run12, run13, run14, run15, run16, run17, run18, run19, run20, run21, run22, reduceCtorEq, Nat.reduceEqDiff, Nat.reduceAdd, Nat.reduceSub, Nat.reduceLeDiff, indexAddrA, indexRefA, appendA, strA, Nat.reduceMul, Nat.zero_mul, Nat.reduceMod, Int.reduceEq, Int.reduceLT, Int.reduceLE, Nat.reduceLT, Nat.lt_irrefl, Nat.reduceBEq, tys0, tys1, tys2, tys3, tys4, tys5, tys6, tys7, tys8, tys9, tys10, tys11, tys12, tys13, tys14, tys15, tys16, tys17, tys18, Try.ntmps88, Try.results88, List.length_map, hkl, hk]
  refine AWp.loop_inv (ι := List Nat × List Nat) (fun p => ⟨[.agg [.sl false (ints P)], .int .i64 j, .ptr 0 0, .junk, .junk, strL (40 :: showF (foL (fo P P.length) p.1)), .junk, .junk, .junk, .junk, .sl false (ints (K.map Int.ofNat)), .int .i64 K.length, .int .i64 p.1.length, .junk, .junk, .junk, .junk, .junk, .junk, .junk, .junk, .junk, .junk, .junk],
      [.box 60 [.sl false (ints P)]]⟩)
    (fun p => K = p.1 ++ p.2) (fun p => p.2.length) ⟨[], K⟩ rfl ⟨by simp only [List.length_nil, Int.natCast_zero]; repeat constructor, rfl⟩ ?_
  rintro ⟨d, r⟩ ha
  refine W.sound hmix (E := []) ?_
  simp only at ha
  have hda : d.length + r.length = K.length := by rw [ha, List.length_append]
  have hsl := showF_len (foL (fo P P.length) d)
  cases r with
  | nil =>
    have e1 : ¬ ((d.length : Int) < (K.length : Int)) := by simp at hda; omega
    rw [List.append_nil] at ha
    subst ha
    have q : (⟨(40 :: showF (foL (fo P P.length) K)).toArray⟩ : ByteArray).size + (⟨#[41]⟩ : ByteArray).size ≤ 9223372036854775807 := by
      rw [strL_size, show (⟨#[41]⟩ : ByteArray).size = 1 from rfl, List.length_cons]; omega
    simp only [run0, run1, run2, run3, run4, run5, run6, run7, run8, run9, run10, run11, run12, run13, run14, run15, run16, run17, run18, run19, run20, run21, run22, reduceCtorEq, Nat.reduceEqDiff, Nat.reduceAdd, Nat.reduceSub, Nat.reduceLeDiff, indexAddrA, indexRefA, appendA, strA, Nat.reduceMul, Nat.zero_mul, Nat.reduceMod, Int.reduceEq, Int.reduceLT, Int.reduceLE, Nat.reduceLT, Nat.lt_irrefl, Nat.reduceBEq, tys0, tys1, tys2, tys3, tys4, tys5, tys6, tys7, tys8, tys9, tys10, tys11, tys12, tys13, tys14, tys15, tys16, tys17, tys18, Try.ntmps88, Try.results88, e1, strL, strL_app, q]
    exact Fin.eq rfl rfl
  | cons c r =>
    simp only [List.length_cons] at hda
    have e1 : (d.length : Int) < (K.length : Int) := by omega
    have e2 : (ints (K.map Int.ofNat))[d.length]? = some (.int .i64 (c : Int)) := by rw [ha]; simp
    have e5 : IntKind.i64.wrap ((d.length : Int) + 1) = ((d ++ [c]).length : Int) := by rw [i64_id (by omega) (by omega)]; simp
    have hcm : c ∈ kidsL P j := by rw [hK, ha]; simp
    obtain ⟨c1, c2⟩ := kidsL_gt hp hcm
    have hz : (foL (fo P P.length) K).sz = (foL (fo P P.length) d).sz + ((fo P P.length c).sz + (foL (fo P P.length) r).sz + 1) := by
      rw [ha, foL_app, Fo.sz_app]; rfl
    rw [hz] at hsz
    have hcl := shT_len (fo P P.length c)
    have q : (⟨(40 :: showF (foL (fo P P.length) d)).toArray⟩ : ByteArray).size + (⟨(shT (fo P P.length c)).toArray⟩ : ByteArray).size ≤ 9223372036854775807 := by
      rw [strL_size, strL_size, List.length_cons]; omega
    cases n with
    | zero => omega
    | succ n =>
      have hrec := deShow_ok P hp hP n c (by omega) c2
      simp only [run0, run1, run2, run3, run4, run5, run6, run7, run8, run9, run10, run11, run12, run13, run14, run15, run16, run17, run18, run19, run20, run21, run22, reduceCtorEq, Nat.reduceEqDiff, Nat.reduceAdd, Nat.reduceSub, Nat.reduceLeDiff, indexAddrA, indexRefA, appendA, strA, Nat.reduceMul, Nat.zero_mul, Nat.reduceMod, Int.reduceEq, Int.reduceLT, Int.reduceLE, Nat.reduceLT, Nat.lt_irrefl, Nat.reduceBEq, tys0, tys1, tys2, tys3, tys4, tys5, tys6, tys7, tys8, tys9, tys10, tys11, tys12, tys13, tys14, tys15, tys16, tys17, tys18, Try.ntmps88, Try.results88, e1, e2, Int.toNat_natCast, Int.natCast_nonneg]
      refine RunL.callp rfl rfl ok_f88 hrec (by simp only [pureL, pureB, ints_pure, Bool.and_self, Bool.and_true, Bool.true_and]) rfl ?_
      simp only [run0, run1, run2, run3, run4, run5, run6, run7, run8, run9, run10, run11, run12, run13, run14, run15, run16, run17, run18, run19, run20, run21, run22, reduceCtorEq, Nat.reduceEqDiff, Nat.reduceAdd, Nat.reduceSub, Nat.reduceLeDiff, indexAddrA, indexRefA, appendA, strA, Nat.reduceMul, Nat.zero_mul, Nat.reduceMod, Int.reduceEq, Int.reduceLT, Int.reduceLE, Nat.reduceLT, Nat.lt_irrefl, Nat.reduceBEq, tys0, tys1, tys2, tys3, tys4, tys5, tys6, tys7, tys8, tys9, tys10, tys11, tys12, tys13, tys14, tys15, tys16, tys17, tys18, Try.ntmps88, Try.results88, strL, strL_app, q, e5]
      refine ⟨(d ++ [c], r), by rw [ha]; simp, by simp, ?_⟩
      simp only [foL_app, showF_app, foL, showF_one, List.length_append, List.length_cons, List.length_nil, strL, List.cons_append]
      repeat constructor
termination_by n

def htx (P : List Int) : AV := .tup [strL (if hydB P then shT (fo P P.length 0) else []), .bool (hydB P)]
theorem implText_ok (P : List Int) (hP : P.length ≤ 1048576) : Ct Try.prog 44 [hyA P] [] (htx P) [] := by
  have pP := hyA_pure P
  simp only [hyA] at pP
  refine Ct.by_ hmix [] Try.func44 rfl ?_
  simp only [run0, run1, run2, run3, run4, run5, run6, run7, run8, run9, run10, run11, run12, run13, run14, run15, run16, run17, run18, run19, run20, run21, run22, reduceCtorEq, Nat.reduceEqDiff, Nat.reduceAdd, Nat.reduceSub, Nat.reduceLeDiff, indexAddrA, indexRefA, appendA, strA, Nat.reduceMul, Nat.zero_mul, Nat.reduceMod, Int.reduceEq, Int.reduceLT, Int.reduceLE, Nat.reduceLT, Nat.lt_irrefl, Nat.reduceBEq, tys0, tys1, tys2, tys3, tys4, tys5, tys6, tys7, tys8, tys9, tys10, tys11, tys12, tys13, tys14, tys15, tys16, tys17, tys18, Try.ntmps44, Try.results44, hyA]
  refine RunL.callp rfl rfl ok_f79 (implHydra_ok P hP) (by simp only [pureL, pP, Bool.and_self]) rfl ?_
  cases h1 : hydB P
  · simp only [run0, run1, run2, run3, run4, run5, run6, run7, run8, run9, run10, run11, run12, run13, run14, run15, run16, run17, run18, run19, run20, run21, run22, reduceCtorEq, Nat.reduceEqDiff, Nat.reduceAdd, Nat.reduceSub, Nat.reduceLeDiff, indexAddrA, indexRefA, appendA, strA, Nat.reduceMul, Nat.zero_mul, Nat.reduceMod, Int.reduceEq, Int.reduceLT, Int.reduceLE, Nat.reduceLT, Nat.lt_irrefl, Nat.reduceBEq, tys0, tys1, tys2, tys3, tys4, tys5, tys6, tys7, tys8, tys9, tys10, tys11, tys12, tys13, tys14, tys15, tys16, tys17, tys18, Try.ntmps44, Try.results44]
    exact Fin.eq (by simp [htx, strL, h1]) rfl
  have n1 := nodeV0 P h1
  obtain ⟨a1, a2, a3⟩ := ordH_sz h1
  simp only [run0, run1, run2, run3, run4, run5, run6, run7, run8, run9, run10, run11, run12, run13, run14, run15, run16, run17, run18, run19, run20, run21, run22, reduceCtorEq, Nat.reduceEqDiff, Nat.reduceAdd, Nat.reduceSub, Nat.reduceLeDiff, indexAddrA, indexRefA, appendA, strA, Nat.reduceMul, Nat.zero_mul, Nat.reduceMod, Int.reduceEq, Int.reduceLT, Int.reduceLE, Nat.reduceLT, Nat.lt_irrefl, Nat.reduceBEq, tys0, tys1, tys2, tys3, tys4, tys5, tys6, tys7, tys8, tys9, tys10, tys11, tys12, tys13, tys14, tys15, tys16, tys17, tys18, Try.ntmps44, Try.results44]
  refine RunL.callp rfl rfl ok_f80 (treeOf_ok P h1) (by simp only [pureL, pP, Bool.and_self]) rfl ?_
  simp only [run0, run1, run2, run3, run4, run5, run6, run7, run8, run9, run10, run11, run12, run13, run14, run15, run16, run17, run18, run19, run20, run21, run22, reduceCtorEq, Nat.reduceEqDiff, Nat.reduceAdd, Nat.reduceSub, Nat.reduceLeDiff, indexAddrA, indexRefA, appendA, strA, Nat.reduceMul, Nat.zero_mul, Nat.reduceMod, Int.reduceEq, Int.reduceLT, Int.reduceLE, Nat.reduceLT, Nat.lt_irrefl, Nat.reduceBEq, tys0, tys1, tys2, tys3, tys4, tys5, tys6, tys7, tys8, tys9, tys10, tys11, tys12, tys13, tys14, tys15, tys16, tys17, tys18, Try.ntmps44, Try.results44, n1, Int.toNat_zero, Int.le_refl]
  refine RunL.callp rfl rfl ok_f89 (treeText_ok _ 0 a3) (by simp only [pureL, pureB, Fo.els_pure, Bool.and_self, Bool.and_true, Bool.true_and]) rfl ?_
  simp only [run0, run1, run2, run3, run4, run5, run6, run7, run8, run9, run10, run11, run12, run13, run14, run15, run16, run17, run18, run19, run20, run21, run22, reduceCtorEq, Nat.reduceEqDiff, Nat.reduceAdd, Nat.reduceSub, Nat.reduceLeDiff, indexAddrA, indexRefA, appendA, strA, Nat.reduceMul, Nat.zero_mul, Nat.reduceMod, Int.reduceEq, Int.reduceLT, Int.reduceLE, Nat.reduceLT, Nat.lt_irrefl, Nat.reduceBEq, tys0, tys1, tys2, tys3, tys4, tys5, tys6, tys7, tys8, tys9, tys10, tys11, tys12, tys13, tys14, tys15, tys16, tys17, tys18, Try.ntmps44, Try.results44, strL]
  exact Fin.eq (by simp [htx, strL, h1]) rfl

theorem specText_ok (P : List Int) (hP : P.length ≤ 1048576) : Ct Try.prog 43 [hyA P] [] (htx P) [] := by
  have pP := hyA_pure P
  simp only [hyA] at pP
  refine Ct.by_ hmix [] Try.func43 rfl ?_
  simp only [run0, run1, run2, run3, run4, run5, run6, run7, run8, run9, run10, run11, run12, run13, run14, run15, run16, run17, run18, run19, run20, run21, run22, reduceCtorEq, Nat.reduceEqDiff, Nat.reduceAdd, Nat.reduceSub, Nat.reduceLeDiff, indexAddrA, indexRefA, appendA, strA, Nat.reduceMul, Nat.zero_mul, Nat.reduceMod, Int.reduceEq, Int.reduceLT, Int.reduceLE, Nat.reduceLT, Nat.lt_irrefl, Nat.reduceBEq, tys0, tys1, tys2, tys3, tys4, tys5, tys6, tys7, tys8, tys9, tys10, tys11, tys12, tys13, tys14, tys15, tys16, tys17, tys18, Try.ntmps43, Try.results43, hyA]
  refine RunL.callp rfl rfl ok_f76 (specHydra_ok P hP) (by simp only [pureL, pP, Bool.and_self]) rfl ?_
  cases h1 : hydB P
  · simp only [run0, run1, run2, run3, run4, run5, run6, run7, run8, run9, run10, run11, run12, run13, run14, run15, run16, run17, run18, run19, run20, run21, run22, reduceCtorEq, Nat.reduceEqDiff, Nat.reduceAdd, Nat.reduceSub, Nat.reduceLeDiff, indexAddrA, indexRefA, appendA, strA, Nat.reduceMul, Nat.zero_mul, Nat.reduceMod, Int.reduceEq, Int.reduceLT, Int.reduceLE, Nat.reduceLT, Nat.lt_irrefl, Nat.reduceBEq, tys0, tys1, tys2, tys3, tys4, tys5, tys6, tys7, tys8, tys9, tys10, tys11, tys12, tys13, tys14, tys15, tys16, tys17, tys18, Try.ntmps43, Try.results43]
    exact Fin.eq (by simp [htx, strL, h1]) rfl
  have l1 := hyd_len h1
  simp only [run0, run1, run2, run3, run4, run5, run6, run7, run8, run9, run10, run11, run12, run13, run14, run15, run16, run17, run18, run19, run20, run21, run22, reduceCtorEq, Nat.reduceEqDiff, Nat.reduceAdd, Nat.reduceSub, Nat.reduceLeDiff, indexAddrA, indexRefA, appendA, strA, Nat.reduceMul, Nat.zero_mul, Nat.reduceMod, Int.reduceEq, Int.reduceLT, Int.reduceLE, Nat.reduceLT, Nat.lt_irrefl, Nat.reduceBEq, tys0, tys1, tys2, tys3, tys4, tys5, tys6, tys7, tys8, tys9, tys10, tys11, tys12, tys13, tys14, tys15, tys16, tys17, tys18, Try.ntmps43, Try.results43]
  refine RunL.callp rfl rfl ok_f88 (deShow_ok P (hydB_par h1).1 (hydB_par h1).2 P.length 0 (by omega) (by omega)) (by simp only [pureL, pureB, ints_pure, Bool.and_self]) rfl ?_
  simp only [run0, run1, run2, run3, run4, run5, run6, run7, run8, run9, run10, run11, run12, run13, run14, run15, run16, run17, run18, run19, run20, run21, run22, reduceCtorEq, Nat.reduceEqDiff, Nat.reduceAdd, Nat.reduceSub, Nat.reduceLeDiff, indexAddrA, indexRefA, appendA, strA, Nat.reduceMul, Nat.zero_mul, Nat.reduceMod, Int.reduceEq, Int.reduceLT, Int.reduceLE, Nat.reduceLT, Nat.lt_irrefl, Nat.reduceBEq, tys0, tys1, tys2, tys3, tys4, tys5, tys6, tys7, tys8, tys9, tys10, tys11, tys12, tys13, tys14, tys15, tys16, tys17, tys18, Try.ntmps43, Try.results43, strL]
  exact Fin.eq (by simp [htx, strL, h1]) rfl

theorem FnExactHydraText_ok {a0 : AV} (h0 : IsOf Try.prog 57 a0) : Ct Try.prog 10 [a0] [] (.bool true) [] := by
  obtain ⟨P, rfl, hP⟩ := laws_isHy h0
  have pP := hyA_pure P
  refine Ct.by_ hmix [] Try.func10 rfl ?_
  simp only [run0, run1, run2, run3, run4, run5, run6, run7, run8, run9, run10, run11, run12, run13, run14, run15, run16, run17, run18, run19, run20, run21, run22, reduceCtorEq, Nat.reduceEqDiff, Nat.reduceAdd, Nat.reduceSub, Nat.reduceLeDiff, indexAddrA, indexRefA, appendA, strA, Nat.reduceMul, Nat.zero_mul, Nat.reduceMod, Int.reduceEq, Int.reduceLT, Int.reduceLE, Nat.reduceLT, Nat.lt_irrefl, Nat.reduceBEq, tys0, tys1, tys2, tys3, tys4, tys5, tys6, tys7, tys8, tys9, tys10, tys11, tys12, tys13, tys14, tys15, tys16, tys17, tys18, Try.ntmps10, Try.results10, hyA]
  refine RunL.callp rfl rfl ok_f34 (szHydra_ok P 1048576 hP (by omega) (by omega)) (by simp only [pureL, pureB, pP, Bool.and_self]) rfl ?_
  rcases szN_spec P.length 1048576 with ⟨g1, g2⟩ | ⟨g1, g2⟩
  case inr =>
    have e1 : szN P.length 1048576 < 0 := by omega
    simp only [run0, run1, run2, run3, run4, run5, run6, run7, run8, run9, run10, run11, run12, run13, run14, run15, run16, run17, run18, run19, run20, run21, run22, reduceCtorEq, Nat.reduceEqDiff, Nat.reduceAdd, Nat.reduceSub, Nat.reduceLeDiff, indexAddrA, indexRefA, appendA, strA, Nat.reduceMul, Nat.zero_mul, Nat.reduceMod, Int.reduceEq, Int.reduceLT, Int.reduceLE, Nat.reduceLT, Nat.lt_irrefl, Nat.reduceBEq, tys0, tys1, tys2, tys3, tys4, tys5, tys6, tys7, tys8, tys9, tys10, tys11, tys12, tys13, tys14, tys15, tys16, tys17, tys18, Try.ntmps10, Try.results10, e1]
    exact Fin.eq rfl rfl
  have e1 : ¬ szN P.length 1048576 < 0 := by omega
  have lP : P.length ≤ 1048576 := by omega
  simp only [run0, run1, run2, run3, run4, run5, run6, run7, run8, run9, run10, run11, run12, run13, run14, run15, run16, run17, run18, run19, run20, run21, run22, reduceCtorEq, Nat.reduceEqDiff, Nat.reduceAdd, Nat.reduceSub, Nat.reduceLeDiff, indexAddrA, indexRefA, appendA, strA, Nat.reduceMul, Nat.zero_mul, Nat.reduceMod, Int.reduceEq, Int.reduceLT, Int.reduceLE, Nat.reduceLT, Nat.lt_irrefl, Nat.reduceBEq, tys0, tys1, tys2, tys3, tys4, tys5, tys6, tys7, tys8, tys9, tys10, tys11, tys12, tys13, tys14, tys15, tys16, tys17, tys18, Try.ntmps10, Try.results10, e1]
  refine RunL.callp rfl rfl ok_f36 (toHydra_ok P lP) (by simp only [pureL, pureB, pP, Bool.and_self]) rfl ?_
  simp only [run0, run1, run2, run3, run4, run5, run6, run7, run8, run9, run10, run11, run12, run13, run14, run15, run16, run17, run18, run19, run20, run21, run22, reduceCtorEq, Nat.reduceEqDiff, Nat.reduceAdd, Nat.reduceSub, Nat.reduceLeDiff, indexAddrA, indexRefA, appendA, strA, Nat.reduceMul, Nat.zero_mul, Nat.reduceMod, Int.reduceEq, Int.reduceLT, Int.reduceLE, Nat.reduceLT, Nat.lt_irrefl, Nat.reduceBEq, tys0, tys1, tys2, tys3, tys4, tys5, tys6, tys7, tys8, tys9, tys10, tys11, tys12, tys13, tys14, tys15, tys16, tys17, tys18, Try.ntmps10, Try.results10, hyA]
  refine RunL.callp rfl rfl ok_f43 (specText_ok P lP) (by simp only [pureL, pP, Bool.and_self]) rfl ?_
  simp only [run0, run1, run2, run3, run4, run5, run6, run7, run8, run9, run10, run11, run12, run13, run14, run15, run16, run17, run18, run19, run20, run21, run22, reduceCtorEq, Nat.reduceEqDiff, Nat.reduceAdd, Nat.reduceSub, Nat.reduceLeDiff, indexAddrA, indexRefA, appendA, strA, Nat.reduceMul, Nat.zero_mul, Nat.reduceMod, Int.reduceEq, Int.reduceLT, Int.reduceLE, Nat.reduceLT, Nat.lt_irrefl, Nat.reduceBEq, tys0, tys1, tys2, tys3, tys4, tys5, tys6, tys7, tys8, tys9, tys10, tys11, tys12, tys13, tys14, tys15, tys16, tys17, tys18, Try.ntmps10, Try.results10, hyA, htx, strL]
  refine RunL.callp rfl rfl ok_f36 (toHydra_ok P lP) (by simp only [pureL, pureB, pP, Bool.and_self]) rfl ?_
  simp only [run0, run1, run2, run3, run4, run5, run6, run7, run8, run9, run10, run11, run12, run13, run14, run15, run16, run17, run18, run19, run20, run21, run22, reduceCtorEq, Nat.reduceEqDiff, Nat.reduceAdd, Nat.reduceSub, Nat.reduceLeDiff, indexAddrA, indexRefA, appendA, strA, Nat.reduceMul, Nat.zero_mul, Nat.reduceMod, Int.reduceEq, Int.reduceLT, Int.reduceLE, Nat.reduceLT, Nat.lt_irrefl, Nat.reduceBEq, tys0, tys1, tys2, tys3, tys4, tys5, tys6, tys7, tys8, tys9, tys10, tys11, tys12, tys13, tys14, tys15, tys16, tys17, tys18, Try.ntmps10, Try.results10, hyA]
  refine RunL.callp rfl rfl ok_f44 (implText_ok P lP) (by simp only [pureL, pP, Bool.and_self]) rfl ?_
  simp only [run0, run1, run2, run3, run4, run5, run6, run7, run8, run9, run10, run11, run12, run13, run14, run15, run16, run17, run18, run19, run20, run21, run22, reduceCtorEq, Nat.reduceEqDiff, Nat.reduceAdd, Nat.reduceSub, Nat.reduceLeDiff, indexAddrA, indexRefA, appendA, strA, Nat.reduceMul, Nat.zero_mul, Nat.reduceMod, Int.reduceEq, Int.reduceLT, Int.reduceLE, Nat.reduceLT, Nat.lt_irrefl, Nat.reduceBEq, tys0, tys1, tys2, tys3, tys4, tys5, tys6, tys7, tys8, tys9, tys10, tys11, tys12, tys13, tys14, tys15, tys16, tys17, tys18, Try.ntmps10, Try.results10, hyA, htx, strL, bne_self_eq_false]
  refine ⟨by kernel_rfl, ?_⟩
  refine RunL.callp rfl rfl ok_f36 (toHydra_ok P lP) (by simp only [pureL, pureB, pP, Bool.and_self]) rfl ?_
  simp only [run0, run1, run2, run3, run4, run5, run6, run7, run8, run9, run10, run11, run12, run13, run14, run15, run16, run17, run18, run19, run20, run21, run22, reduceCtorEq, Nat.reduceEqDiff, Nat.reduceAdd, Nat.reduceSub, Nat.reduceLeDiff, indexAddrA, indexRefA, appendA, strA, Nat.reduceMul, Nat.zero_mul, Nat.reduceMod, Int.reduceEq, Int.reduceLT, Int.reduceLE, Nat.reduceLT, Nat.lt_irrefl, Nat.reduceBEq, tys0, tys1, tys2, tys3, tys4, tys5, tys6, tys7, tys8, tys9, tys10, tys11, tys12, tys13, tys14, tys15, tys16, tys17, tys18, Try.ntmps10, Try.results10, hyA]
  refine RunL.callp rfl rfl ok_f38 (eqHydra_ok P lP) (by simp only [pureL, pP, Bool.and_self]) rfl ?_
  simp only [run0, run1, run2, run3, run4, run5, run6, run7, run8, run9, run10, run11, run12, run13, run14, run15, run16, run17, run18, run19, run20, run21, run22, reduceCtorEq, Nat.reduceEqDiff, Nat.reduceAdd, Nat.reduceSub, Nat.reduceLeDiff, indexAddrA, indexRefA, appendA, strA, Nat.reduceMul, Nat.zero_mul, Nat.reduceMod, Int.reduceEq, Int.reduceLT, Int.reduceLE, Nat.reduceLT, Nat.lt_irrefl, Nat.reduceBEq, tys0, tys1, tys2, tys3, tys4, tys5, tys6, tys7, tys8, tys9, tys10, tys11, tys12, tys13, tys14, tys15, tys16, tys17, tys18, Try.ntmps10, Try.results10]
  exact Fin.eq rfl rfl

end Go.Proofs.Ytphmkhaboghagaa
/-
  Hydras read from text: what a text's state is (plain law).
-/
namespace Go.Proofs.Ytphmkhaboghagaa
open Go K Od
set_option linter.unusedSimpArgs false
set_option linter.unusedVariables false
set_option maxHeartbeats 1600000
set_option maxRecDepth 8000

abbrev Fk (P : List Int) : Nat → Fo := fo P P.length
theorem fo_open {P : List Int} (hp : ParOk P) {j : Nat} (hj : j < P.length) : Fk P j = foL (Fk P) (kidsL P j) := by
  show fo P P.length j = _
  rw [fo_deep hp P.length j P.length (P.length + 1) (by omega) (by omega) (by omega)]; rfl
/-- The open nodes below 'b', from the deepest up: each is where the one before hangs, as the last. -/
def ChP (P : List Int) : Nat → List Nat → Prop
  | b, [] => b = 0 ∧ P[b]? = some (-1)
  | b, a :: r => P[b]? = some (a : Int) ∧ a < b ∧ (∀ c, P[c]? = some (a : Int) → c ≤ b) ∧ ChP P a r
theorem ChP.lt {P : List Int} : ∀ {b : Nat} {r : List Nat}, ChP P b r → b < P.length
  | b, [], h => (List.getElem?_eq_some_iff.1 h.2).1
  | b, a :: r, h => (List.getElem?_eq_some_iff.1 h.1).1
theorem ChP.mem {P : List Int} : ∀ {b : Nat} {r : List Nat}, ChP P b r → ∀ x ∈ r, x < b
  | b, [], h, x, hx => by cases hx
  | b, a :: r, h, x, hx => by
    rcases List.mem_cons.1 hx with rfl | hx
    · exact h.2.1
    · have := h.2.2.2.mem x hx; have := h.2.1; omega
theorem ChP.closed {P : List Int} : ∀ {b : Nat} {r : List Nat}, ChP P b r → ∀ c ∈ b :: r, ∀ x : Nat, P[c]? = some (x : Int) → x ∈ b :: r
  | b, [], h, c, hc, x, hx => by
    simp at hc; subst hc; rw [h.2] at hx; simp at hx
  | b, a :: r, h, c, hc, x, hx => by
    rcases List.mem_cons.1 hc with rfl | hc
    · rw [h.1] at hx; simp at hx; simp; omega
    · exact List.mem_cons_of_mem _ (h.2.2.2.closed c hc x hx)
/-- The text so far, the nodes 'r' being open and all that hangs there below 'b' being written. -/
def ot (P : List Int) : Nat → List Nat → List UInt8
  | _, [] => []
  | b, a :: r => ot P a r ++ 40 :: showF (foL (Fk P) ((kidsL P a).filter (· < b)))
theorem kids_top (P : List Int) (a : Nat) : (kidsL P a).filter (· < P.length) = kidsL P a := List.filter_eq_self.2 fun c hc => by simp [kidsL_lt hc]
theorem kids_last {P : List Int} {a b : Nat} (h : P[a]? = some (b : Int)) (hm : ∀ c, P[c]? = some (b : Int) → c ≤ a) : kidsL P b = (kidsL P b).filter (· < a) ++ [a] := by
  have hlt := (List.getElem?_eq_some_iff.1 h).1
  have e : kidsL P b = ((List.range a).filter fun c => P[c]? == some (b : Int)) ++ [a] := by
    unfold kidsL
    rw [show P.length = (a + 1) + (P.length - (a + 1)) by omega, List.range_add, List.filter_append, List.range_succ, List.filter_append]
    have e1 : [a].filter (fun c => P[c]? == some (b : Int)) = [a] := by simp [h]
    have e2 : (List.map (fun x => a + 1 + x) (List.range (P.length - (a + 1)))).filter (fun c => P[c]? == some (b : Int)) = [] := by
      refine List.filter_eq_nil_iff.2 fun c hc hx => ?_
      obtain ⟨x, _, rfl⟩ := List.mem_map.1 hc
      have := hm _ (by simpa using hx)
      omega
    rw [e1, e2, List.append_nil]
  have e3 : (kidsL P b).filter (· < a) = ((List.range a).filter fun c => P[c]? == some (b : Int)) := by
    rw [e, List.filter_append]
    have f1 : [a].filter (· < a) = [] := by simp
    rw [f1, List.append_nil]
    refine List.filter_eq_self.2 fun c hc => ?_
    have := List.mem_range.1 (List.mem_filter.1 hc).1
    simpa using this
  rw [e3]; exact e

theorem ot_close {P : List Int} (hp : ParOk P) {a b : Nat} {r : List Nat} (h : ChP P a (b :: r)) : ot P P.length (b :: r) = ot P P.length (a :: b :: r) ++ [41] := by
  have hk := kids_last h.1 h.2.2.1
  have hd := fo_open hp h.lt
  show ot P b r ++ 40 :: showF (foL (Fk P) ((kidsL P b).filter (· < P.length))) = (ot P b r ++ 40 :: showF (foL (Fk P) ((kidsL P b).filter (· < a)))) ++ 40 :: showF (foL (Fk P) ((kidsL P a).filter (· < P.length))) ++ [41]
  rw [kids_top, kids_top]
  generalize hX : (kidsL P b).filter (· < a) = X at *
  rw [hk, foL_app, showF_app]
  show ot P b r ++ 40 :: (showF (foL (Fk P) X) ++ showF (.cons a (Fk P a) .nil)) = _
  rw [showF_one, shT, hd]
  simp
theorem ot_root {P : List Int} (hp : ParOk P) {a : Nat} (h : ChP P a []) : shT (Fk P 0) = ot P P.length [a] ++ [41] := by
  obtain ⟨rfl, h2⟩ := h
  have hd := fo_open hp (j := 0) (List.getElem?_eq_some_iff.1 h2).1
  show _ = ([] ++ 40 :: showF (foL (Fk P) ((kidsL P 0).filter (· < P.length)))) ++ [41]
  rw [kids_top, shT, hd]; simp
theorem ot_all {P : List Int} (hp : ParOk P) : ∀ {a : Nat} {r : List Nat}, ChP P a r → (shT (Fk P 0)).length = (ot P P.length (a :: r)).length + (r.length + 1)
  | a, [], h => by rw [ot_root hp h]; simp
  | a, b :: r, h => by
    have := ot_all hp h.2.2.2
    rw [ot_close hp h] at this
    simp at this ⊢
    omega

/-! ### one more node -/
theorem par_snoc {P : List Int} (hp : ParOk P) {x : Int} (h1 : -1 ≤ x) (h2 : x < P.length) : ParOk (P ++ [x]) := fun c y hc => by
  rcases Nat.lt_trichotomy c P.length with h | h | h
  · rw [List.getElem?_append_left h] at hc; exact hp c y hc
  · subst h; simp at hc; subst hc; exact ⟨h1, h2⟩
  · rw [List.getElem?_eq_none (by simp; omega)] at hc; cases hc
theorem fo_keep {P : List Int} {a : Nat} {S : List Nat} (ha : a ∈ S) (hS : ∀ c ∈ S, ∀ x : Nat, P[c]? = some (x : Int) → x ∈ S) : ∀ (k j : Nat), j ∉ S → fo (P ++ [(a : Int)]) k j = fo P k j
  | 0, j, _ => rfl
  | k + 1, j, hj => by
    have hne : ¬ ((a : Int) = (j : Int)) := fun h => hj (by rw [← Int.ofNat.inj h]; exact ha)
    show foL (fo (P ++ [(a : Int)]) k) (kidsL (P ++ [(a : Int)]) j) = foL (fo P k) (kidsL P j)
    rw [kidsL_snoc, if_neg hne, List.append_nil]
    have hl : ∀ c ∈ kidsL P j, fo (P ++ [(a : Int)]) k c = fo P k c := fun c hc => fo_keep ha hS k c fun hcs => hj (hS c hcs j (by
      have := (List.mem_filter.1 hc).2; simpa using this))
    generalize kidsL P j = l at hl
    induction l with
    | nil => rfl
    | cons c l ih => simp only [foL]; rw [hl c (List.mem_cons_self ..), ih fun d hd => hl d (List.mem_cons_of_mem _ hd)]
theorem foL_congr {f g : Nat → Fo} : ∀ {l : List Nat}, (∀ c ∈ l, f c = g c) → foL f l = foL g l
  | [], _ => rfl
  | c :: l, h => by simp only [foL]; rw [h c (List.mem_cons_self ..), foL_congr fun d hd => h d (List.mem_cons_of_mem _ hd)]
theorem Fk_keep {P : List Int} (hp : ParOk P) {a : Nat} {S : List Nat} (ha : a ∈ S) (hS : ∀ c ∈ S, ∀ x : Nat, P[c]? = some (x : Int) → x ∈ S) {c : Nat} (hc : c ∉ S) : Fk (P ++ [(a : Int)]) c = Fk P c := by
  show fo (P ++ [(a : Int)]) (P ++ [(a : Int)]).length c = fo P P.length c
  rw [fo_keep ha hS _ _ hc]
  exact fo_deep hp P.length c _ _ (by omega) (by simp; omega) (by omega)
theorem ot_keep {P : List Int} (hp : ParOk P) {a : Nat} {S : List Nat} (ha : a ∈ S) (hS : ∀ c ∈ S, ∀ x : Nat, P[c]? = some (x : Int) → x ∈ S) : ∀ {b : Nat} {r : List Nat}, ChP P b r → (∀ y ∈ S, b ≤ y ∨ y ∈ r) → ot (P ++ [(a : Int)]) b r = ot P b r
  | b, [], _, _ => rfl
  | b, x :: r, h, hb => by
    have hlt := h.lt
    show ot (P ++ [(a : Int)]) x r ++ 40 :: showF (foL (Fk (P ++ [(a : Int)])) ((kidsL (P ++ [(a : Int)]) x).filter (· < b))) = ot P x r ++ 40 :: showF (foL (Fk P) ((kidsL P x).filter (· < b)))
    rw [ot_keep hp ha hS h.2.2.2 fun y hy => by
      rcases hb y hy with h1 | h1
      · have := h.2.1; exact .inl (by omega)
      · rcases List.mem_cons.1 h1 with rfl | h1
        · exact .inl (Nat.le_refl _)
        · exact .inr h1]
    have hk : (kidsL (P ++ [(a : Int)]) x).filter (· < b) = (kidsL P x).filter (· < b) := by
      rw [kidsL_snoc, List.filter_append]
      have : (if (a : Int) = (x : Int) then [P.length] else []).filter (· < b) = [] := by
        split
        · have : ¬ P.length < b := by omega
          simp [this]
        · rfl
      rw [this, List.append_nil]
    rw [hk, foL_congr fun c hc => Fk_keep hp ha hS fun hcs => ?_]
    have h1 := (List.mem_filter.1 hc)
    have h2 := (kidsL_gt hp h1.1).1
    have h3 : c < b := by simpa using h1.2
    rcases hb c hcs with h4 | h4
    · omega
    · rcases List.mem_cons.1 h4 with rfl | h4
      · omega
      · have := h.2.2.2.mem c h4; omega
theorem ChP.snoc {P : List Int} {a : Nat} : ∀ {b : Nat} {r : List Nat}, ChP P b r → b ≤ a → ChP (P ++ [(a : Int)]) b r
  | b, [], h, _ => ⟨h.1, by rw [List.getElem?_append_left (List.getElem?_eq_some_iff.1 h.2).1]; exact h.2⟩
  | b, x :: r, h, hb => ⟨by rw [List.getElem?_append_left h.lt]; exact h.1, h.2.1, (fun c hc => by
      have hx := h.2.1
      rcases Nat.lt_trichotomy c P.length with h1 | h1 | h1
      · rw [List.getElem?_append_left h1] at hc; exact h.2.2.1 c hc
      · subst h1; simp at hc; omega
      · rw [List.getElem?_eq_none (by simp; omega)] at hc; cases hc), h.2.2.2.snoc (by have := h.2.1; omega)⟩
theorem ChP.push {P : List Int} {a : Nat} {r : List Nat} (h : ChP P a r) : ChP (P ++ [(a : Int)]) P.length (a :: r) :=
  ⟨by simp, h.lt, fun c hc => by have := (List.getElem?_eq_some_iff.1 hc).1; simp at this; omega, h.snoc (Nat.le_refl _)⟩
theorem ot_push {P : List Int} (hp : ParOk P) {a : Nat} {r : List Nat} (h : ChP P a r) : ot (P ++ [(a : Int)]) (P ++ [(a : Int)]).length (P.length :: a :: r) = ot P P.length (a :: r) ++ [40] := by
  have hlt := h.lt
  have hp' : ParOk (P ++ [(a : Int)]) := par_snoc hp (by omega) (by omega)
  have hS := h.closed
  have ha : a ∈ a :: r := List.mem_cons_self ..
  show (ot (P ++ [(a : Int)]) a r ++ 40 :: showF (foL (Fk (P ++ [(a : Int)])) ((kidsL (P ++ [(a : Int)]) a).filter (· < P.length)))) ++ 40 :: showF (foL (Fk (P ++ [(a : Int)])) ((kidsL (P ++ [(a : Int)]) P.length).filter (· < (P ++ [(a : Int)]).length))) = _
  have e1 : kidsL (P ++ [(a : Int)]) P.length = [] := by
    rw [kidsL_snoc, kidsL_none hp (Nat.le_refl _), if_neg (by omega)]; rfl
  have e2 : (kidsL (P ++ [(a : Int)]) a).filter (· < P.length) = kidsL P a := by
    rw [kidsL_snoc, if_pos rfl, List.filter_append, kids_top]; simp
  rw [e1, e2, ot_keep hp ha hS h fun y hy => by
    rcases List.mem_cons.1 hy with rfl | hy
    · exact .inl (Nat.le_refl _)
    · exact .inr hy]
  rw [foL_congr fun c hc => Fk_keep hp ha hS fun hcs => ?_]
  · show _ = (ot P a r ++ 40 :: showF (foL (Fk P) ((kidsL P a).filter (· < P.length)))) ++ [40]
    rw [kids_top]; simp [foL, showF]
  · have h2 := (kidsL_gt hp hc).1
    rcases List.mem_cons.1 hcs with rfl | h4
    · omega
    · have := h.mem c h4; omega

/-! ### right hydras -/
def pathE : List Int → List Int → Int → List Int
  | path, [], _ => path
  | path, p :: r, i => pathE (path.take (findI p path 0 + 1).toNat ++ [i]) r (i + 1)
theorem goodH_snoc : ∀ (path r : List Int) (a i : Int), goodH path (r ++ [a]) i = (goodH path r i && decide (0 ≤ findI a (pathE path r i) 0))
  | path, [], a, i => by simp only [List.nil_append, goodH, pathE, Bool.and_true, Bool.true_and]; rfl
  | path, p :: r, a, i => by simp only [List.cons_append, goodH, pathE, goodH_snoc _ r, Bool.and_assoc]; rfl
theorem pathE_snoc : ∀ (path r : List Int) (a i : Int), pathE path (r ++ [a]) i = (pathE path r i).take (findI a (pathE path r i) 0 + 1).toNat ++ [i + r.length]
  | path, [], a, i => by simp [pathE]
  | path, p :: r, a, i => by
    simp only [List.cons_append, pathE, pathE_snoc _ r, List.length_cons]
    rw [show i + 1 + (r.length : Int) = i + ((r.length + 1 : Nat) : Int) by omega]
abbrev up (rp : List Nat) : List Int := (rp.map Int.ofNat).reverse
def GoodP (P : List Int) (rp : List Nat) : Prop := ∃ r t, P = -1 :: r ∧ goodH [0] r 1 = true ∧ pathE [0] r 1 = up rp ++ t
theorem GoodP.pop {P : List Int} {a : Nat} {rp : List Nat} (h : GoodP P (a :: rp)) : GoodP P rp := by
  obtain ⟨r, t, h1, h2, h3⟩ := h
  exact ⟨r, (a : Int) :: t, h1, h2, by rw [h3]; simp [up]⟩
theorem GoodP.push {P : List Int} {a : Nat} {rp : List Nat} (h : GoodP P (a :: rp)) (hc : ∀ x ∈ rp, x < a) : GoodP (P ++ [(a : Int)]) (P.length :: a :: rp) := by
  obtain ⟨r, t, rfl, h2, h3⟩ := h
  have hf : findI (a : Int) (pathE [0] r 1) 0 = (rp.length : Int) := by
    rcases findI_spec (a : Int) (pathE [0] r 1) 0 with ⟨_, h4⟩ | ⟨d, r', h4, h5, h6⟩
    · exact absurd (by rw [h3]; simp [up]) h4
    · have e : up rp ++ ((a : Int) :: t) = d ++ (a : Int) :: r' := by rw [← h4, h3]; simp [up]
      have hnu : (a : Int) ∉ up rp := fun hm => by
        simp [up] at hm
        obtain ⟨x, hx, e⟩ := hm
        have := hc x hx; omega
      have : (up rp).length = d.length := by
        have aux : ∀ (u d t r' : List Int) (v : Int), v ∉ u → v ∉ d → u ++ v :: t = d ++ v :: r' → u.length = d.length := by
          intro u
          induction u with
          | nil => intro d t r' v _ hd e; cases d with
            | nil => rfl
            | cons y d => simp at e; exact absurd (by rw [e.1]; simp) hd
          | cons x u ih => intro d t r' v hu hd e; cases d with
            | nil => simp at e; exact absurd (by rw [← e.1]; simp) hu
            | cons y d =>
              simp only [List.cons_append, List.cons.injEq] at e
              have := ih d t r' v (fun hm => hu (List.mem_cons_of_mem _ hm)) (fun hm => hd (List.mem_cons_of_mem _ hm)) e.2
              simp [this]
        exact aux _ _ _ _ _ hnu h5 e
      rw [h6, ← this]; simp [up]
  refine ⟨r ++ [(a : Int)], [], rfl, by rw [goodH_snoc, h2, hf]; simp, ?_⟩
  rw [pathE_snoc, hf, h3, show ((rp.length : Int) + 1).toNat = (up (a :: rp)).length by simp [up], List.take_left]
  simp [up]; omega

end Go.Proofs.Ytphmkhaboghagaa
