/-
  Fractions: the four operations of the program and of the reference.
-/
import Derived.Test.YtolfjeedgedblaaF3
namespace Go.Proofs.Ytolfjeedgedblaa
open Go K
set_option linter.unusedSimpArgs false
set_option linter.unusedVariables false
set_option maxHeartbeats 400000

/-- What an operation gives: nothing, or the fraction of two whole numbers, if it is a right one. -/
def opR (ok : Bool) (n d : Int) : AV := .tup [fr (if ok && mkOk n d then mkN n d else 0) (if ok && mkOk n d then mkD n d else 0), .bool (ok && mkOk n d)]

theorem two_ok (a b c d : Int) (cf : FuncId) (cap : List AV) (n m : Int) (hc : goodB a b = true → goodB c d = true → Ct Try.prog cf cap [] (.tup [.int .i64 n, .int .i64 m]) [] ∧ small n m) (hp : pureL cap = true) (hf : okFn Try.prog cf = true) :
    Ct Try.prog 52 [fr a b, fr c d, .fn cf cap] [] (opR (goodB a b && goodB c d && decide (m ≠ 0)) n m) [] := by
  refine Ct.by_ hmix [] Try.func52 rfl ?_
  simp only [run0, run1, run2, run3, run4, run5, run6, run7, run8, run9, run10, run11, run12, run13, run14, run15, run16, run17, run18, run19, run20, run21, run22, reduceCtorEq, Nat.reduceEqDiff, Nat.reduceAdd, Nat.reduceSub, Nat.reduceLeDiff, indexAddrA, indexRefA, appendA, strA, Nat.reduceMul, Nat.zero_mul, Nat.reduceMod, Int.reduceEq, Int.reduceLT, Int.reduceLE, Nat.reduceLT, Nat.lt_irrefl, Nat.reduceBEq, tys0, tys1, tys2, tys3, tys4, tys5, tys6, tys7, tys8, tys9, tys10, tys11, Try.ntmps52, Try.results52, fr]
  refine RunL.callp rfl rfl ok_f48 (good_ok _ _) (by first | rfl | simp only [pureL, pureB, Bool.and_self, Bool.and_true, Bool.true_and]) rfl ?_
  simp only [run0, run1, run2, run3, run4, run5, run6, run7, run8, run9, run10, run11, run12, run13, run14, run15, run16, run17, run18, run19, run20, run21, run22, reduceCtorEq, Nat.reduceEqDiff, Nat.reduceAdd, Nat.reduceSub, Nat.reduceLeDiff, indexAddrA, indexRefA, appendA, strA, Nat.reduceMul, Nat.zero_mul, Nat.reduceMod, Int.reduceEq, Int.reduceLT, Int.reduceLE, Nat.reduceLT, Nat.lt_irrefl, Nat.reduceBEq, tys0, tys1, tys2, tys3, tys4, tys5, tys6, tys7, tys8, tys9, tys10, tys11, Try.ntmps52, Try.results52]
  refine Rg.split (fun h1 => ?_) (fun h1 => ?_) <;> simp only [run0, run1, run2, run3, run4, run5, run6, run7, run8, run9, run10, run11, run12, run13, run14, run15, run16, run17, run18, run19, run20, run21, run22, reduceCtorEq, Nat.reduceEqDiff, Nat.reduceAdd, Nat.reduceSub, Nat.reduceLeDiff, indexAddrA, indexRefA, appendA, strA, Nat.reduceMul, Nat.zero_mul, Nat.reduceMod, Int.reduceEq, Int.reduceLT, Int.reduceLE, Nat.reduceLT, Nat.lt_irrefl, Nat.reduceBEq, tys0, tys1, tys2, tys3, tys4, tys5, tys6, tys7, tys8, tys9, tys10, tys11, Try.ntmps52, Try.results52, h1]
  · refine RunL.callp rfl rfl ok_f48 (good_ok _ _) (by first | rfl | simp only [pureL, pureB, Bool.and_self, Bool.and_true, Bool.true_and]) rfl ?_
    simp only [run0, run1, run2, run3, run4, run5, run6, run7, run8, run9, run10, run11, run12, run13, run14, run15, run16, run17, run18, run19, run20, run21, run22, reduceCtorEq, Nat.reduceEqDiff, Nat.reduceAdd, Nat.reduceSub, Nat.reduceLeDiff, indexAddrA, indexRefA, appendA, strA, Nat.reduceMul, Nat.zero_mul, Nat.reduceMod, Int.reduceEq, Int.reduceLT, Int.reduceLE, Nat.reduceLT, Nat.lt_irrefl, Nat.reduceBEq, tys0, tys1, tys2, tys3, tys4, tys5, tys6, tys7, tys8, tys9, tys10, tys11, Try.ntmps52, Try.results52]
    refine Wc.split (fun h2 => ?_) (fun h2 => ?_) <;> simp only [run0, run1, run2, run3, run4, run5, run6, run7, run8, run9, run10, run11, run12, run13, run14, run15, run16, run17, run18, run19, run20, run21, run22, reduceCtorEq, Nat.reduceEqDiff, Nat.reduceAdd, Nat.reduceSub, Nat.reduceLeDiff, indexAddrA, indexRefA, appendA, strA, Nat.reduceMul, Nat.zero_mul, Nat.reduceMod, Int.reduceEq, Int.reduceLT, Int.reduceLE, Nat.reduceLT, Nat.lt_irrefl, Nat.reduceBEq, tys0, tys1, tys2, tys3, tys4, tys5, tys6, tys7, tys8, tys9, tys10, tys11, Try.ntmps52, Try.results52, h2]
    · exact Fin.eq (by simp_all [opR, fr]) rfl
    · simp at h2
      obtain ⟨hc, hs⟩ := hc h1 h2
      refine RunL.callcv rfl rfl rfl rfl hf rfl hc hp ?_
      simp only [run0, run1, run2, run3, run4, run5, run6, run7, run8, run9, run10, run11, run12, run13, run14, run15, run16, run17, run18, run19, run20, run21, run22, reduceCtorEq, Nat.reduceEqDiff, Nat.reduceAdd, Nat.reduceSub, Nat.reduceLeDiff, indexAddrA, indexRefA, appendA, strA, Nat.reduceMul, Nat.zero_mul, Nat.reduceMod, Int.reduceEq, Int.reduceLT, Int.reduceLE, Nat.reduceLT, Nat.lt_irrefl, Nat.reduceBEq, tys0, tys1, tys2, tys3, tys4, tys5, tys6, tys7, tys8, tys9, tys10, tys11, Try.ntmps52, Try.results52]
      refine RunL.callp rfl rfl ok_f76 (made_ok _ _ hs) (by first | rfl | simp only [pureL, pureB, Bool.and_self, Bool.and_true, Bool.true_and]) rfl ?_
      simp only [run0, run1, run2, run3, run4, run5, run6, run7, run8, run9, run10, run11, run12, run13, run14, run15, run16, run17, run18, run19, run20, run21, run22, reduceCtorEq, Nat.reduceEqDiff, Nat.reduceAdd, Nat.reduceSub, Nat.reduceLeDiff, indexAddrA, indexRefA, appendA, strA, Nat.reduceMul, Nat.zero_mul, Nat.reduceMod, Int.reduceEq, Int.reduceLT, Int.reduceLE, Nat.reduceLT, Nat.lt_irrefl, Nat.reduceBEq, tys0, tys1, tys2, tys3, tys4, tys5, tys6, tys7, tys8, tys9, tys10, tys11, Try.ntmps52, Try.results52, fr]
      refine Fin.eq ?_ rfl
      simp [opR, h1, h2, fr]
  · exact Fin.eq (by simp_all [opR, fr]) rfl

theorem prod_small {a b : Int} (h1 : a.natAbs ≤ 1000000) (h2 : b.natAbs ≤ 1000000) : (a * b).natAbs ≤ 1000000000000 := by
  rw [Int.natAbs_mul]
  exact Nat.mul_le_mul h1 h2
theorem good_small {n d : Int} (h : goodB n d = true) : n.natAbs ≤ 1000000 ∧ d.natAbs ≤ 1000000 ∧ d ≠ 0 := by
  have := good_range h
  omega
theorem w64_small {x : Int} (h : x.natAbs ≤ 9000000000000000000) : w64 x = x := w64_id (by omega) (by omega)

/-- The two whole numbers of a sum, a product, a difference, a quotient. -/
def addN (a b c d : Int) : Int := w64 (w64 (a * d) + w64 (c * b))
def subN (a b c d : Int) : Int := w64 (w64 (a * d) - w64 (c * b))
theorem closDiv_ok (a b c d : Int) : Ct Try.prog 53 [.rptr (.agg [.int .i64 a, .int .i64 b]) 0, .rptr (.agg [.int .i64 c, .int .i64 d]) 0] [] (.tup [.int .i64 (w64 (a * d)), .int .i64 (w64 (b * c))]) [] := by
  refine Ct.by_ hmix [] Try.func53 rfl ?_
  simp only [run0, run1, run2, run3, run4, run5, run6, run7, run8, run9, run10, run11, run12, run13, run14, run15, run16, run17, run18, run19, run20, run21, run22, reduceCtorEq, Nat.reduceEqDiff, Nat.reduceAdd, Nat.reduceSub, Nat.reduceLeDiff, indexAddrA, indexRefA, appendA, strA, Nat.reduceMul, Nat.zero_mul, Nat.reduceMod, Int.reduceEq, Int.reduceLT, Int.reduceLE, Nat.reduceLT, Nat.lt_irrefl, Nat.reduceBEq, tys0, tys1, tys2, tys3, tys4, tys5, tys6, tys7, tys8, tys9, tys10, tys11, Try.ntmps53, Try.results53]
  exact ⟨by kernel_rfl, Fin.eq rfl rfl⟩
theorem closMul_ok (a b c d : Int) : Ct Try.prog 57 [.rptr (.agg [.int .i64 a, .int .i64 b]) 0, .rptr (.agg [.int .i64 c, .int .i64 d]) 0] [] (.tup [.int .i64 (w64 (a * c)), .int .i64 (w64 (b * d))]) [] := by
  refine Ct.by_ hmix [] Try.func57 rfl ?_
  simp only [run0, run1, run2, run3, run4, run5, run6, run7, run8, run9, run10, run11, run12, run13, run14, run15, run16, run17, run18, run19, run20, run21, run22, reduceCtorEq, Nat.reduceEqDiff, Nat.reduceAdd, Nat.reduceSub, Nat.reduceLeDiff, indexAddrA, indexRefA, appendA, strA, Nat.reduceMul, Nat.zero_mul, Nat.reduceMod, Int.reduceEq, Int.reduceLT, Int.reduceLE, Nat.reduceLT, Nat.lt_irrefl, Nat.reduceBEq, tys0, tys1, tys2, tys3, tys4, tys5, tys6, tys7, tys8, tys9, tys10, tys11, Try.ntmps57, Try.results57]
  exact ⟨by kernel_rfl, Fin.eq rfl rfl⟩
theorem closAdd_ok (a b c d : Int) : Ct Try.prog 55 [.rptr (.agg [.int .i64 a, .int .i64 b]) 0, .rptr (.agg [.int .i64 c, .int .i64 d]) 0] [] (.tup [.int .i64 (addN a b c d), .int .i64 (w64 (b * d))]) [] := by
  refine Ct.by_ hmix [] Try.func55 rfl ?_
  simp only [run0, run1, run2, run3, run4, run5, run6, run7, run8, run9, run10, run11, run12, run13, run14, run15, run16, run17, run18, run19, run20, run21, run22, reduceCtorEq, Nat.reduceEqDiff, Nat.reduceAdd, Nat.reduceSub, Nat.reduceLeDiff, indexAddrA, indexRefA, appendA, strA, Nat.reduceMul, Nat.zero_mul, Nat.reduceMod, Int.reduceEq, Int.reduceLT, Int.reduceLE, Nat.reduceLT, Nat.lt_irrefl, Nat.reduceBEq, tys0, tys1, tys2, tys3, tys4, tys5, tys6, tys7, tys8, tys9, tys10, tys11, Try.ntmps55, Try.results55]
  exact ⟨by kernel_rfl, Fin.eq rfl rfl⟩
theorem closSub_ok (a b c d : Int) : Ct Try.prog 59 [.rptr (.agg [.int .i64 a, .int .i64 b]) 0, .rptr (.agg [.int .i64 c, .int .i64 d]) 0] [] (.tup [.int .i64 (subN a b c d), .int .i64 (w64 (b * d))]) [] := by
  refine Ct.by_ hmix [] Try.func59 rfl ?_
  simp only [run0, run1, run2, run3, run4, run5, run6, run7, run8, run9, run10, run11, run12, run13, run14, run15, run16, run17, run18, run19, run20, run21, run22, reduceCtorEq, Nat.reduceEqDiff, Nat.reduceAdd, Nat.reduceSub, Nat.reduceLeDiff, indexAddrA, indexRefA, appendA, strA, Nat.reduceMul, Nat.zero_mul, Nat.reduceMod, Int.reduceEq, Int.reduceLT, Int.reduceLE, Nat.reduceLT, Nat.lt_irrefl, Nat.reduceBEq, tys0, tys1, tys2, tys3, tys4, tys5, tys6, tys7, tys8, tys9, tys10, tys11, Try.ntmps59, Try.results59]
  exact ⟨by kernel_rfl, Fin.eq rfl rfl⟩

theorem implMul_ok (a b c d : Int) : Ct Try.prog 24 [fr a b, fr c d] [] (opR (goodB a b && goodB c d) (w64 (a * c)) (w64 (b * d))) [] := by
  have hc : goodB a b = true → goodB c d = true → Ct Try.prog 57 [.rptr (.agg [.int .i64 a, .int .i64 b]) 0, .rptr (.agg [.int .i64 c, .int .i64 d]) 0] [] (.tup [.int .i64 (w64 (a * c)), .int .i64 (w64 (b * d))]) [] ∧ small (w64 (a * c)) (w64 (b * d)) ∧ ((w64 (b * d)) = 0 ↔ False) := by
    intro h1 h2
    have g1 := good_small h1
    have g2 := good_small h2
    refine ⟨closMul_ok _ _ _ _, ?_⟩
    have p1 := prod_small g1.1 g2.1
    have p2 := prod_small g1.2.1 g2.2.1
    have ne : b * d ≠ 0 := Int.mul_ne_zero g1.2.2 g2.2.2
    rw [w64_small (x := a * c) (by omega), w64_small (x := b * d) (by omega)]
    exact ⟨⟨by omega, by omega⟩, fun h => ne h, fun h => h.elim⟩
  refine Ct.by_ hmix [] Try.func24 rfl ?_
  simp only [run0, run1, run2, run3, run4, run5, run6, run7, run8, run9, run10, run11, run12, run13, run14, run15, run16, run17, run18, run19, run20, run21, run22, reduceCtorEq, Nat.reduceEqDiff, Nat.reduceAdd, Nat.reduceSub, Nat.reduceLeDiff, indexAddrA, indexRefA, appendA, strA, Nat.reduceMul, Nat.zero_mul, Nat.reduceMod, Int.reduceEq, Int.reduceLT, Int.reduceLE, Nat.reduceLT, Nat.lt_irrefl, Nat.reduceBEq, tys0, tys1, tys2, tys3, tys4, tys5, tys6, tys7, tys8, tys9, tys10, tys11, Try.ntmps24, Try.results24, fr]
  refine RunL.lend (ys := [fr a b, fr c d, .fn 57 [.rptr (.agg [.int .i64 a, .int .i64 b]) 0, .rptr (.agg [.int .i64 c, .int .i64 d]) 0]]) rfl rfl rfl ok_f52 rfl rfl (two_ok a b c d _ _ _ _ (fun h1 h2 => ⟨(hc h1 h2).1, (hc h1 h2).2.1⟩) rfl ok_f57) rfl ?_
  simp only [run0, run1, run2, run3, run4, run5, run6, run7, run8, run9, run10, run11, run12, run13, run14, run15, run16, run17, run18, run19, run20, run21, run22, reduceCtorEq, Nat.reduceEqDiff, Nat.reduceAdd, Nat.reduceSub, Nat.reduceLeDiff, indexAddrA, indexRefA, appendA, strA, Nat.reduceMul, Nat.zero_mul, Nat.reduceMod, Int.reduceEq, Int.reduceLT, Int.reduceLE, Nat.reduceLT, Nat.lt_irrefl, Nat.reduceBEq, tys0, tys1, tys2, tys3, tys4, tys5, tys6, tys7, tys8, tys9, tys10, tys11, Try.ntmps24, Try.results24, opR, fr]
  refine Fin.eq ?_ rfl
  by_cases h1 : goodB a b = true
  · by_cases h2 : goodB c d = true
    · have := (hc h1 h2).2.2
      simp [opR, fr, h1, h2, this]
    · simp [opR, fr, h2]
  · simp [opR, fr, h1]

theorem implDiv_ok (a b c d : Int) : Ct Try.prog 19 [fr a b, fr c d] [] (opR (goodB a b && goodB c d && decide (c ≠ 0)) (w64 (a * d)) (w64 (b * c))) [] := by
  have hc : goodB a b = true → goodB c d = true → Ct Try.prog 53 [.rptr (.agg [.int .i64 a, .int .i64 b]) 0, .rptr (.agg [.int .i64 c, .int .i64 d]) 0] [] (.tup [.int .i64 (w64 (a * d)), .int .i64 (w64 (b * c))]) [] ∧ small (w64 (a * d)) (w64 (b * c)) ∧ ((w64 (b * c)) = 0 ↔ c = 0) := by
    intro h1 h2
    have g1 := good_small h1
    have g2 := good_small h2
    refine ⟨closDiv_ok _ _ _ _, ?_⟩
    have p1 := prod_small g1.1 g2.2.1
    have p2 := prod_small g1.2.1 g2.1
    have ne : b * c = 0 ↔ c = 0 := by
      rw [Int.mul_eq_zero]; exact ⟨fun h => h.resolve_left g1.2.2, .inr⟩
    rw [w64_small (x := a * d) (by omega), w64_small (x := b * c) (by omega)]
    unfold small; omega
  refine Ct.by_ hmix [] Try.func19 rfl ?_
  simp only [run0, run1, run2, run3, run4, run5, run6, run7, run8, run9, run10, run11, run12, run13, run14, run15, run16, run17, run18, run19, run20, run21, run22, reduceCtorEq, Nat.reduceEqDiff, Nat.reduceAdd, Nat.reduceSub, Nat.reduceLeDiff, indexAddrA, indexRefA, appendA, strA, Nat.reduceMul, Nat.zero_mul, Nat.reduceMod, Int.reduceEq, Int.reduceLT, Int.reduceLE, Nat.reduceLT, Nat.lt_irrefl, Nat.reduceBEq, tys0, tys1, tys2, tys3, tys4, tys5, tys6, tys7, tys8, tys9, tys10, tys11, Try.ntmps19, Try.results19, fr]
  refine RunL.lend (ys := [fr a b, fr c d, .fn 53 [.rptr (.agg [.int .i64 a, .int .i64 b]) 0, .rptr (.agg [.int .i64 c, .int .i64 d]) 0]]) rfl rfl rfl ok_f52 rfl rfl (two_ok a b c d _ _ _ _ (fun h1 h2 => ⟨(hc h1 h2).1, (hc h1 h2).2.1⟩) rfl ok_f53) rfl ?_
  simp only [run0, run1, run2, run3, run4, run5, run6, run7, run8, run9, run10, run11, run12, run13, run14, run15, run16, run17, run18, run19, run20, run21, run22, reduceCtorEq, Nat.reduceEqDiff, Nat.reduceAdd, Nat.reduceSub, Nat.reduceLeDiff, indexAddrA, indexRefA, appendA, strA, Nat.reduceMul, Nat.zero_mul, Nat.reduceMod, Int.reduceEq, Int.reduceLT, Int.reduceLE, Nat.reduceLT, Nat.lt_irrefl, Nat.reduceBEq, tys0, tys1, tys2, tys3, tys4, tys5, tys6, tys7, tys8, tys9, tys10, tys11, Try.ntmps19, Try.results19, opR, fr]
  refine Fin.eq ?_ rfl
  by_cases h1 : goodB a b = true
  · by_cases h2 : goodB c d = true
    · have := (hc h1 h2).2.2
      simp [opR, fr, h1, h2, this]
    · simp [opR, fr, h2]
  · simp [opR, fr, h1]

theorem implAdd_ok (a b c d : Int) : Ct Try.prog 22 [fr a b, fr c d] [] (opR (goodB a b && goodB c d) (addN a b c d) (w64 (b * d))) [] := by
  have hc : goodB a b = true → goodB c d = true → Ct Try.prog 55 [.rptr (.agg [.int .i64 a, .int .i64 b]) 0, .rptr (.agg [.int .i64 c, .int .i64 d]) 0] [] (.tup [.int .i64 (addN a b c d), .int .i64 (w64 (b * d))]) [] ∧ small (addN a b c d) (w64 (b * d)) ∧ ((w64 (b * d)) = 0 ↔ False) := by
    intro h1 h2
    have g1 := good_small h1
    have g2 := good_small h2
    refine ⟨closAdd_ok _ _ _ _, ?_⟩
    have p1 := prod_small g1.1 g2.2.1
    have p2 := prod_small g1.2.1 g2.2.1
    have p3 := prod_small g2.1 g1.2.1
    have ne : b * d ≠ 0 := Int.mul_ne_zero g1.2.2 g2.2.2
    unfold addN
    rw [w64_small (x := b * d) (by omega), w64_small (x := a * d) (by omega), w64_small (x := c * b) (by omega), w64_small (by omega)]
    exact ⟨⟨by omega, by omega⟩, fun h => ne h, fun h => h.elim⟩
  refine Ct.by_ hmix [] Try.func22 rfl ?_
  simp only [run0, run1, run2, run3, run4, run5, run6, run7, run8, run9, run10, run11, run12, run13, run14, run15, run16, run17, run18, run19, run20, run21, run22, reduceCtorEq, Nat.reduceEqDiff, Nat.reduceAdd, Nat.reduceSub, Nat.reduceLeDiff, indexAddrA, indexRefA, appendA, strA, Nat.reduceMul, Nat.zero_mul, Nat.reduceMod, Int.reduceEq, Int.reduceLT, Int.reduceLE, Nat.reduceLT, Nat.lt_irrefl, Nat.reduceBEq, tys0, tys1, tys2, tys3, tys4, tys5, tys6, tys7, tys8, tys9, tys10, tys11, Try.ntmps22, Try.results22, fr]
  refine RunL.lend (ys := [fr a b, fr c d, .fn 55 [.rptr (.agg [.int .i64 a, .int .i64 b]) 0, .rptr (.agg [.int .i64 c, .int .i64 d]) 0]]) rfl rfl rfl ok_f52 rfl rfl (two_ok a b c d _ _ _ _ (fun h1 h2 => ⟨(hc h1 h2).1, (hc h1 h2).2.1⟩) rfl ok_f55) rfl ?_
  simp only [run0, run1, run2, run3, run4, run5, run6, run7, run8, run9, run10, run11, run12, run13, run14, run15, run16, run17, run18, run19, run20, run21, run22, reduceCtorEq, Nat.reduceEqDiff, Nat.reduceAdd, Nat.reduceSub, Nat.reduceLeDiff, indexAddrA, indexRefA, appendA, strA, Nat.reduceMul, Nat.zero_mul, Nat.reduceMod, Int.reduceEq, Int.reduceLT, Int.reduceLE, Nat.reduceLT, Nat.lt_irrefl, Nat.reduceBEq, tys0, tys1, tys2, tys3, tys4, tys5, tys6, tys7, tys8, tys9, tys10, tys11, Try.ntmps22, Try.results22, opR, fr]
  refine Fin.eq ?_ rfl
  by_cases h1 : goodB a b = true
  · by_cases h2 : goodB c d = true
    · have := (hc h1 h2).2.2
      simp [opR, fr, h1, h2, this]
    · simp [opR, fr, h2]
  · simp [opR, fr, h1]

theorem implSub_ok (a b c d : Int) : Ct Try.prog 26 [fr a b, fr c d] [] (opR (goodB a b && goodB c d) (subN a b c d) (w64 (b * d))) [] := by
  have hc : goodB a b = true → goodB c d = true → Ct Try.prog 59 [.rptr (.agg [.int .i64 a, .int .i64 b]) 0, .rptr (.agg [.int .i64 c, .int .i64 d]) 0] [] (.tup [.int .i64 (subN a b c d), .int .i64 (w64 (b * d))]) [] ∧ small (subN a b c d) (w64 (b * d)) ∧ ((w64 (b * d)) = 0 ↔ False) := by
    intro h1 h2
    have g1 := good_small h1
    have g2 := good_small h2
    refine ⟨closSub_ok _ _ _ _, ?_⟩
    have p1 := prod_small g1.1 g2.2.1
    have p2 := prod_small g1.2.1 g2.2.1
    have p3 := prod_small g2.1 g1.2.1
    have ne : b * d ≠ 0 := Int.mul_ne_zero g1.2.2 g2.2.2
    unfold subN
    rw [w64_small (x := b * d) (by omega), w64_small (x := a * d) (by omega), w64_small (x := c * b) (by omega), w64_small (by omega)]
    exact ⟨⟨by omega, by omega⟩, fun h => ne h, fun h => h.elim⟩
  refine Ct.by_ hmix [] Try.func26 rfl ?_
  simp only [run0, run1, run2, run3, run4, run5, run6, run7, run8, run9, run10, run11, run12, run13, run14, run15, run16, run17, run18, run19, run20, run21, run22, reduceCtorEq, Nat.reduceEqDiff, Nat.reduceAdd, Nat.reduceSub, Nat.reduceLeDiff, indexAddrA, indexRefA, appendA, strA, Nat.reduceMul, Nat.zero_mul, Nat.reduceMod, Int.reduceEq, Int.reduceLT, Int.reduceLE, Nat.reduceLT, Nat.lt_irrefl, Nat.reduceBEq, tys0, tys1, tys2, tys3, tys4, tys5, tys6, tys7, tys8, tys9, tys10, tys11, Try.ntmps26, Try.results26, fr]
  refine RunL.lend (ys := [fr a b, fr c d, .fn 59 [.rptr (.agg [.int .i64 a, .int .i64 b]) 0, .rptr (.agg [.int .i64 c, .int .i64 d]) 0]]) rfl rfl rfl ok_f52 rfl rfl (two_ok a b c d _ _ _ _ (fun h1 h2 => ⟨(hc h1 h2).1, (hc h1 h2).2.1⟩) rfl ok_f59) rfl ?_
  simp only [run0, run1, run2, run3, run4, run5, run6, run7, run8, run9, run10, run11, run12, run13, run14, run15, run16, run17, run18, run19, run20, run21, run22, reduceCtorEq, Nat.reduceEqDiff, Nat.reduceAdd, Nat.reduceSub, Nat.reduceLeDiff, indexAddrA, indexRefA, appendA, strA, Nat.reduceMul, Nat.zero_mul, Nat.reduceMod, Int.reduceEq, Int.reduceLT, Int.reduceLE, Nat.reduceLT, Nat.lt_irrefl, Nat.reduceBEq, tys0, tys1, tys2, tys3, tys4, tys5, tys6, tys7, tys8, tys9, tys10, tys11, Try.ntmps26, Try.results26, opR, fr]
  refine Fin.eq ?_ rfl
  by_cases h1 : goodB a b = true
  · by_cases h2 : goodB c d = true
    · have := (hc h1 h2).2.2
      simp [opR, fr, h1, h2, this]
    · simp [opR, fr, h2]
  · simp [opR, fr, h1]


/-! ### the reference -/
theorem shNeg_ok (a b : Int) : Ct Try.prog 58 [fr a b] [] (fr (w64 (0 - a)) b) [] := by
  refine Ct.by_ hmix [] Try.func58 rfl ?_
  simp only [run0, run1, run2, run3, run4, run5, run6, run7, run8, run9, run10, run11, run12, run13, run14, run15, run16, run17, run18, run19, run20, run21, run22, reduceCtorEq, Nat.reduceEqDiff, Nat.reduceAdd, Nat.reduceSub, Nat.reduceLeDiff, indexAddrA, indexRefA, appendA, strA, Nat.reduceMul, Nat.zero_mul, Nat.reduceMod, Int.reduceEq, Int.reduceLT, Int.reduceLE, Nat.reduceLT, Nat.lt_irrefl, Nat.reduceBEq, tys0, tys1, tys2, tys3, tys4, tys5, tys6, tys7, tys8, tys9, tys10, tys11, Try.ntmps58, Try.results58, fr]
  exact Fin.eq rfl rfl
theorem shAdd_ok (a b c d : Int) (h0 : w64 (b * d) ≠ 0) (h : small (addN a b c d) (w64 (b * d))) : Ct Try.prog 54 [fr a b, fr c d] [] (fr (mkN (addN a b c d) (w64 (b * d))) (mkD (addN a b c d) (w64 (b * d)))) [] := by
  refine Ct.by_ hmix [] Try.func54 rfl ?_
  simp only [run0, run1, run2, run3, run4, run5, run6, run7, run8, run9, run10, run11, run12, run13, run14, run15, run16, run17, run18, run19, run20, run21, run22, reduceCtorEq, Nat.reduceEqDiff, Nat.reduceAdd, Nat.reduceSub, Nat.reduceLeDiff, indexAddrA, indexRefA, appendA, strA, Nat.reduceMul, Nat.zero_mul, Nat.reduceMod, Int.reduceEq, Int.reduceLT, Int.reduceLE, Nat.reduceLT, Nat.lt_irrefl, Nat.reduceBEq, tys0, tys1, tys2, tys3, tys4, tys5, tys6, tys7, tys8, tys9, tys10, tys11, Try.ntmps54, Try.results54, fr]
  refine RunL.callp rfl rfl ok_f51 (shMake_ok _ _ h0 h) (by first | rfl | simp only [pureL, pureB, Bool.and_self, Bool.and_true, Bool.true_and]) rfl ?_
  simp only [run0, run1, run2, run3, run4, run5, run6, run7, run8, run9, run10, run11, run12, run13, run14, run15, run16, run17, run18, run19, run20, run21, run22, reduceCtorEq, Nat.reduceEqDiff, Nat.reduceAdd, Nat.reduceSub, Nat.reduceLeDiff, indexAddrA, indexRefA, appendA, strA, Nat.reduceMul, Nat.zero_mul, Nat.reduceMod, Int.reduceEq, Int.reduceLT, Int.reduceLE, Nat.reduceLT, Nat.lt_irrefl, Nat.reduceBEq, tys0, tys1, tys2, tys3, tys4, tys5, tys6, tys7, tys8, tys9, tys10, tys11, Try.ntmps54, Try.results54, fr]
  exact Fin.eq rfl rfl
theorem shMul_ok (a b c d : Int) (h0 : w64 (b * d) ≠ 0) (h : small (w64 (a * c)) (w64 (b * d))) : Ct Try.prog 56 [fr a b, fr c d] [] (fr (mkN (w64 (a * c)) (w64 (b * d))) (mkD (w64 (a * c)) (w64 (b * d)))) [] := by
  refine Ct.by_ hmix [] Try.func56 rfl ?_
  simp only [run0, run1, run2, run3, run4, run5, run6, run7, run8, run9, run10, run11, run12, run13, run14, run15, run16, run17, run18, run19, run20, run21, run22, reduceCtorEq, Nat.reduceEqDiff, Nat.reduceAdd, Nat.reduceSub, Nat.reduceLeDiff, indexAddrA, indexRefA, appendA, strA, Nat.reduceMul, Nat.zero_mul, Nat.reduceMod, Int.reduceEq, Int.reduceLT, Int.reduceLE, Nat.reduceLT, Nat.lt_irrefl, Nat.reduceBEq, tys0, tys1, tys2, tys3, tys4, tys5, tys6, tys7, tys8, tys9, tys10, tys11, Try.ntmps56, Try.results56, fr]
  refine RunL.callp rfl rfl ok_f51 (shMake_ok _ _ h0 h) (by first | rfl | simp only [pureL, pureB, Bool.and_self, Bool.and_true, Bool.true_and]) rfl ?_
  simp only [run0, run1, run2, run3, run4, run5, run6, run7, run8, run9, run10, run11, run12, run13, run14, run15, run16, run17, run18, run19, run20, run21, run22, reduceCtorEq, Nat.reduceEqDiff, Nat.reduceAdd, Nat.reduceSub, Nat.reduceLeDiff, indexAddrA, indexRefA, appendA, strA, Nat.reduceMul, Nat.zero_mul, Nat.reduceMod, Int.reduceEq, Int.reduceLT, Int.reduceLE, Nat.reduceLT, Nat.lt_irrefl, Nat.reduceBEq, tys0, tys1, tys2, tys3, tys4, tys5, tys6, tys7, tys8, tys9, tys10, tys11, Try.ntmps56, Try.results56, fr]
  exact Fin.eq rfl rfl
theorem specMul_ok (a b c d : Int) : Ct Try.prog 23 [fr a b, fr c d] [] (opR (goodB a b && goodB c d) (w64 (a * c)) (w64 (b * d))) [] := by
  refine Ct.by_ hmix [] Try.func23 rfl ?_
  simp only [run0, run1, run2, run3, run4, run5, run6, run7, run8, run9, run10, run11, run12, run13, run14, run15, run16, run17, run18, run19, run20, run21, run22, reduceCtorEq, Nat.reduceEqDiff, Nat.reduceAdd, Nat.reduceSub, Nat.reduceLeDiff, indexAddrA, indexRefA, appendA, strA, Nat.reduceMul, Nat.zero_mul, Nat.reduceMod, Int.reduceEq, Int.reduceLT, Int.reduceLE, Nat.reduceLT, Nat.lt_irrefl, Nat.reduceBEq, tys0, tys1, tys2, tys3, tys4, tys5, tys6, tys7, tys8, tys9, tys10, tys11, Try.ntmps23, Try.results23, fr]
  refine RunL.callp rfl rfl ok_f46 (shGood_ok _ _) (by first | rfl | simp only [pureL, pureB, Bool.and_self, Bool.and_true, Bool.true_and]) rfl ?_
  simp only [run0, run1, run2, run3, run4, run5, run6, run7, run8, run9, run10, run11, run12, run13, run14, run15, run16, run17, run18, run19, run20, run21, run22, reduceCtorEq, Nat.reduceEqDiff, Nat.reduceAdd, Nat.reduceSub, Nat.reduceLeDiff, indexAddrA, indexRefA, appendA, strA, Nat.reduceMul, Nat.zero_mul, Nat.reduceMod, Int.reduceEq, Int.reduceLT, Int.reduceLE, Nat.reduceLT, Nat.lt_irrefl, Nat.reduceBEq, tys0, tys1, tys2, tys3, tys4, tys5, tys6, tys7, tys8, tys9, tys10, tys11, Try.ntmps23, Try.results23]
  refine Rg.split (fun h1 => ?_) (fun h1 => ?_) <;> simp only [run0, run1, run2, run3, run4, run5, run6, run7, run8, run9, run10, run11, run12, run13, run14, run15, run16, run17, run18, run19, run20, run21, run22, reduceCtorEq, Nat.reduceEqDiff, Nat.reduceAdd, Nat.reduceSub, Nat.reduceLeDiff, indexAddrA, indexRefA, appendA, strA, Nat.reduceMul, Nat.zero_mul, Nat.reduceMod, Int.reduceEq, Int.reduceLT, Int.reduceLE, Nat.reduceLT, Nat.lt_irrefl, Nat.reduceBEq, tys0, tys1, tys2, tys3, tys4, tys5, tys6, tys7, tys8, tys9, tys10, tys11, Try.ntmps23, Try.results23, h1]
  · refine RunL.callp rfl rfl ok_f46 (shGood_ok _ _) (by first | rfl | simp only [pureL, pureB, Bool.and_self, Bool.and_true, Bool.true_and]) rfl ?_
    simp only [run0, run1, run2, run3, run4, run5, run6, run7, run8, run9, run10, run11, run12, run13, run14, run15, run16, run17, run18, run19, run20, run21, run22, reduceCtorEq, Nat.reduceEqDiff, Nat.reduceAdd, Nat.reduceSub, Nat.reduceLeDiff, indexAddrA, indexRefA, appendA, strA, Nat.reduceMul, Nat.zero_mul, Nat.reduceMod, Int.reduceEq, Int.reduceLT, Int.reduceLE, Nat.reduceLT, Nat.lt_irrefl, Nat.reduceBEq, tys0, tys1, tys2, tys3, tys4, tys5, tys6, tys7, tys8, tys9, tys10, tys11, Try.ntmps23, Try.results23]
    refine Wc.split (fun h2 => ?_) (fun h2 => ?_) <;> simp only [run0, run1, run2, run3, run4, run5, run6, run7, run8, run9, run10, run11, run12, run13, run14, run15, run16, run17, run18, run19, run20, run21, run22, reduceCtorEq, Nat.reduceEqDiff, Nat.reduceAdd, Nat.reduceSub, Nat.reduceLeDiff, indexAddrA, indexRefA, appendA, strA, Nat.reduceMul, Nat.zero_mul, Nat.reduceMod, Int.reduceEq, Int.reduceLT, Int.reduceLE, Nat.reduceLT, Nat.lt_irrefl, Nat.reduceBEq, tys0, tys1, tys2, tys3, tys4, tys5, tys6, tys7, tys8, tys9, tys10, tys11, Try.ntmps23, Try.results23, h2]
    · exact Fin.eq (by simp_all [opR, fr]) rfl
    · simp at h2
      have g1 := good_small h1
      have g2 := good_small h2
      have p1 := prod_small g1.1 g2.1
      have p2 := prod_small g1.2.1 g2.2.1
      have ne : b * d ≠ 0 := Int.mul_ne_zero g1.2.2 g2.2.2
      have hs : small (w64 (a * c)) (w64 (b * d)) ∧ w64 (b * d) ≠ 0 := by
        rw [w64_small (x := a * c) (by omega), w64_small (x := b * d) (by omega)]
        exact ⟨⟨by omega, by omega⟩, ne⟩
      refine RunL.callp rfl rfl ok_f56 (shMul_ok _ _ _ _ hs.2 hs.1) (by first | rfl | simp only [pureL, pureB, Bool.and_self, Bool.and_true, Bool.true_and]) rfl ?_
      simp only [run0, run1, run2, run3, run4, run5, run6, run7, run8, run9, run10, run11, run12, run13, run14, run15, run16, run17, run18, run19, run20, run21, run22, reduceCtorEq, Nat.reduceEqDiff, Nat.reduceAdd, Nat.reduceSub, Nat.reduceLeDiff, indexAddrA, indexRefA, appendA, strA, Nat.reduceMul, Nat.zero_mul, Nat.reduceMod, Int.reduceEq, Int.reduceLT, Int.reduceLE, Nat.reduceLT, Nat.lt_irrefl, Nat.reduceBEq, tys0, tys1, tys2, tys3, tys4, tys5, tys6, tys7, tys8, tys9, tys10, tys11, Try.ntmps23, Try.results23, fr]
      refine RunL.callp rfl rfl ok_f50 (shIf_ok _ _) (by first | rfl | simp only [pureL, pureB, Bool.and_self, Bool.and_true, Bool.true_and]) rfl ?_
      simp only [run0, run1, run2, run3, run4, run5, run6, run7, run8, run9, run10, run11, run12, run13, run14, run15, run16, run17, run18, run19, run20, run21, run22, reduceCtorEq, Nat.reduceEqDiff, Nat.reduceAdd, Nat.reduceSub, Nat.reduceLeDiff, indexAddrA, indexRefA, appendA, strA, Nat.reduceMul, Nat.zero_mul, Nat.reduceMod, Int.reduceEq, Int.reduceLT, Int.reduceLE, Nat.reduceLT, Nat.lt_irrefl, Nat.reduceBEq, tys0, tys1, tys2, tys3, tys4, tys5, tys6, tys7, tys8, tys9, tys10, tys11, Try.ntmps23, Try.results23, fr]
      exact Fin.eq (by simp [opR, fr, h1, h2, mkOk]) rfl
  · exact Fin.eq (by simp_all [opR, fr]) rfl

end Go.Proofs.Ytolfjeedgedblaa
