/-
  Short numbers: a step of the reference's walk.
-/
import Derived.Test.YtolfjeedgedblaaF8
namespace Go.Proofs.Ytolfjeedgedblaa
open Go K
set_option linter.unusedSimpArgs false
set_option linter.unusedVariables false
set_option maxHeartbeats 400000

/-- A sum's and a product's parts, where they stay small. -/
def addOk (a b c d : Int) : Prop := w64 (b * d) ≠ 0 ∧ small (addN a b c d) (w64 (b * d))
def sumN (a b c d : Int) : Int := mkN (addN a b c d) (w64 (b * d))
def sumD (a b c d : Int) : Int := mkD (addN a b c d) (w64 (b * d))
def mulOk (a b c d : Int) : Prop := w64 (b * d) ≠ 0 ∧ small (w64 (a * c)) (w64 (b * d))
def mulN (a b c d : Int) : Int := mkN (w64 (a * c)) (w64 (b * d))
def mulD (a b c d : Int) : Int := mkD (w64 (a * c)) (w64 (b * d))
theorem add_ok (a b c d : Int) (h : addOk a b c d) : Ct Try.prog 54 [fr a b, fr c d] [] (fr (sumN a b c d) (sumD a b c d)) [] := shAdd_ok a b c d h.1 h.2
theorem mul_ok (a b c d : Int) (h : mulOk a b c d) : Ct Try.prog 56 [fr a b, fr c d] [] (fr (mulN a b c d) (mulD a b c d)) [] := shMul_ok a b c d h.1 h.2

def midN (a b c d : Int) : Int := mulN (sumN a b c d) (sumD a b c d) 1 2
def midD (a b c d : Int) : Int := mulD (sumN a b c d) (sumD a b c d) 1 2
def midOk (a b c d : Int) : Prop := addOk a b c d ∧ mulOk (sumN a b c d) (sumD a b c d) 1 2
/-- A step of the reference's walk. -/
def swStep (s : Sw) (plus : Bool) : Sw :=
  match plus with
  | true => if s.hasH then ⟨midN s.an s.ad s.hn s.hd, midD s.an s.ad s.hn s.hd, s.an, s.ad, s.hn, s.hd, true, true⟩ else ⟨sumN s.an s.ad 1 1, sumD s.an s.ad 1 1, s.an, s.ad, s.hn, s.hd, true, false⟩
  | false => if s.hasL then ⟨midN s.ln s.ld s.an s.ad, midD s.ln s.ld s.an s.ad, s.ln, s.ld, s.an, s.ad, true, true⟩ else ⟨sumN s.an s.ad (-1) 1, sumD s.an s.ad (-1) 1, s.ln, s.ld, s.an, s.ad, false, true⟩
def swOk (s : Sw) (plus : Bool) : Prop :=
  match plus with
  | true => if s.hasH then midOk s.an s.ad s.hn s.hd else addOk s.an s.ad 1 1
  | false => if s.hasL then midOk s.ln s.ld s.an s.ad else addOk s.an s.ad (-1) 1

theorem step_ok (s : Sw) (plus : Bool) (h : swOk s plus) : Ct Try.prog 78 [swV s, .bool plus] [] (swV (swStep s plus)) [] := by
  obtain ⟨an, ad, ln, ld, hn, hd, hl, hh⟩ := s
  refine Ct.by_ hmix [] Try.func78 rfl ?_
  cases plus
  · cases hl
    · simp only [run0, run1, run2, run3, run4, run5, run6, run7, run8, run9, run10, run11, run12, run13, run14, run15, run16, run17, run18, run19, run20, run21, run22, reduceCtorEq, Nat.reduceEqDiff, Nat.reduceAdd, Nat.reduceSub, Nat.reduceLeDiff, indexAddrA, indexRefA, appendA, strA, Nat.reduceMul, Nat.zero_mul, Nat.reduceMod, Int.reduceEq, Int.reduceLT, Int.reduceLE, Nat.reduceLT, Nat.lt_irrefl, Nat.reduceBEq, tys0, tys1, tys2, tys3, tys4, tys5, tys6, tys7, tys8, tys9, tys10, tys11, Try.ntmps78, Try.results78, fr, swV]
      have h' : addOk an ad (-1) 1 := h
      refine ⟨by kernel_rfl, ?_⟩
      refine RunL.callp rfl rfl ok_f83 (shInt_ok _) (by first | rfl | simp only [pureL, pureB, Bool.and_self, Bool.and_true, Bool.true_and]) rfl ?_
      simp only [run0, run1, run2, run3, run4, run5, run6, run7, run8, run9, run10, run11, run12, run13, run14, run15, run16, run17, run18, run19, run20, run21, run22, reduceCtorEq, Nat.reduceEqDiff, Nat.reduceAdd, Nat.reduceSub, Nat.reduceLeDiff, indexAddrA, indexRefA, appendA, strA, Nat.reduceMul, Nat.zero_mul, Nat.reduceMod, Int.reduceEq, Int.reduceLT, Int.reduceLE, Nat.reduceLT, Nat.lt_irrefl, Nat.reduceBEq, tys0, tys1, tys2, tys3, tys4, tys5, tys6, tys7, tys8, tys9, tys10, tys11, Try.ntmps78, Try.results78, fr, swV]
      refine RunL.callp rfl rfl ok_f54 (add_ok _ _ _ _ h') (by first | rfl | simp only [pureL, pureB, Bool.and_self, Bool.and_true, Bool.true_and]) rfl ?_
      simp only [run0, run1, run2, run3, run4, run5, run6, run7, run8, run9, run10, run11, run12, run13, run14, run15, run16, run17, run18, run19, run20, run21, run22, reduceCtorEq, Nat.reduceEqDiff, Nat.reduceAdd, Nat.reduceSub, Nat.reduceLeDiff, indexAddrA, indexRefA, appendA, strA, Nat.reduceMul, Nat.zero_mul, Nat.reduceMod, Int.reduceEq, Int.reduceLT, Int.reduceLE, Nat.reduceLT, Nat.lt_irrefl, Nat.reduceBEq, tys0, tys1, tys2, tys3, tys4, tys5, tys6, tys7, tys8, tys9, tys10, tys11, Try.ntmps78, Try.results78, fr, swV]
      exact Fin.eq (by simp [swStep]) rfl
    · simp only [run0, run1, run2, run3, run4, run5, run6, run7, run8, run9, run10, run11, run12, run13, run14, run15, run16, run17, run18, run19, run20, run21, run22, reduceCtorEq, Nat.reduceEqDiff, Nat.reduceAdd, Nat.reduceSub, Nat.reduceLeDiff, indexAddrA, indexRefA, appendA, strA, Nat.reduceMul, Nat.zero_mul, Nat.reduceMod, Int.reduceEq, Int.reduceLT, Int.reduceLE, Nat.reduceLT, Nat.lt_irrefl, Nat.reduceBEq, tys0, tys1, tys2, tys3, tys4, tys5, tys6, tys7, tys8, tys9, tys10, tys11, Try.ntmps78, Try.results78, fr, swV]
      have h' : midOk ln ld an ad := h
      refine ⟨by kernel_rfl, ?_⟩
      refine RunL.callp rfl rfl ok_f54 (add_ok _ _ _ _ h'.1) (by first | rfl | simp only [pureL, pureB, Bool.and_self, Bool.and_true, Bool.true_and]) rfl ?_
      simp only [run0, run1, run2, run3, run4, run5, run6, run7, run8, run9, run10, run11, run12, run13, run14, run15, run16, run17, run18, run19, run20, run21, run22, reduceCtorEq, Nat.reduceEqDiff, Nat.reduceAdd, Nat.reduceSub, Nat.reduceLeDiff, indexAddrA, indexRefA, appendA, strA, Nat.reduceMul, Nat.zero_mul, Nat.reduceMod, Int.reduceEq, Int.reduceLT, Int.reduceLE, Nat.reduceLT, Nat.lt_irrefl, Nat.reduceBEq, tys0, tys1, tys2, tys3, tys4, tys5, tys6, tys7, tys8, tys9, tys10, tys11, Try.ntmps78, Try.results78, fr, swV]
      refine RunL.callp rfl rfl ok_f56 (mul_ok _ _ _ _ h'.2) (by first | rfl | simp only [pureL, pureB, Bool.and_self, Bool.and_true, Bool.true_and]) rfl ?_
      simp only [run0, run1, run2, run3, run4, run5, run6, run7, run8, run9, run10, run11, run12, run13, run14, run15, run16, run17, run18, run19, run20, run21, run22, reduceCtorEq, Nat.reduceEqDiff, Nat.reduceAdd, Nat.reduceSub, Nat.reduceLeDiff, indexAddrA, indexRefA, appendA, strA, Nat.reduceMul, Nat.zero_mul, Nat.reduceMod, Int.reduceEq, Int.reduceLT, Int.reduceLE, Nat.reduceLT, Nat.lt_irrefl, Nat.reduceBEq, tys0, tys1, tys2, tys3, tys4, tys5, tys6, tys7, tys8, tys9, tys10, tys11, Try.ntmps78, Try.results78, fr, swV]
      exact Fin.eq (by simp [swStep, midN, midD]) rfl
  · cases hh
    · simp only [run0, run1, run2, run3, run4, run5, run6, run7, run8, run9, run10, run11, run12, run13, run14, run15, run16, run17, run18, run19, run20, run21, run22, reduceCtorEq, Nat.reduceEqDiff, Nat.reduceAdd, Nat.reduceSub, Nat.reduceLeDiff, indexAddrA, indexRefA, appendA, strA, Nat.reduceMul, Nat.zero_mul, Nat.reduceMod, Int.reduceEq, Int.reduceLT, Int.reduceLE, Nat.reduceLT, Nat.lt_irrefl, Nat.reduceBEq, tys0, tys1, tys2, tys3, tys4, tys5, tys6, tys7, tys8, tys9, tys10, tys11, Try.ntmps78, Try.results78, fr, swV]
      have h' : addOk an ad 1 1 := h
      refine ⟨by kernel_rfl, ?_⟩
      refine RunL.callp rfl rfl ok_f83 (shInt_ok _) (by first | rfl | simp only [pureL, pureB, Bool.and_self, Bool.and_true, Bool.true_and]) rfl ?_
      simp only [run0, run1, run2, run3, run4, run5, run6, run7, run8, run9, run10, run11, run12, run13, run14, run15, run16, run17, run18, run19, run20, run21, run22, reduceCtorEq, Nat.reduceEqDiff, Nat.reduceAdd, Nat.reduceSub, Nat.reduceLeDiff, indexAddrA, indexRefA, appendA, strA, Nat.reduceMul, Nat.zero_mul, Nat.reduceMod, Int.reduceEq, Int.reduceLT, Int.reduceLE, Nat.reduceLT, Nat.lt_irrefl, Nat.reduceBEq, tys0, tys1, tys2, tys3, tys4, tys5, tys6, tys7, tys8, tys9, tys10, tys11, Try.ntmps78, Try.results78, fr, swV]
      refine RunL.callp rfl rfl ok_f54 (add_ok _ _ _ _ h') (by first | rfl | simp only [pureL, pureB, Bool.and_self, Bool.and_true, Bool.true_and]) rfl ?_
      simp only [run0, run1, run2, run3, run4, run5, run6, run7, run8, run9, run10, run11, run12, run13, run14, run15, run16, run17, run18, run19, run20, run21, run22, reduceCtorEq, Nat.reduceEqDiff, Nat.reduceAdd, Nat.reduceSub, Nat.reduceLeDiff, indexAddrA, indexRefA, appendA, strA, Nat.reduceMul, Nat.zero_mul, Nat.reduceMod, Int.reduceEq, Int.reduceLT, Int.reduceLE, Nat.reduceLT, Nat.lt_irrefl, Nat.reduceBEq, tys0, tys1, tys2, tys3, tys4, tys5, tys6, tys7, tys8, tys9, tys10, tys11, Try.ntmps78, Try.results78, fr, swV]
      exact Fin.eq (by simp [swStep]) rfl
    · simp only [run0, run1, run2, run3, run4, run5, run6, run7, run8, run9, run10, run11, run12, run13, run14, run15, run16, run17, run18, run19, run20, run21, run22, reduceCtorEq, Nat.reduceEqDiff, Nat.reduceAdd, Nat.reduceSub, Nat.reduceLeDiff, indexAddrA, indexRefA, appendA, strA, Nat.reduceMul, Nat.zero_mul, Nat.reduceMod, Int.reduceEq, Int.reduceLT, Int.reduceLE, Nat.reduceLT, Nat.lt_irrefl, Nat.reduceBEq, tys0, tys1, tys2, tys3, tys4, tys5, tys6, tys7, tys8, tys9, tys10, tys11, Try.ntmps78, Try.results78, fr, swV]
      have h' : midOk an ad hn hd := h
      refine ⟨by kernel_rfl, ?_⟩
      refine RunL.callp rfl rfl ok_f54 (add_ok _ _ _ _ h'.1) (by first | rfl | simp only [pureL, pureB, Bool.and_self, Bool.and_true, Bool.true_and]) rfl ?_
      simp only [run0, run1, run2, run3, run4, run5, run6, run7, run8, run9, run10, run11, run12, run13, run14, run15, run16, run17, run18, run19, run20, run21, run22, reduceCtorEq, Nat.reduceEqDiff, Nat.reduceAdd, Nat.reduceSub, Nat.reduceLeDiff, indexAddrA, indexRefA, appendA, strA, Nat.reduceMul, Nat.zero_mul, Nat.reduceMod, Int.reduceEq, Int.reduceLT, Int.reduceLE, Nat.reduceLT, Nat.lt_irrefl, Nat.reduceBEq, tys0, tys1, tys2, tys3, tys4, tys5, tys6, tys7, tys8, tys9, tys10, tys11, Try.ntmps78, Try.results78, fr, swV]
      refine RunL.callp rfl rfl ok_f56 (mul_ok _ _ _ _ h'.2) (by first | rfl | simp only [pureL, pureB, Bool.and_self, Bool.and_true, Bool.true_and]) rfl ?_
      simp only [run0, run1, run2, run3, run4, run5, run6, run7, run8, run9, run10, run11, run12, run13, run14, run15, run16, run17, run18, run19, run20, run21, run22, reduceCtorEq, Nat.reduceEqDiff, Nat.reduceAdd, Nat.reduceSub, Nat.reduceLeDiff, indexAddrA, indexRefA, appendA, strA, Nat.reduceMul, Nat.zero_mul, Nat.reduceMod, Int.reduceEq, Int.reduceLT, Int.reduceLE, Nat.reduceLT, Nat.lt_irrefl, Nat.reduceBEq, tys0, tys1, tys2, tys3, tys4, tys5, tys6, tys7, tys8, tys9, tys10, tys11, Try.ntmps78, Try.results78, fr, swV]
      exact Fin.eq (by simp [swStep, midN, midD]) rfl

end Go.Proofs.Ytolfjeedgedblaa
