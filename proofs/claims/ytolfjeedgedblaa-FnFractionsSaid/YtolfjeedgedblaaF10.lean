/-
  Short numbers: the reference's walk to a fraction.
-/
import Derived.Test.YtolfjeedgedblaaF9
namespace Go.Proofs.Ytolfjeedgedblaa
open Go K
set_option linter.unusedSimpArgs false
set_option linter.unusedVariables false
set_option maxHeartbeats 400000

def swCmp (n d : Int) (s : Sw) : Int := cmpI (w64 (w64 (s.an * d) - w64 (n * s.ad))) 0
def sw0 : Sw := ⟨0, 1, 0, 0, 0, 0, false, false⟩
def swRun (n d : Int) : Nat → Sw → ByteArray → ByteArray × Bool
  | 0, _, _ => (⟨#[]⟩, false)
  | k + 1, s, out =>
    if swCmp n d s = 0 then (out, true) else if out.size = 20 then (⟨#[]⟩, false)
    else if swCmp n d s < 0 then swRun n d k (swStep s true) (out ++ plusB) else swRun n d k (swStep s false) (out ++ minusB)
def swGood (n d : Int) : Nat → Sw → ByteArray → Prop
  | 0, _, _ => True
  | k + 1, s, out =>
    swCmp n d s = 0 ∨ out.size = 20 ∨ (swCmp n d s < 0 ∧ swOk s true ∧ swGood n d k (swStep s true) (out ++ plusB)) ∨ (¬ swCmp n d s < 0 ∧ swOk s false ∧ swGood n d k (swStep s false) (out ++ minusB))

def swSt (n d : Int) (i : Sw × ByteArray) : St :=
  ⟨[.agg [.int .i64 n, .int .i64 d], .ptr 0 0, .str ⟨#[]⟩, .bool false, .ptr 1 0, .str i.2, .junk, .junk, .junk, .junk, .junk, .junk, .junk, .junk, .junk, .junk, .junk, .junk, .junk, .junk, .junk, .junk, .junk, .junk, .junk, .junk, .junk, .junk, .junk],
   [.box 26 [.int .i64 n, .int .i64 d], .box 76 [.int .i64 i.1.an, .int .i64 i.1.ad, .int .i64 i.1.ln, .int .i64 i.1.ld, .int .i64 i.1.hn, .int .i64 i.1.hd, .bool i.1.hasL, .bool i.1.hasH]]⟩

theorem shWord_ok (n d : Int) (hg : swGood n d 21 sw0 ⟨#[]⟩) : Ct Try.prog 60 [fr n d] [] (.tup [.str (swRun n d 21 sw0 ⟨#[]⟩).1, .bool (swRun n d 21 sw0 ⟨#[]⟩).2]) [] := by
  refine Ct.by_ hmix [] Try.func60 rfl ?_
  simp only [run0, run1, run2, run3, run4, run5, run6, run7, run8, run9, run10, run11, run12, run13, run14, run15, run16, run17, run18, run19, run20, run21, run22, reduceCtorEq, Nat.reduceEqDiff, Nat.reduceAdd, Nat.reduceSub, Nat.reduceLeDiff, indexAddrA, indexRefA, appendA, strA, Nat.reduceMul, Nat.zero_mul, Nat.reduceMod, Int.reduceEq, Int.reduceLT, Int.reduceLE, Nat.reduceLT, Nat.lt_irrefl, Nat.reduceBEq, tys0, tys1, tys2, tys3, tys4, tys5, tys6, tys7, tys8, tys9, tys10, tys11, Try.ntmps60, Try.results60, fr]
  refine RunL.callp rfl rfl ok_f77 (shStart_ok) (by first | rfl | simp only [pureL, pureB, Bool.and_self, Bool.and_true, Bool.true_and]) rfl ?_
  simp only [run0, run1, run2, run3, run4, run5, run6, run7, run8, run9, run10, run11, run12, run13, run14, run15, run16, run17, run18, run19, run20, run21, run22, reduceCtorEq, Nat.reduceEqDiff, Nat.reduceAdd, Nat.reduceSub, Nat.reduceLeDiff, indexAddrA, indexRefA, appendA, strA, Nat.reduceMul, Nat.zero_mul, Nat.reduceMod, Int.reduceEq, Int.reduceLT, Int.reduceLE, Nat.reduceLT, Nat.lt_irrefl, Nat.reduceBEq, tys0, tys1, tys2, tys3, tys4, tys5, tys6, tys7, tys8, tys9, tys10, tys11, Try.ntmps60, Try.results60, fr, swV]
  refine AWp.loop_inv (swSt n d) (fun i => i.2.size ≤ 20 ∧ swGood n d (21 - i.2.size) i.1 i.2 ∧ swRun n d (21 - i.2.size) i.1 i.2 = swRun n d 21 sw0 ⟨#[]⟩)
    (fun i => 21 - i.2.size) (sw0, ⟨#[]⟩) ⟨by decide, hg, rfl⟩ ⟨?_, rfl⟩ ?_
  · simp only [swSt]
    repeat constructor
  rintro ⟨s, out⟩ ⟨hw, hgd, hrun⟩
  simp only at hw hgd hrun
  simp only [swSt]
  refine W.sound hmix (E := []) ?_
  have hk : 21 - out.size = (20 - out.size) + 1 := by omega
  rw [hk] at hgd hrun
  have b3 : out.size + (ByteArray.mk #[43]).size ≤ 9223372036854775807 := by
    rw [show (ByteArray.mk #[43]).size = 1 from rfl]; omega
  have b4 : out.size + (ByteArray.mk #[45]).size ≤ 9223372036854775807 := by
    rw [show (ByteArray.mk #[45]).size = 1 from rfl]; omega
  simp only [run0, run1, run2, run3, run4, run5, run6, run7, run8, run9, run10, run11, run12, run13, run14, run15, run16, run17, run18, run19, run20, run21, run22, reduceCtorEq, Nat.reduceEqDiff, Nat.reduceAdd, Nat.reduceSub, Nat.reduceLeDiff, indexAddrA, indexRefA, appendA, strA, Nat.reduceMul, Nat.zero_mul, Nat.reduceMod, Int.reduceEq, Int.reduceLT, Int.reduceLE, Nat.reduceLT, Nat.lt_irrefl, Nat.reduceBEq, tys0, tys1, tys2, tys3, tys4, tys5, tys6, tys7, tys8, tys9, tys10, tys11, Try.ntmps60, Try.results60]
  refine RunL.callp rfl rfl ok_f47 (shCmp_ok _ _ _ _) (by first | rfl | simp only [pureL, pureB, Bool.and_self, Bool.and_true, Bool.true_and]) rfl ?_
  by_cases hz : swCmp n d s = 0
  · have e0 : (cmpI (w64 (w64 (s.an * d) - w64 (n * s.ad))) 0 != 0) = false := by simpa [swCmp] using hz
    have hr : swRun n d 21 sw0 ⟨#[]⟩ = (out, true) := by rw [← hrun]; simp [swRun, hz]
    rw [hr]
    simp only [run0, run1, run2, run3, run4, run5, run6, run7, run8, run9, run10, run11, run12, run13, run14, run15, run16, run17, run18, run19, run20, run21, run22, reduceCtorEq, Nat.reduceEqDiff, Nat.reduceAdd, Nat.reduceSub, Nat.reduceLeDiff, indexAddrA, indexRefA, appendA, strA, Nat.reduceMul, Nat.zero_mul, Nat.reduceMod, Int.reduceEq, Int.reduceLT, Int.reduceLE, Nat.reduceLT, Nat.lt_irrefl, Nat.reduceBEq, tys0, tys1, tys2, tys3, tys4, tys5, tys6, tys7, tys8, tys9, tys10, tys11, Try.ntmps60, Try.results60, e0]
    exact Fin.eq rfl rfl
  have e0 : (cmpI (w64 (w64 (s.an * d) - w64 (n * s.ad))) 0 != 0) = true := by simpa [swCmp] using hz
  by_cases h20 : out.size = 20
  · have e1 : ((out.size : Int) == 20) = true := by simp [h20]
    have hr : swRun n d 21 sw0 ⟨#[]⟩ = (⟨#[]⟩, false) := by rw [← hrun]; simp [swRun, hz, h20]
    rw [hr]
    simp only [run0, run1, run2, run3, run4, run5, run6, run7, run8, run9, run10, run11, run12, run13, run14, run15, run16, run17, run18, run19, run20, run21, run22, reduceCtorEq, Nat.reduceEqDiff, Nat.reduceAdd, Nat.reduceSub, Nat.reduceLeDiff, indexAddrA, indexRefA, appendA, strA, Nat.reduceMul, Nat.zero_mul, Nat.reduceMod, Int.reduceEq, Int.reduceLT, Int.reduceLE, Nat.reduceLT, Nat.lt_irrefl, Nat.reduceBEq, tys0, tys1, tys2, tys3, tys4, tys5, tys6, tys7, tys8, tys9, tys10, tys11, Try.ntmps60, Try.results60, e0, e1]
    exact Fin.eq rfl rfl
  have e1 : ((out.size : Int) == 20) = false := by simp; omega
  have e2 : True := trivial
  simp only [swGood] at hgd
  by_cases hneg : swCmp n d s < 0
  · have hneg' : cmpI (w64 (w64 (s.an * d) - w64 (n * s.ad))) 0 < 0 := hneg
    have hst : swOk s true ∧ swGood n d (20 - out.size) (swStep s true) (out ++ plusB) := by
      rcases hgd with h | h | h | h
      · exact absurd h hz
      · exact absurd h h20
      · first | exact h.2 | exact absurd h.1 hneg
      · first | exact h.2 | exact absurd hneg h.1
    obtain ⟨hs, hgn⟩ := hst
    have hsz : (out ++ plusB).size = out.size + 1 := by simp [ByteArray.size_append, plusB]; rfl
    have hrn : swRun n d (20 - out.size) (swStep s true) (out ++ plusB) = swRun n d 21 sw0 ⟨#[]⟩ := by rw [← hrun]; simp [swRun, hz, h20, hneg]
    simp only [run0, run1, run2, run3, run4, run5, run6, run7, run8, run9, run10, run11, run12, run13, run14, run15, run16, run17, run18, run19, run20, run21, run22, reduceCtorEq, Nat.reduceEqDiff, Nat.reduceAdd, Nat.reduceSub, Nat.reduceLeDiff, indexAddrA, indexRefA, appendA, strA, Nat.reduceMul, Nat.zero_mul, Nat.reduceMod, Int.reduceEq, Int.reduceLT, Int.reduceLE, Nat.reduceLT, Nat.lt_irrefl, Nat.reduceBEq, tys0, tys1, tys2, tys3, tys4, tys5, tys6, tys7, tys8, tys9, tys10, tys11, Try.ntmps60, Try.results60, e0, e1, e2]
    refine RunL.callp rfl rfl ok_f47 (shCmp_ok _ _ _ _) (by first | rfl | simp only [pureL, pureB, Bool.and_self, Bool.and_true, Bool.true_and]) rfl ?_
    simp only [run0, run1, run2, run3, run4, run5, run6, run7, run8, run9, run10, run11, run12, run13, run14, run15, run16, run17, run18, run19, run20, run21, run22, reduceCtorEq, Nat.reduceEqDiff, Nat.reduceAdd, Nat.reduceSub, Nat.reduceLeDiff, indexAddrA, indexRefA, appendA, strA, Nat.reduceMul, Nat.zero_mul, Nat.reduceMod, Int.reduceEq, Int.reduceLT, Int.reduceLE, Nat.reduceLT, Nat.lt_irrefl, Nat.reduceBEq, tys0, tys1, tys2, tys3, tys4, tys5, tys6, tys7, tys8, tys9, tys10, tys11, Try.ntmps60, Try.results60, hneg', b3, b4]
    refine RunL.callp rfl rfl ok_f78 (step_ok s true hs) (by first | rfl | simp only [pureL, pureB, Bool.and_self, Bool.and_true, Bool.true_and]) rfl ?_
    generalize swStep s true = s' at *
    simp only [run0, run1, run2, run3, run4, run5, run6, run7, run8, run9, run10, run11, run12, run13, run14, run15, run16, run17, run18, run19, run20, run21, run22, reduceCtorEq, Nat.reduceEqDiff, Nat.reduceAdd, Nat.reduceSub, Nat.reduceLeDiff, indexAddrA, indexRefA, appendA, strA, Nat.reduceMul, Nat.zero_mul, Nat.reduceMod, Int.reduceEq, Int.reduceLT, Int.reduceLE, Nat.reduceLT, Nat.lt_irrefl, Nat.reduceBEq, tys0, tys1, tys2, tys3, tys4, tys5, tys6, tys7, tys8, tys9, tys10, tys11, Try.ntmps60, Try.results60, swV]
    refine ⟨(s', out ++ plusB), ⟨by simp only [hsz]; omega, by simp only [hsz]; rw [show 21 - (out.size + 1) = 20 - out.size by omega]; exact hgn, by simp only [hsz]; rw [show 21 - (out.size + 1) = 20 - out.size by omega]; exact hrn⟩, by simp only [hsz]; omega, ?_, rfl⟩
    simp only [plusB]
    repeat constructor
  · have hneg' : ¬ cmpI (w64 (w64 (s.an * d) - w64 (n * s.ad))) 0 < 0 := hneg
    have hst : swOk s false ∧ swGood n d (20 - out.size) (swStep s false) (out ++ minusB) := by
      rcases hgd with h | h | h | h
      · exact absurd h hz
      · exact absurd h h20
      · first | exact h.2 | exact absurd h.1 hneg
      · first | exact h.2 | exact absurd hneg h.1
    obtain ⟨hs, hgn⟩ := hst
    have hsz : (out ++ minusB).size = out.size + 1 := by simp [ByteArray.size_append, minusB]; rfl
    have hrn : swRun n d (20 - out.size) (swStep s false) (out ++ minusB) = swRun n d 21 sw0 ⟨#[]⟩ := by rw [← hrun]; simp [swRun, hz, h20, hneg]
    simp only [run0, run1, run2, run3, run4, run5, run6, run7, run8, run9, run10, run11, run12, run13, run14, run15, run16, run17, run18, run19, run20, run21, run22, reduceCtorEq, Nat.reduceEqDiff, Nat.reduceAdd, Nat.reduceSub, Nat.reduceLeDiff, indexAddrA, indexRefA, appendA, strA, Nat.reduceMul, Nat.zero_mul, Nat.reduceMod, Int.reduceEq, Int.reduceLT, Int.reduceLE, Nat.reduceLT, Nat.lt_irrefl, Nat.reduceBEq, tys0, tys1, tys2, tys3, tys4, tys5, tys6, tys7, tys8, tys9, tys10, tys11, Try.ntmps60, Try.results60, e0, e1, e2]
    refine RunL.callp rfl rfl ok_f47 (shCmp_ok _ _ _ _) (by first | rfl | simp only [pureL, pureB, Bool.and_self, Bool.and_true, Bool.true_and]) rfl ?_
    simp only [run0, run1, run2, run3, run4, run5, run6, run7, run8, run9, run10, run11, run12, run13, run14, run15, run16, run17, run18, run19, run20, run21, run22, reduceCtorEq, Nat.reduceEqDiff, Nat.reduceAdd, Nat.reduceSub, Nat.reduceLeDiff, indexAddrA, indexRefA, appendA, strA, Nat.reduceMul, Nat.zero_mul, Nat.reduceMod, Int.reduceEq, Int.reduceLT, Int.reduceLE, Nat.reduceLT, Nat.lt_irrefl, Nat.reduceBEq, tys0, tys1, tys2, tys3, tys4, tys5, tys6, tys7, tys8, tys9, tys10, tys11, Try.ntmps60, Try.results60, hneg', b3, b4]
    refine RunL.callp rfl rfl ok_f78 (step_ok s false hs) (by first | rfl | simp only [pureL, pureB, Bool.and_self, Bool.and_true, Bool.true_and]) rfl ?_
    generalize swStep s false = s' at *
    simp only [run0, run1, run2, run3, run4, run5, run6, run7, run8, run9, run10, run11, run12, run13, run14, run15, run16, run17, run18, run19, run20, run21, run22, reduceCtorEq, Nat.reduceEqDiff, Nat.reduceAdd, Nat.reduceSub, Nat.reduceLeDiff, indexAddrA, indexRefA, appendA, strA, Nat.reduceMul, Nat.zero_mul, Nat.reduceMod, Int.reduceEq, Int.reduceLT, Int.reduceLE, Nat.reduceLT, Nat.lt_irrefl, Nat.reduceBEq, tys0, tys1, tys2, tys3, tys4, tys5, tys6, tys7, tys8, tys9, tys10, tys11, Try.ntmps60, Try.results60, swV]
    refine ⟨(s', out ++ minusB), ⟨by simp only [hsz]; omega, by simp only [hsz]; rw [show 21 - (out.size + 1) = 20 - out.size by omega]; exact hgn, by simp only [hsz]; rw [show 21 - (out.size + 1) = 20 - out.size by omega]; exact hrn⟩, by simp only [hsz]; omega, ?_, rfl⟩
    simp only [minusB]
    repeat constructor

end Go.Proofs.Ytolfjeedgedblaa
