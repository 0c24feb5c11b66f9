/-
  Short numbers: the reference's number of a word.
-/
import Derived.Test.YtolfjeedgedblaaF15
namespace Go.Proofs.Ytolfjeedgedblaa
open Go K
set_option linter.unusedSimpArgs false
set_option linter.unusedVariables false
set_option maxHeartbeats 400000

def isPlus (s : ByteArray) (k : Nat) : Bool := s.data.getD k 0 == 43
def swAt (s : ByteArray) : Nat → Sw
  | 0 => sw0
  | k + 1 => swStep (swAt s k) (isPlus s k)
def vlSt (s : ByteArray) (k : Nat) : St :=
  ⟨[.str s, .junk, .ptr 0 0, .ptr 1 0, .int .i64 k, .junk, .junk, .junk, .junk, .junk, .junk, .junk, .junk, .junk, .junk, .junk, .junk, .junk, .junk, .junk],
   [.box 26 [.int .i64 0, .int .i64 0], .box 76 [.int .i64 (swAt s k).an, .int .i64 (swAt s k).ad, .int .i64 (swAt s k).ln, .int .i64 (swAt s k).ld, .int .i64 (swAt s k).hn, .int .i64 (swAt s k).hd, .bool (swAt s k).hasL, .bool (swAt s k).hasH]]⟩

theorem shValue_ok (s : ByteArray) (hs : s.size ≤ 1000) (hok : ∀ k, k < s.size → swOk (swAt s k) (isPlus s k)) : Ct Try.prog 62 [.str s] [] (fr (swAt s s.size).an (swAt s s.size).ad) [] := by
  refine Ct.by_ hmix [] Try.func62 rfl ?_
  simp only [run0, run1, run2, run3, run4, run5, run6, run7, run8, run9, run10, run11, run12, run13, run14, run15, run16, run17, run18, run19, run20, run21, run22, reduceCtorEq, Nat.reduceEqDiff, Nat.reduceAdd, Nat.reduceSub, Nat.reduceLeDiff, indexAddrA, indexRefA, appendA, strA, Nat.reduceMul, Nat.zero_mul, Nat.reduceMod, Int.reduceEq, Int.reduceLT, Int.reduceLE, Nat.reduceLT, Nat.lt_irrefl, Nat.reduceBEq, tys0, tys1, tys2, tys3, tys4, tys5, tys6, tys7, tys8, tys9, tys10, tys11, Try.ntmps62, Try.results62, fr]
  refine RunL.callp rfl rfl ok_f77 (shStart_ok) (by first | rfl | simp only [pureL, pureB, Bool.and_self, Bool.and_true, Bool.true_and]) rfl ?_
  simp only [run0, run1, run2, run3, run4, run5, run6, run7, run8, run9, run10, run11, run12, run13, run14, run15, run16, run17, run18, run19, run20, run21, run22, reduceCtorEq, Nat.reduceEqDiff, Nat.reduceAdd, Nat.reduceSub, Nat.reduceLeDiff, indexAddrA, indexRefA, appendA, strA, Nat.reduceMul, Nat.zero_mul, Nat.reduceMod, Int.reduceEq, Int.reduceLT, Int.reduceLE, Nat.reduceLT, Nat.lt_irrefl, Nat.reduceBEq, tys0, tys1, tys2, tys3, tys4, tys5, tys6, tys7, tys8, tys9, tys10, tys11, Try.ntmps62, Try.results62, fr, swV]
  refine AWp.loop_inv (vlSt s) (fun k => k ≤ s.size) (fun k => s.size - k) 0 (Nat.zero_le _) ⟨?_, rfl⟩ ?_
  · simp only [vlSt]
    repeat constructor
  intro k hk
  simp only [vlSt]
  refine W.sound hmix (E := []) ?_
  by_cases h : k < s.size
  · have e0 : (k : Int) < (s.size : Int) := by omega
    have e1 := index_str h
    have e2 : (((s.data.getD k 0).toNat : Int) == 43) = isPlus s k := by
      unfold isPlus
      rw [Bool.eq_iff_iff]; simp only [beq_iff_eq]
      constructor
      · intro he; exact UInt8.toNat_inj.1 (by simpa using (show (s.data.getD k 0).toNat = 43 by omega))
      · intro he; rw [he]; rfl
    have e3 : IntKind.i64.wrap ((k : Int) + 1) = (k : Int) + 1 := w64_small (by omega)
    simp only [run0, run1, run2, run3, run4, run5, run6, run7, run8, run9, run10, run11, run12, run13, run14, run15, run16, run17, run18, run19, run20, run21, run22, reduceCtorEq, Nat.reduceEqDiff, Nat.reduceAdd, Nat.reduceSub, Nat.reduceLeDiff, indexAddrA, indexRefA, appendA, strA, Nat.reduceMul, Nat.zero_mul, Nat.reduceMod, Int.reduceEq, Int.reduceLT, Int.reduceLE, Nat.reduceLT, Nat.lt_irrefl, Nat.reduceBEq, tys0, tys1, tys2, tys3, tys4, tys5, tys6, tys7, tys8, tys9, tys10, tys11, Try.ntmps62, Try.results62, e0, e1, e2, e3]
    refine ⟨by kernel_rfl, ?_⟩
    refine RunL.callp rfl rfl ok_f78 (step_ok (swAt s k) _ (hok k h)) (by first | rfl | simp only [pureL, pureB, Bool.and_self, Bool.and_true, Bool.true_and]) rfl ?_
    simp only [run0, run1, run2, run3, run4, run5, run6, run7, run8, run9, run10, run11, run12, run13, run14, run15, run16, run17, run18, run19, run20, run21, run22, reduceCtorEq, Nat.reduceEqDiff, Nat.reduceAdd, Nat.reduceSub, Nat.reduceLeDiff, indexAddrA, indexRefA, appendA, strA, Nat.reduceMul, Nat.zero_mul, Nat.reduceMod, Int.reduceEq, Int.reduceLT, Int.reduceLE, Nat.reduceLT, Nat.lt_irrefl, Nat.reduceBEq, tys0, tys1, tys2, tys3, tys4, tys5, tys6, tys7, tys8, tys9, tys10, tys11, Try.ntmps62, Try.results62, swV, e3]
    refine ⟨k + 1, by omega, by omega, ?_, rfl⟩
    rw [show ((k + 1 : Nat) : Int) = (k : Int) + 1 by omega]
    repeat constructor
  · have e0 : ¬ (k : Int) < (s.size : Int) := by omega
    obtain rfl : k = s.size := by omega
    simp only [run0, run1, run2, run3, run4, run5, run6, run7, run8, run9, run10, run11, run12, run13, run14, run15, run16, run17, run18, run19, run20, run21, run22, reduceCtorEq, Nat.reduceEqDiff, Nat.reduceAdd, Nat.reduceSub, Nat.reduceLeDiff, indexAddrA, indexRefA, appendA, strA, Nat.reduceMul, Nat.zero_mul, Nat.reduceMod, Int.reduceEq, Int.reduceLT, Int.reduceLE, Nat.reduceLT, Nat.lt_irrefl, Nat.reduceBEq, tys0, tys1, tys2, tys3, tys4, tys5, tys6, tys7, tys8, tys9, tys10, tys11, Try.ntmps62, Try.results62, e0]
    exact Fin.eq rfl rfl

end Go.Proofs.Ytolfjeedgedblaa
