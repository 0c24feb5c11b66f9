/-
  Fractions: sums, differences, products, quotients.
-/
import Derived.Test.YtolfjeedgedblaaF2
import Derived.Test.YtolfjeedgedblaaK17
namespace Go.Proofs.Ytolfjeedgedblaa
open Go K
set_option linter.unusedSimpArgs false
set_option linter.unusedVariables false
set_option maxHeartbeats 400000

theorem gcdL_size : ∀ (n : Nat) (a b : Int), b.natAbs < n → (gcdL n a b).natAbs ≤ max a.natAbs b.natAbs ∧ (b ≠ 0 → gcdL n a b ≠ 0) ∧ (b = 0 → gcdL n a b = a)
  | 0, a, b, h => by omega
  | n + 1, a, b, h => by
    by_cases hb : b = 0
    · subst hb; simp [gcdL]
    · have h1 := tmod_lt (a := a) hb
      obtain ⟨h2, h3, h4⟩ := gcdL_size n b (a.tmod b) (by omega)
      have e : gcdL (n + 1) a b = gcdL n b (a.tmod b) := by simp [gcdL, hb]
      rw [e]
      refine ⟨by omega, fun _ => ?_, fun h => absurd h hb⟩
      by_cases hz : a.tmod b = 0
      · rw [h4 hz]; exact hb
      · exact h3 hz
theorem absW_small {n : Int} (h : n.natAbs ≤ 9000000000000000000) : absW n = n.natAbs := by
  unfold absW
  have := w64_id (x := 0 - n) (by omega) (by omega)
  simp only [w64] at this
  rw [this]
  split <;> omega
theorem gcdI_pos {n d : Int} (hd : d ≠ 0) (h1 : n.natAbs ≤ 9000000000000000) (h2 : d.natAbs ≤ 9000000000000000) : 1 ≤ gcdI n d ∧ gcdI n d ≤ 9000000000000000 := by
  obtain ⟨h3, h4, _⟩ := gcdL_size (d.natAbs + 1) n d (by omega)
  have h5 := h4 hd
  unfold gcdI
  rw [absW_small (by omega)]
  omega

/-- The divisor of a fraction's parts. -/
def mkG (n d : Int) : Int := if d < 0 then IntKind.i64.wrap (0 - gcdI n d) else gcdI n d
def mkN (n d : Int) : Int := w64 (n.tdiv (mkG n d))
def mkD (n d : Int) : Int := w64 (d.tdiv (mkG n d))
def mkOk (n d : Int) : Bool := goodB (mkN n d) (mkD n d)
def small (n d : Int) : Prop := n.natAbs ≤ 9000000000000000 ∧ d.natAbs ≤ 9000000000000000
theorem mkG_ne {n d : Int} (hd : d ≠ 0) (h : small n d) : mkG n d ≠ 0 := by
  obtain ⟨h1, h2⟩ := gcdI_pos hd h.1 h.2
  unfold mkG
  have := w64_id (x := 0 - gcdI n d) (by omega) (by omega)
  simp only [w64] at this
  split
  · rw [this]; omega
  · omega

theorem shMake_ok (n d : Int) (hd : d ≠ 0) (h : small n d) : Ct Try.prog 51 [.int .i64 n, .int .i64 d] [] (fr (mkN n d) (mkD n d)) [] := by
  have hg := mkG_ne hd h
  refine Ct.by_ hmix [] Try.func51 rfl ?_
  simp only [run0, run1, run2, run3, run4, run5, run6, run7, run8, run9, run10, run11, run12, run13, run14, run15, run16, run17, run18, run19, run20, run21, run22, reduceCtorEq, Nat.reduceEqDiff, Nat.reduceAdd, Nat.reduceSub, Nat.reduceLeDiff, indexAddrA, indexRefA, appendA, strA, Nat.reduceMul, Nat.zero_mul, Nat.reduceMod, Int.reduceEq, Int.reduceLT, Int.reduceLE, Nat.reduceLT, Nat.lt_irrefl, Nat.reduceBEq, tys0, tys1, tys2, tys3, tys4, tys5, tys6, tys7, tys8, tys9, tys10, tys11, Try.ntmps51, Try.results51]
  refine RunL.callp rfl rfl ok_f71 (shGcd_ok _ _) (by first | rfl | simp only [pureL, pureB, Bool.and_self, Bool.and_true, Bool.true_and]) rfl ?_
  simp only [run0, run1, run2, run3, run4, run5, run6, run7, run8, run9, run10, run11, run12, run13, run14, run15, run16, run17, run18, run19, run20, run21, run22, reduceCtorEq, Nat.reduceEqDiff, Nat.reduceAdd, Nat.reduceSub, Nat.reduceLeDiff, indexAddrA, indexRefA, appendA, strA, Nat.reduceMul, Nat.zero_mul, Nat.reduceMod, Int.reduceEq, Int.reduceLT, Int.reduceLE, Nat.reduceLT, Nat.lt_irrefl, Nat.reduceBEq, tys0, tys1, tys2, tys3, tys4, tys5, tys6, tys7, tys8, tys9, tys10, tys11, Try.ntmps51, Try.results51]
  refine Wc.split (fun hn => ?_) (fun hn => ?_) <;> simp only [decide_eq_true_eq, decide_eq_false_iff_not] at hn <;> simp only [mkG, hn, if_true, if_false] at hg <;> simp only [run0, run1, run2, run3, run4, run5, run6, run7, run8, run9, run10, run11, run12, run13, run14, run15, run16, run17, run18, run19, run20, run21, run22, reduceCtorEq, Nat.reduceEqDiff, Nat.reduceAdd, Nat.reduceSub, Nat.reduceLeDiff, indexAddrA, indexRefA, appendA, strA, Nat.reduceMul, Nat.zero_mul, Nat.reduceMod, Int.reduceEq, Int.reduceLT, Int.reduceLE, Nat.reduceLT, Nat.lt_irrefl, Nat.reduceBEq, tys0, tys1, tys2, tys3, tys4, tys5, tys6, tys7, tys8, tys9, tys10, tys11, Try.ntmps51, Try.results51, hg, hn]
  · refine ⟨by kernel_rfl, Fin.eq (by simp [fr, mkN, mkD, mkG, hn, w64]) rfl⟩
  · refine ⟨by kernel_rfl, Fin.eq (by simp [fr, mkN, mkD, mkG, hn, w64]) rfl⟩

theorem shIf_ok (x y : Int) : Ct Try.prog 50 [fr x y] [] (.tup [fr (if goodB x y then x else 0) (if goodB x y then y else 0), .bool (goodB x y)]) [] := by
  refine Ct.by_ hmix [] Try.func50 rfl ?_
  simp only [run0, run1, run2, run3, run4, run5, run6, run7, run8, run9, run10, run11, run12, run13, run14, run15, run16, run17, run18, run19, run20, run21, run22, reduceCtorEq, Nat.reduceEqDiff, Nat.reduceAdd, Nat.reduceSub, Nat.reduceLeDiff, indexAddrA, indexRefA, appendA, strA, Nat.reduceMul, Nat.zero_mul, Nat.reduceMod, Int.reduceEq, Int.reduceLT, Int.reduceLE, Nat.reduceLT, Nat.lt_irrefl, Nat.reduceBEq, tys0, tys1, tys2, tys3, tys4, tys5, tys6, tys7, tys8, tys9, tys10, tys11, Try.ntmps50, Try.results50, fr]
  refine RunL.callp rfl rfl ok_f46 (shGood_ok _ _) (by first | rfl | simp only [pureL, pureB, Bool.and_self, Bool.and_true, Bool.true_and]) rfl ?_
  simp only [run0, run1, run2, run3, run4, run5, run6, run7, run8, run9, run10, run11, run12, run13, run14, run15, run16, run17, run18, run19, run20, run21, run22, reduceCtorEq, Nat.reduceEqDiff, Nat.reduceAdd, Nat.reduceSub, Nat.reduceLeDiff, indexAddrA, indexRefA, appendA, strA, Nat.reduceMul, Nat.zero_mul, Nat.reduceMod, Int.reduceEq, Int.reduceLT, Int.reduceLE, Nat.reduceLT, Nat.lt_irrefl, Nat.reduceBEq, tys0, tys1, tys2, tys3, tys4, tys5, tys6, tys7, tys8, tys9, tys10, tys11, Try.ntmps50, Try.results50, fr]
  refine Wc.split (fun h => ?_) (fun h => ?_) <;> simp only [run0, run1, run2, run3, run4, run5, run6, run7, run8, run9, run10, run11, run12, run13, run14, run15, run16, run17, run18, run19, run20, run21, run22, reduceCtorEq, Nat.reduceEqDiff, Nat.reduceAdd, Nat.reduceSub, Nat.reduceLeDiff, indexAddrA, indexRefA, appendA, strA, Nat.reduceMul, Nat.zero_mul, Nat.reduceMod, Int.reduceEq, Int.reduceLT, Int.reduceLE, Nat.reduceLT, Nat.lt_irrefl, Nat.reduceBEq, tys0, tys1, tys2, tys3, tys4, tys5, tys6, tys7, tys8, tys9, tys10, tys11, Try.ntmps50, Try.results50, h] <;> exact Fin.eq (by simp_all [fr]) rfl

theorem made_ok (n d : Int) (h : small n d) : Ct Try.prog 76 [.int .i64 n, .int .i64 d] [] (.tup [fr (if d ≠ 0 ∧ mkOk n d then mkN n d else 0) (if d ≠ 0 ∧ mkOk n d then mkD n d else 0), .bool (decide (d ≠ 0) && mkOk n d)]) [] := by
  refine Ct.by_ hmix [] Try.func76 rfl ?_
  by_cases hd : d = 0
  · subst hd
    simp only [run0, run1, run2, run3, run4, run5, run6, run7, run8, run9, run10, run11, run12, run13, run14, run15, run16, run17, run18, run19, run20, run21, run22, reduceCtorEq, Nat.reduceEqDiff, Nat.reduceAdd, Nat.reduceSub, Nat.reduceLeDiff, indexAddrA, indexRefA, appendA, strA, Nat.reduceMul, Nat.zero_mul, Nat.reduceMod, Int.reduceEq, Int.reduceLT, Int.reduceLE, Nat.reduceLT, Nat.lt_irrefl, Nat.reduceBEq, tys0, tys1, tys2, tys3, tys4, tys5, tys6, tys7, tys8, tys9, tys10, tys11, Try.ntmps76, Try.results76]
    exact Fin.eq (by simp [fr]) rfl
  have hg := mkG_ne hd h
  have hd1 : (d == 0) = false := by simp [hd]
  simp only [run0, run1, run2, run3, run4, run5, run6, run7, run8, run9, run10, run11, run12, run13, run14, run15, run16, run17, run18, run19, run20, run21, run22, reduceCtorEq, Nat.reduceEqDiff, Nat.reduceAdd, Nat.reduceSub, Nat.reduceLeDiff, indexAddrA, indexRefA, appendA, strA, Nat.reduceMul, Nat.zero_mul, Nat.reduceMod, Int.reduceEq, Int.reduceLT, Int.reduceLE, Nat.reduceLT, Nat.lt_irrefl, Nat.reduceBEq, tys0, tys1, tys2, tys3, tys4, tys5, tys6, tys7, tys8, tys9, tys10, tys11, Try.ntmps76, Try.results76, hd1, hd]
  refine RunL.callp rfl rfl ok_f74 (gcd_ok _ _) (by first | rfl | simp only [pureL, pureB, Bool.and_self, Bool.and_true, Bool.true_and]) rfl ?_
  simp only [run0, run1, run2, run3, run4, run5, run6, run7, run8, run9, run10, run11, run12, run13, run14, run15, run16, run17, run18, run19, run20, run21, run22, reduceCtorEq, Nat.reduceEqDiff, Nat.reduceAdd, Nat.reduceSub, Nat.reduceLeDiff, indexAddrA, indexRefA, appendA, strA, Nat.reduceMul, Nat.zero_mul, Nat.reduceMod, Int.reduceEq, Int.reduceLT, Int.reduceLE, Nat.reduceLT, Nat.lt_irrefl, Nat.reduceBEq, tys0, tys1, tys2, tys3, tys4, tys5, tys6, tys7, tys8, tys9, tys10, tys11, Try.ntmps76, Try.results76]
  refine Wc.split (fun hn => ?_) (fun hn => ?_) <;> simp only [decide_eq_true_eq, decide_eq_false_iff_not] at hn <;> simp only [mkG, hn, if_true, if_false] at hg <;> simp only [run0, run1, run2, run3, run4, run5, run6, run7, run8, run9, run10, run11, run12, run13, run14, run15, run16, run17, run18, run19, run20, run21, run22, reduceCtorEq, Nat.reduceEqDiff, Nat.reduceAdd, Nat.reduceSub, Nat.reduceLeDiff, indexAddrA, indexRefA, appendA, strA, Nat.reduceMul, Nat.zero_mul, Nat.reduceMod, Int.reduceEq, Int.reduceLT, Int.reduceLE, Nat.reduceLT, Nat.lt_irrefl, Nat.reduceBEq, tys0, tys1, tys2, tys3, tys4, tys5, tys6, tys7, tys8, tys9, tys10, tys11, Try.ntmps76, Try.results76, hg, hn]
  · refine ⟨by kernel_rfl, ?_⟩
    refine RunL.callp rfl rfl ok_f48 (good_ok _ _) (by first | rfl | simp only [pureL, pureB, Bool.and_self, Bool.and_true, Bool.true_and]) rfl ?_
    simp only [run0, run1, run2, run3, run4, run5, run6, run7, run8, run9, run10, run11, run12, run13, run14, run15, run16, run17, run18, run19, run20, run21, run22, reduceCtorEq, Nat.reduceEqDiff, Nat.reduceAdd, Nat.reduceSub, Nat.reduceLeDiff, indexAddrA, indexRefA, appendA, strA, Nat.reduceMul, Nat.zero_mul, Nat.reduceMod, Int.reduceEq, Int.reduceLT, Int.reduceLE, Nat.reduceLT, Nat.lt_irrefl, Nat.reduceBEq, tys0, tys1, tys2, tys3, tys4, tys5, tys6, tys7, tys8, tys9, tys10, tys11, Try.ntmps76, Try.results76]
    refine Wc.split (fun h3 => ?_) (fun h3 => ?_) <;> simp only [run0, run1, run2, run3, run4, run5, run6, run7, run8, run9, run10, run11, run12, run13, run14, run15, run16, run17, run18, run19, run20, run21, run22, reduceCtorEq, Nat.reduceEqDiff, Nat.reduceAdd, Nat.reduceSub, Nat.reduceLeDiff, indexAddrA, indexRefA, appendA, strA, Nat.reduceMul, Nat.zero_mul, Nat.reduceMod, Int.reduceEq, Int.reduceLT, Int.reduceLE, Nat.reduceLT, Nat.lt_irrefl, Nat.reduceBEq, tys0, tys1, tys2, tys3, tys4, tys5, tys6, tys7, tys8, tys9, tys10, tys11, Try.ntmps76, Try.results76, h3] <;> simp only [mkOk, mkN, mkD, mkG, hn, if_true, if_false, w64] <;> exact Fin.eq (by simp_all [fr]) rfl
  · refine ⟨by kernel_rfl, ?_⟩
    refine RunL.callp rfl rfl ok_f48 (good_ok _ _) (by first | rfl | simp only [pureL, pureB, Bool.and_self, Bool.and_true, Bool.true_and]) rfl ?_
    simp only [run0, run1, run2, run3, run4, run5, run6, run7, run8, run9, run10, run11, run12, run13, run14, run15, run16, run17, run18, run19, run20, run21, run22, reduceCtorEq, Nat.reduceEqDiff, Nat.reduceAdd, Nat.reduceSub, Nat.reduceLeDiff, indexAddrA, indexRefA, appendA, strA, Nat.reduceMul, Nat.zero_mul, Nat.reduceMod, Int.reduceEq, Int.reduceLT, Int.reduceLE, Nat.reduceLT, Nat.lt_irrefl, Nat.reduceBEq, tys0, tys1, tys2, tys3, tys4, tys5, tys6, tys7, tys8, tys9, tys10, tys11, Try.ntmps76, Try.results76]
    refine Wc.split (fun h3 => ?_) (fun h3 => ?_) <;> simp only [run0, run1, run2, run3, run4, run5, run6, run7, run8, run9, run10, run11, run12, run13, run14, run15, run16, run17, run18, run19, run20, run21, run22, reduceCtorEq, Nat.reduceEqDiff, Nat.reduceAdd, Nat.reduceSub, Nat.reduceLeDiff, indexAddrA, indexRefA, appendA, strA, Nat.reduceMul, Nat.zero_mul, Nat.reduceMod, Int.reduceEq, Int.reduceLT, Int.reduceLE, Nat.reduceLT, Nat.lt_irrefl, Nat.reduceBEq, tys0, tys1, tys2, tys3, tys4, tys5, tys6, tys7, tys8, tys9, tys10, tys11, Try.ntmps76, Try.results76, h3] <;> simp only [mkOk, mkN, mkD, mkG, hn, if_true, if_false, w64] <;> exact Fin.eq (by simp_all [fr]) rfl

end Go.Proofs.Ytolfjeedgedblaa
