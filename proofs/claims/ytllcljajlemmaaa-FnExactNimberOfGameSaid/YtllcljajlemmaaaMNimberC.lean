/-
  Texts joined in one: F1, F2, F3, F4, F5, F6, F7, F8, F9, F10, F11, F12, F13, F14, F15, F16, F18, F20, K21, K22, K23, I1, I2.
-/
import Derived.Test.YtllcljajlemmaaaMNimberB
import Derived.Maps.Keyed
import Derived.WideKeyPair
import Derived.ChangeMaps5
/-
  Fractions: what the small functions of the program and of the reference come to.
-/
namespace Go.Proofs.Ytllcljajlemmaaa
open Go K
set_option linter.unusedSimpArgs false
set_option linter.unusedVariables false
set_option maxHeartbeats 400000

/-- A fraction as a value. -/
def fr (n d : Int) : AV := .agg [.int .i64 n, .int .i64 d]

def inB (n lo hi : Int) : Bool := decide (lo ≤ n) && decide (n ≤ hi)
theorem in_ok (n lo hi : Int) : Ct Try.prog 94 [.int .i64 n, .int .i64 lo, .int .i64 hi] [] (.bool (inB n lo hi)) [] := by
  refine Ct.by_ hmix [] Try.func94 rfl ?_
  simp only [run0, run1, run2, run3, run4, run5, run6, run7, run8, run9, run10, run11, run12, run13, run14, run15, run16, run17, run18, run19, run20, run21, run22, reduceCtorEq, Nat.reduceEqDiff, Nat.reduceAdd, Nat.reduceSub, Nat.reduceLeDiff, indexAddrA, indexRefA, appendA, strA, Nat.reduceMul, Nat.zero_mul, Nat.reduceMod, Int.reduceEq, Int.reduceLT, Int.reduceLE, Nat.reduceLT, Nat.lt_irrefl, Nat.reduceBEq, tys0, tys1, tys2, tys3, tys4, tys5, tys6, tys7, tys8, tys9, tys10, tys11, tys12, tys13, tys14, tys15, tys16, tys17, tys18, tys19, tys20, tys21, tys22, tys23, Try.ntmps94, Try.results94]
  refine Rg.split (fun h => ?_) (fun h => ?_) <;> simp only [run0, run1, run2, run3, run4, run5, run6, run7, run8, run9, run10, run11, run12, run13, run14, run15, run16, run17, run18, run19, run20, run21, run22, reduceCtorEq, Nat.reduceEqDiff, Nat.reduceAdd, Nat.reduceSub, Nat.reduceLeDiff, indexAddrA, indexRefA, appendA, strA, Nat.reduceMul, Nat.zero_mul, Nat.reduceMod, Int.reduceEq, Int.reduceLT, Int.reduceLE, Nat.reduceLT, Nat.lt_irrefl, Nat.reduceBEq, tys0, tys1, tys2, tys3, tys4, tys5, tys6, tys7, tys8, tys9, tys10, tys11, tys12, tys13, tys14, tys15, tys16, tys17, tys18, tys19, tys20, tys21, tys22, tys23, Try.ntmps94, Try.results94, h] <;> exact Fin.eq (by simp [inB, h]) rfl
theorem l1In_ok (n lo hi : Int) : Ct Try.prog 64 [.int .i64 n, .int .i64 lo, .int .i64 hi] [] (.bool (inB n lo hi)) [] := by
  refine Ct.by_ hmix [] Try.func64 rfl ?_
  simp only [run0, run1, run2, run3, run4, run5, run6, run7, run8, run9, run10, run11, run12, run13, run14, run15, run16, run17, run18, run19, run20, run21, run22, reduceCtorEq, Nat.reduceEqDiff, Nat.reduceAdd, Nat.reduceSub, Nat.reduceLeDiff, indexAddrA, indexRefA, appendA, strA, Nat.reduceMul, Nat.zero_mul, Nat.reduceMod, Int.reduceEq, Int.reduceLT, Int.reduceLE, Nat.reduceLT, Nat.lt_irrefl, Nat.reduceBEq, tys0, tys1, tys2, tys3, tys4, tys5, tys6, tys7, tys8, tys9, tys10, tys11, tys12, tys13, tys14, tys15, tys16, tys17, tys18, tys19, tys20, tys21, tys22, tys23, Try.ntmps64, Try.results64]
  refine Rg.split (fun h => ?_) (fun h => ?_) <;> simp only [run0, run1, run2, run3, run4, run5, run6, run7, run8, run9, run10, run11, run12, run13, run14, run15, run16, run17, run18, run19, run20, run21, run22, reduceCtorEq, Nat.reduceEqDiff, Nat.reduceAdd, Nat.reduceSub, Nat.reduceLeDiff, indexAddrA, indexRefA, appendA, strA, Nat.reduceMul, Nat.zero_mul, Nat.reduceMod, Int.reduceEq, Int.reduceLT, Int.reduceLE, Nat.reduceLT, Nat.lt_irrefl, Nat.reduceBEq, tys0, tys1, tys2, tys3, tys4, tys5, tys6, tys7, tys8, tys9, tys10, tys11, tys12, tys13, tys14, tys15, tys16, tys17, tys18, tys19, tys20, tys21, tys22, tys23, Try.ntmps64, Try.results64, h] <;> exact Fin.eq (by simp [inB, h]) rfl

def absW (n : Int) : Int := if n < IntKind.i64.wrap (0 - n) then IntKind.i64.wrap (0 - n) else n
theorem size_ok (n : Int) : Ct Try.prog 161 [.int .i64 n] [] (.int .i64 (absW n)) [] := by
  refine Ct.by_ hmix [] Try.func161 rfl ?_
  simp only [run0, run1, run2, run3, run4, run5, run6, run7, run8, run9, run10, run11, run12, run13, run14, run15, run16, run17, run18, run19, run20, run21, run22, reduceCtorEq, Nat.reduceEqDiff, Nat.reduceAdd, Nat.reduceSub, Nat.reduceLeDiff, indexAddrA, indexRefA, appendA, strA, Nat.reduceMul, Nat.zero_mul, Nat.reduceMod, Int.reduceEq, Int.reduceLT, Int.reduceLE, Nat.reduceLT, Nat.lt_irrefl, Nat.reduceBEq, tys0, tys1, tys2, tys3, tys4, tys5, tys6, tys7, tys8, tys9, tys10, tys11, tys12, tys13, tys14, tys15, tys16, tys17, tys18, tys19, tys20, tys21, tys22, tys23, Try.ntmps161, Try.results161]
  exact Fin.eq rfl rfl
theorem l1Most_ok (a b : Int) : Ct Try.prog 184 [.int .i64 a, .int .i64 b] [] (.int .i64 (if b < a then a else b)) [] := by
  refine Ct.by_ hmix [] Try.func184 rfl ?_
  simp only [run0, run1, run2, run3, run4, run5, run6, run7, run8, run9, run10, run11, run12, run13, run14, run15, run16, run17, run18, run19, run20, run21, run22, reduceCtorEq, Nat.reduceEqDiff, Nat.reduceAdd, Nat.reduceSub, Nat.reduceLeDiff, indexAddrA, indexRefA, appendA, strA, Nat.reduceMul, Nat.zero_mul, Nat.reduceMod, Int.reduceEq, Int.reduceLT, Int.reduceLE, Nat.reduceLT, Nat.lt_irrefl, Nat.reduceBEq, tys0, tys1, tys2, tys3, tys4, tys5, tys6, tys7, tys8, tys9, tys10, tys11, tys12, tys13, tys14, tys15, tys16, tys17, tys18, tys19, tys20, tys21, tys22, tys23, Try.ntmps184, Try.results184]
  refine Wc.split (fun h => ?_) (fun h => ?_) <;> simp only [run0, run1, run2, run3, run4, run5, run6, run7, run8, run9, run10, run11, run12, run13, run14, run15, run16, run17, run18, run19, run20, run21, run22, reduceCtorEq, Nat.reduceEqDiff, Nat.reduceAdd, Nat.reduceSub, Nat.reduceLeDiff, indexAddrA, indexRefA, appendA, strA, Nat.reduceMul, Nat.zero_mul, Nat.reduceMod, Int.reduceEq, Int.reduceLT, Int.reduceLE, Nat.reduceLT, Nat.lt_irrefl, Nat.reduceBEq, tys0, tys1, tys2, tys3, tys4, tys5, tys6, tys7, tys8, tys9, tys10, tys11, tys12, tys13, tys14, tys15, tys16, tys17, tys18, tys19, tys20, tys21, tys22, tys23, Try.ntmps184, Try.results184, h] <;> simp at h <;> exact Fin.eq (by simp [h]; try omega) rfl
theorem l1Abs_ok (n : Int) : Ct Try.prog 176 [.int .i64 n] [] (.int .i64 (absW n)) [] := by
  refine Ct.by_ hmix [] Try.func176 rfl ?_
  simp only [run0, run1, run2, run3, run4, run5, run6, run7, run8, run9, run10, run11, run12, run13, run14, run15, run16, run17, run18, run19, run20, run21, run22, reduceCtorEq, Nat.reduceEqDiff, Nat.reduceAdd, Nat.reduceSub, Nat.reduceLeDiff, indexAddrA, indexRefA, appendA, strA, Nat.reduceMul, Nat.zero_mul, Nat.reduceMod, Int.reduceEq, Int.reduceLT, Int.reduceLE, Nat.reduceLT, Nat.lt_irrefl, Nat.reduceBEq, tys0, tys1, tys2, tys3, tys4, tys5, tys6, tys7, tys8, tys9, tys10, tys11, tys12, tys13, tys14, tys15, tys16, tys17, tys18, tys19, tys20, tys21, tys22, tys23, Try.ntmps176, Try.results176]
  refine RunL.callp rfl rfl ok_f184 (l1Most_ok _ _) (by first | rfl | simp only [pureL, pureB, Bool.and_self, Bool.and_true, Bool.true_and]) rfl ?_
  simp only [run0, run1, run2, run3, run4, run5, run6, run7, run8, run9, run10, run11, run12, run13, run14, run15, run16, run17, run18, run19, run20, run21, run22, reduceCtorEq, Nat.reduceEqDiff, Nat.reduceAdd, Nat.reduceSub, Nat.reduceLeDiff, indexAddrA, indexRefA, appendA, strA, Nat.reduceMul, Nat.zero_mul, Nat.reduceMod, Int.reduceEq, Int.reduceLT, Int.reduceLE, Nat.reduceLT, Nat.lt_irrefl, Nat.reduceBEq, tys0, tys1, tys2, tys3, tys4, tys5, tys6, tys7, tys8, tys9, tys10, tys11, tys12, tys13, tys14, tys15, tys16, tys17, tys18, tys19, tys20, tys21, tys22, tys23, Try.ntmps176, Try.results176]
  refine Fin.eq ?_ rfl
  unfold absW
  congr 1
  split <;> split <;> omega

def gcdL : Nat → Int → Int → Int
  | 0, a, _ => a
  | n + 1, a, b => if b = 0 then a else gcdL n b (a.tmod b)
def gcdI (a b : Int) : Int := absW (gcdL (b.natAbs + 1) a b)
theorem tmod_lt {a b : Int} (h : b ≠ 0) : (a.tmod b).natAbs < b.natAbs := by
  rw [Int.natAbs_tmod]
  exact Nat.mod_lt _ (by omega)
theorem gcdL_step {a b : Int} (h : b ≠ 0) : ∀ n m, b.natAbs < n → b.natAbs < m → gcdL n a b = gcdL m a b := by
  intro n
  induction n generalizing a b with
  | zero => intro m h; omega
  | succ n ih =>
    intro m hn hm
    obtain ⟨m, rfl⟩ : ∃ k, m = k + 1 := ⟨m - 1, by omega⟩
    simp only [gcdL, h, if_false]
    by_cases hz : a.tmod b = 0
    · rw [hz]
      have h1 : ∀ k, gcdL k b 0 = b := by intro k; cases k <;> simp [gcdL]
      rw [h1, h1]
    · have := tmod_lt (a := a) h
      exact ih hz m (by omega) (by omega)
theorem gcdL_next {a b : Int} (h : b ≠ 0) : gcdL (b.natAbs + 1) a b = gcdL ((a.tmod b).natAbs + 1) b (a.tmod b) := by
  have := tmod_lt (a := a) h
  rw [show gcdL (b.natAbs + 1) a b = gcdL b.natAbs b (a.tmod b) by simp [gcdL, h]]
  by_cases hz : a.tmod b = 0
  · rw [hz]
    have h1 : ∀ k, gcdL k b 0 = b := by intro k; cases k <;> simp [gcdL]
    rw [h1, h1]
  · exact gcdL_step hz _ _ (by omega) (by omega)

theorem gcd_ok (a b : Int) : Ct Try.prog 136 [.int .i64 a, .int .i64 b] [] (.int .i64 (gcdI a b)) [] := by
  refine Ct.by_ hmix [] Try.func136 rfl ?_
  simp only [run0, run1, run2, run3, run4, run5, run6, run7, run8, run9, run10, run11, run12, run13, run14, run15, run16, run17, run18, run19, run20, run21, run22, reduceCtorEq, Nat.reduceEqDiff, Nat.reduceAdd, Nat.reduceSub, Nat.reduceLeDiff, indexAddrA, indexRefA, appendA, strA, Nat.reduceMul, Nat.zero_mul, Nat.reduceMod, Int.reduceEq, Int.reduceLT, Int.reduceLE, Nat.reduceLT, Nat.lt_irrefl, Nat.reduceBEq, tys0, tys1, tys2, tys3, tys4, tys5, tys6, tys7, tys8, tys9, tys10, tys11, tys12, tys13, tys14, tys15, tys16, tys17, tys18, tys19, tys20, tys21, tys22, tys23, Try.ntmps136, Try.results136]
  refine AWp.loop_inv (ι := Int × Int) (fun p => ⟨[.int .i64 p.1, .int .i64 p.2, .junk, .junk, .int .i64 0, .junk, .junk, .junk, .junk, .junk, .junk, .junk, .junk], []⟩)
    (fun p => gcdL (p.2.natAbs + 1) p.1 p.2 = gcdL (b.natAbs + 1) a b) (fun p => p.2.natAbs) (a, b) rfl ⟨JL.refl _, rfl⟩ ?_
  rintro ⟨x, y⟩ hI
  refine W.sound hmix (E := []) ?_
  by_cases hy : y = 0
  · subst hy
    simp only [run0, run1, run2, run3, run4, run5, run6, run7, run8, run9, run10, run11, run12, run13, run14, run15, run16, run17, run18, run19, run20, run21, run22, reduceCtorEq, Nat.reduceEqDiff, Nat.reduceAdd, Nat.reduceSub, Nat.reduceLeDiff, indexAddrA, indexRefA, appendA, strA, Nat.reduceMul, Nat.zero_mul, Nat.reduceMod, Int.reduceEq, Int.reduceLT, Int.reduceLE, Nat.reduceLT, Nat.lt_irrefl, Nat.reduceBEq, tys0, tys1, tys2, tys3, tys4, tys5, tys6, tys7, tys8, tys9, tys10, tys11, tys12, tys13, tys14, tys15, tys16, tys17, tys18, tys19, tys20, tys21, tys22, tys23, Try.ntmps136, Try.results136, bne_self_eq_false]
    refine RunL.callp rfl rfl ok_f161 (size_ok _) (by first | rfl | simp only [pureL, pureB, Bool.and_self, Bool.and_true, Bool.true_and]) rfl ?_
    simp only [run0, run1, run2, run3, run4, run5, run6, run7, run8, run9, run10, run11, run12, run13, run14, run15, run16, run17, run18, run19, run20, run21, run22, reduceCtorEq, Nat.reduceEqDiff, Nat.reduceAdd, Nat.reduceSub, Nat.reduceLeDiff, indexAddrA, indexRefA, appendA, strA, Nat.reduceMul, Nat.zero_mul, Nat.reduceMod, Int.reduceEq, Int.reduceLT, Int.reduceLE, Nat.reduceLT, Nat.lt_irrefl, Nat.reduceBEq, tys0, tys1, tys2, tys3, tys4, tys5, tys6, tys7, tys8, tys9, tys10, tys11, tys12, tys13, tys14, tys15, tys16, tys17, tys18, tys19, tys20, tys21, tys22, tys23, Try.ntmps136, Try.results136]
    refine Fin.eq ?_ rfl
    unfold gcdI
    rw [← hI]
    simp [gcdL]
  · have e1 : (y != 0) = true := by simp [hy]
    simp only [run0, run1, run2, run3, run4, run5, run6, run7, run8, run9, run10, run11, run12, run13, run14, run15, run16, run17, run18, run19, run20, run21, run22, reduceCtorEq, Nat.reduceEqDiff, Nat.reduceAdd, Nat.reduceSub, Nat.reduceLeDiff, indexAddrA, indexRefA, appendA, strA, Nat.reduceMul, Nat.zero_mul, Nat.reduceMod, Int.reduceEq, Int.reduceLT, Int.reduceLE, Nat.reduceLT, Nat.lt_irrefl, Nat.reduceBEq, tys0, tys1, tys2, tys3, tys4, tys5, tys6, tys7, tys8, tys9, tys10, tys11, tys12, tys13, tys14, tys15, tys16, tys17, tys18, tys19, tys20, tys21, tys22, tys23, Try.ntmps136, Try.results136, hy, e1]
    refine ⟨by kernel_rfl, (y, x.tmod y), ?_, tmod_lt hy, ?_⟩
    · rw [← gcdL_next hy]; exact hI
    · repeat constructor
theorem shGcd_ok (a b : Int) : Ct Try.prog 151 [.int .i64 a, .int .i64 b] [] (.int .i64 (gcdI a b)) [] := by
  refine Ct.by_ hmix [] Try.func151 rfl ?_
  simp only [run0, run1, run2, run3, run4, run5, run6, run7, run8, run9, run10, run11, run12, run13, run14, run15, run16, run17, run18, run19, run20, run21, run22, reduceCtorEq, Nat.reduceEqDiff, Nat.reduceAdd, Nat.reduceSub, Nat.reduceLeDiff, indexAddrA, indexRefA, appendA, strA, Nat.reduceMul, Nat.zero_mul, Nat.reduceMod, Int.reduceEq, Int.reduceLT, Int.reduceLE, Nat.reduceLT, Nat.lt_irrefl, Nat.reduceBEq, tys0, tys1, tys2, tys3, tys4, tys5, tys6, tys7, tys8, tys9, tys10, tys11, tys12, tys13, tys14, tys15, tys16, tys17, tys18, tys19, tys20, tys21, tys22, tys23, Try.ntmps151, Try.results151]
  refine AWp.loop_inv (ι := Int × Int) (fun p => ⟨[.int .i64 p.1, .int .i64 p.2, .junk, .junk, .int .i64 0, .junk, .junk, .junk, .junk, .junk, .junk, .junk, .junk], []⟩)
    (fun p => gcdL (p.2.natAbs + 1) p.1 p.2 = gcdL (b.natAbs + 1) a b) (fun p => p.2.natAbs) (a, b) rfl ⟨JL.refl _, rfl⟩ ?_
  rintro ⟨x, y⟩ hI
  refine W.sound hmix (E := []) ?_
  by_cases hy : y = 0
  · subst hy
    simp only [run0, run1, run2, run3, run4, run5, run6, run7, run8, run9, run10, run11, run12, run13, run14, run15, run16, run17, run18, run19, run20, run21, run22, reduceCtorEq, Nat.reduceEqDiff, Nat.reduceAdd, Nat.reduceSub, Nat.reduceLeDiff, indexAddrA, indexRefA, appendA, strA, Nat.reduceMul, Nat.zero_mul, Nat.reduceMod, Int.reduceEq, Int.reduceLT, Int.reduceLE, Nat.reduceLT, Nat.lt_irrefl, Nat.reduceBEq, tys0, tys1, tys2, tys3, tys4, tys5, tys6, tys7, tys8, tys9, tys10, tys11, tys12, tys13, tys14, tys15, tys16, tys17, tys18, tys19, tys20, tys21, tys22, tys23, Try.ntmps151, Try.results151, bne_self_eq_false]
    refine RunL.callp rfl rfl ok_f176 (l1Abs_ok _) (by first | rfl | simp only [pureL, pureB, Bool.and_self, Bool.and_true, Bool.true_and]) rfl ?_
    simp only [run0, run1, run2, run3, run4, run5, run6, run7, run8, run9, run10, run11, run12, run13, run14, run15, run16, run17, run18, run19, run20, run21, run22, reduceCtorEq, Nat.reduceEqDiff, Nat.reduceAdd, Nat.reduceSub, Nat.reduceLeDiff, indexAddrA, indexRefA, appendA, strA, Nat.reduceMul, Nat.zero_mul, Nat.reduceMod, Int.reduceEq, Int.reduceLT, Int.reduceLE, Nat.reduceLT, Nat.lt_irrefl, Nat.reduceBEq, tys0, tys1, tys2, tys3, tys4, tys5, tys6, tys7, tys8, tys9, tys10, tys11, tys12, tys13, tys14, tys15, tys16, tys17, tys18, tys19, tys20, tys21, tys22, tys23, Try.ntmps151, Try.results151]
    refine Fin.eq ?_ rfl
    unfold gcdI
    rw [← hI]
    simp [gcdL]
  · have e1 : (y != 0) = true := by simp [hy]
    simp only [run0, run1, run2, run3, run4, run5, run6, run7, run8, run9, run10, run11, run12, run13, run14, run15, run16, run17, run18, run19, run20, run21, run22, reduceCtorEq, Nat.reduceEqDiff, Nat.reduceAdd, Nat.reduceSub, Nat.reduceLeDiff, indexAddrA, indexRefA, appendA, strA, Nat.reduceMul, Nat.zero_mul, Nat.reduceMod, Int.reduceEq, Int.reduceLT, Int.reduceLE, Nat.reduceLT, Nat.lt_irrefl, Nat.reduceBEq, tys0, tys1, tys2, tys3, tys4, tys5, tys6, tys7, tys8, tys9, tys10, tys11, tys12, tys13, tys14, tys15, tys16, tys17, tys18, tys19, tys20, tys21, tys22, tys23, Try.ntmps151, Try.results151, hy, e1]
    refine ⟨by kernel_rfl, (y, x.tmod y), ?_, tmod_lt hy, ?_⟩
    · rw [← gcdL_next hy]; exact hI
    · repeat constructor

/-- A right fraction. -/
def goodB (n d : Int) : Bool := inB d 1 1000000 && inB n (-1000000) 1000000 && (gcdI n d == 1)
theorem good_ok (n d : Int) : Ct Try.prog 86 [fr n d] [] (.bool (goodB n d)) [] := by
  refine Ct.by_ hmix [] Try.func86 rfl ?_
  simp only [run0, run1, run2, run3, run4, run5, run6, run7, run8, run9, run10, run11, run12, run13, run14, run15, run16, run17, run18, run19, run20, run21, run22, reduceCtorEq, Nat.reduceEqDiff, Nat.reduceAdd, Nat.reduceSub, Nat.reduceLeDiff, indexAddrA, indexRefA, appendA, strA, Nat.reduceMul, Nat.zero_mul, Nat.reduceMod, Int.reduceEq, Int.reduceLT, Int.reduceLE, Nat.reduceLT, Nat.lt_irrefl, Nat.reduceBEq, tys0, tys1, tys2, tys3, tys4, tys5, tys6, tys7, tys8, tys9, tys10, tys11, tys12, tys13, tys14, tys15, tys16, tys17, tys18, tys19, tys20, tys21, tys22, tys23, Try.ntmps86, Try.results86, fr]
  refine RunL.callp rfl rfl ok_f94 (in_ok _ _ _) (by first | rfl | simp only [pureL, pureB, Bool.and_self, Bool.and_true, Bool.true_and]) rfl ?_
  simp only [run0, run1, run2, run3, run4, run5, run6, run7, run8, run9, run10, run11, run12, run13, run14, run15, run16, run17, run18, run19, run20, run21, run22, reduceCtorEq, Nat.reduceEqDiff, Nat.reduceAdd, Nat.reduceSub, Nat.reduceLeDiff, indexAddrA, indexRefA, appendA, strA, Nat.reduceMul, Nat.zero_mul, Nat.reduceMod, Int.reduceEq, Int.reduceLT, Int.reduceLE, Nat.reduceLT, Nat.lt_irrefl, Nat.reduceBEq, tys0, tys1, tys2, tys3, tys4, tys5, tys6, tys7, tys8, tys9, tys10, tys11, tys12, tys13, tys14, tys15, tys16, tys17, tys18, tys19, tys20, tys21, tys22, tys23, Try.ntmps86, Try.results86]
  refine Rg.split (fun h1 => ?_) (fun h1 => ?_) <;> simp only [run0, run1, run2, run3, run4, run5, run6, run7, run8, run9, run10, run11, run12, run13, run14, run15, run16, run17, run18, run19, run20, run21, run22, reduceCtorEq, Nat.reduceEqDiff, Nat.reduceAdd, Nat.reduceSub, Nat.reduceLeDiff, indexAddrA, indexRefA, appendA, strA, Nat.reduceMul, Nat.zero_mul, Nat.reduceMod, Int.reduceEq, Int.reduceLT, Int.reduceLE, Nat.reduceLT, Nat.lt_irrefl, Nat.reduceBEq, tys0, tys1, tys2, tys3, tys4, tys5, tys6, tys7, tys8, tys9, tys10, tys11, tys12, tys13, tys14, tys15, tys16, tys17, tys18, tys19, tys20, tys21, tys22, tys23, Try.ntmps86, Try.results86, h1]
  · refine RunL.callp rfl rfl ok_f94 (in_ok _ _ _) (by first | rfl | simp only [pureL, pureB, Bool.and_self, Bool.and_true, Bool.true_and]) rfl ?_
    simp only [run0, run1, run2, run3, run4, run5, run6, run7, run8, run9, run10, run11, run12, run13, run14, run15, run16, run17, run18, run19, run20, run21, run22, reduceCtorEq, Nat.reduceEqDiff, Nat.reduceAdd, Nat.reduceSub, Nat.reduceLeDiff, indexAddrA, indexRefA, appendA, strA, Nat.reduceMul, Nat.zero_mul, Nat.reduceMod, Int.reduceEq, Int.reduceLT, Int.reduceLE, Nat.reduceLT, Nat.lt_irrefl, Nat.reduceBEq, tys0, tys1, tys2, tys3, tys4, tys5, tys6, tys7, tys8, tys9, tys10, tys11, tys12, tys13, tys14, tys15, tys16, tys17, tys18, tys19, tys20, tys21, tys22, tys23, Try.ntmps86, Try.results86]
    refine Rg.split (fun h2 => ?_) (fun h2 => ?_) <;> simp only [run0, run1, run2, run3, run4, run5, run6, run7, run8, run9, run10, run11, run12, run13, run14, run15, run16, run17, run18, run19, run20, run21, run22, reduceCtorEq, Nat.reduceEqDiff, Nat.reduceAdd, Nat.reduceSub, Nat.reduceLeDiff, indexAddrA, indexRefA, appendA, strA, Nat.reduceMul, Nat.zero_mul, Nat.reduceMod, Int.reduceEq, Int.reduceLT, Int.reduceLE, Nat.reduceLT, Nat.lt_irrefl, Nat.reduceBEq, tys0, tys1, tys2, tys3, tys4, tys5, tys6, tys7, tys8, tys9, tys10, tys11, tys12, tys13, tys14, tys15, tys16, tys17, tys18, tys19, tys20, tys21, tys22, tys23, Try.ntmps86, Try.results86, h2]
    · refine RunL.callp rfl rfl ok_f136 (gcd_ok _ _) (by first | rfl | simp only [pureL, pureB, Bool.and_self, Bool.and_true, Bool.true_and]) rfl ?_
      simp only [run0, run1, run2, run3, run4, run5, run6, run7, run8, run9, run10, run11, run12, run13, run14, run15, run16, run17, run18, run19, run20, run21, run22, reduceCtorEq, Nat.reduceEqDiff, Nat.reduceAdd, Nat.reduceSub, Nat.reduceLeDiff, indexAddrA, indexRefA, appendA, strA, Nat.reduceMul, Nat.zero_mul, Nat.reduceMod, Int.reduceEq, Int.reduceLT, Int.reduceLE, Nat.reduceLT, Nat.lt_irrefl, Nat.reduceBEq, tys0, tys1, tys2, tys3, tys4, tys5, tys6, tys7, tys8, tys9, tys10, tys11, tys12, tys13, tys14, tys15, tys16, tys17, tys18, tys19, tys20, tys21, tys22, tys23, Try.ntmps86, Try.results86]
      exact Fin.eq (by simp [goodB, h1, h2]) rfl
    · exact Fin.eq (by simp [goodB, h1, h2]) rfl
  · exact Fin.eq (by simp [goodB, h1]) rfl
theorem shGood_ok (n d : Int) : Ct Try.prog 116 [fr n d] [] (.bool (goodB n d)) [] := by
  refine Ct.by_ hmix [] Try.func116 rfl ?_
  simp only [run0, run1, run2, run3, run4, run5, run6, run7, run8, run9, run10, run11, run12, run13, run14, run15, run16, run17, run18, run19, run20, run21, run22, reduceCtorEq, Nat.reduceEqDiff, Nat.reduceAdd, Nat.reduceSub, Nat.reduceLeDiff, indexAddrA, indexRefA, appendA, strA, Nat.reduceMul, Nat.zero_mul, Nat.reduceMod, Int.reduceEq, Int.reduceLT, Int.reduceLE, Nat.reduceLT, Nat.lt_irrefl, Nat.reduceBEq, tys0, tys1, tys2, tys3, tys4, tys5, tys6, tys7, tys8, tys9, tys10, tys11, tys12, tys13, tys14, tys15, tys16, tys17, tys18, tys19, tys20, tys21, tys22, tys23, Try.ntmps116, Try.results116, fr]
  refine RunL.callp rfl rfl ok_f64 (l1In_ok _ _ _) (by first | rfl | simp only [pureL, pureB, Bool.and_self, Bool.and_true, Bool.true_and]) rfl ?_
  simp only [run0, run1, run2, run3, run4, run5, run6, run7, run8, run9, run10, run11, run12, run13, run14, run15, run16, run17, run18, run19, run20, run21, run22, reduceCtorEq, Nat.reduceEqDiff, Nat.reduceAdd, Nat.reduceSub, Nat.reduceLeDiff, indexAddrA, indexRefA, appendA, strA, Nat.reduceMul, Nat.zero_mul, Nat.reduceMod, Int.reduceEq, Int.reduceLT, Int.reduceLE, Nat.reduceLT, Nat.lt_irrefl, Nat.reduceBEq, tys0, tys1, tys2, tys3, tys4, tys5, tys6, tys7, tys8, tys9, tys10, tys11, tys12, tys13, tys14, tys15, tys16, tys17, tys18, tys19, tys20, tys21, tys22, tys23, Try.ntmps116, Try.results116]
  refine Rg.split (fun h1 => ?_) (fun h1 => ?_) <;> simp only [run0, run1, run2, run3, run4, run5, run6, run7, run8, run9, run10, run11, run12, run13, run14, run15, run16, run17, run18, run19, run20, run21, run22, reduceCtorEq, Nat.reduceEqDiff, Nat.reduceAdd, Nat.reduceSub, Nat.reduceLeDiff, indexAddrA, indexRefA, appendA, strA, Nat.reduceMul, Nat.zero_mul, Nat.reduceMod, Int.reduceEq, Int.reduceLT, Int.reduceLE, Nat.reduceLT, Nat.lt_irrefl, Nat.reduceBEq, tys0, tys1, tys2, tys3, tys4, tys5, tys6, tys7, tys8, tys9, tys10, tys11, tys12, tys13, tys14, tys15, tys16, tys17, tys18, tys19, tys20, tys21, tys22, tys23, Try.ntmps116, Try.results116, h1]
  · refine RunL.callp rfl rfl ok_f64 (l1In_ok _ _ _) (by first | rfl | simp only [pureL, pureB, Bool.and_self, Bool.and_true, Bool.true_and]) rfl ?_
    simp only [run0, run1, run2, run3, run4, run5, run6, run7, run8, run9, run10, run11, run12, run13, run14, run15, run16, run17, run18, run19, run20, run21, run22, reduceCtorEq, Nat.reduceEqDiff, Nat.reduceAdd, Nat.reduceSub, Nat.reduceLeDiff, indexAddrA, indexRefA, appendA, strA, Nat.reduceMul, Nat.zero_mul, Nat.reduceMod, Int.reduceEq, Int.reduceLT, Int.reduceLE, Nat.reduceLT, Nat.lt_irrefl, Nat.reduceBEq, tys0, tys1, tys2, tys3, tys4, tys5, tys6, tys7, tys8, tys9, tys10, tys11, tys12, tys13, tys14, tys15, tys16, tys17, tys18, tys19, tys20, tys21, tys22, tys23, Try.ntmps116, Try.results116]
    refine Rg.split (fun h2 => ?_) (fun h2 => ?_) <;> simp only [run0, run1, run2, run3, run4, run5, run6, run7, run8, run9, run10, run11, run12, run13, run14, run15, run16, run17, run18, run19, run20, run21, run22, reduceCtorEq, Nat.reduceEqDiff, Nat.reduceAdd, Nat.reduceSub, Nat.reduceLeDiff, indexAddrA, indexRefA, appendA, strA, Nat.reduceMul, Nat.zero_mul, Nat.reduceMod, Int.reduceEq, Int.reduceLT, Int.reduceLE, Nat.reduceLT, Nat.lt_irrefl, Nat.reduceBEq, tys0, tys1, tys2, tys3, tys4, tys5, tys6, tys7, tys8, tys9, tys10, tys11, tys12, tys13, tys14, tys15, tys16, tys17, tys18, tys19, tys20, tys21, tys22, tys23, Try.ntmps116, Try.results116, h2]
    · refine RunL.callp rfl rfl ok_f151 (shGcd_ok _ _) (by first | rfl | simp only [pureL, pureB, Bool.and_self, Bool.and_true, Bool.true_and]) rfl ?_
      simp only [run0, run1, run2, run3, run4, run5, run6, run7, run8, run9, run10, run11, run12, run13, run14, run15, run16, run17, run18, run19, run20, run21, run22, reduceCtorEq, Nat.reduceEqDiff, Nat.reduceAdd, Nat.reduceSub, Nat.reduceLeDiff, indexAddrA, indexRefA, appendA, strA, Nat.reduceMul, Nat.zero_mul, Nat.reduceMod, Int.reduceEq, Int.reduceLT, Int.reduceLE, Nat.reduceLT, Nat.lt_irrefl, Nat.reduceBEq, tys0, tys1, tys2, tys3, tys4, tys5, tys6, tys7, tys8, tys9, tys10, tys11, tys12, tys13, tys14, tys15, tys16, tys17, tys18, tys19, tys20, tys21, tys22, tys23, Try.ntmps116, Try.results116]
      exact Fin.eq (by simp [goodB, h1, h2]) rfl
    · exact Fin.eq (by simp [goodB, h1, h2]) rfl
  · exact Fin.eq (by simp [goodB, h1]) rfl

def cmpI (a b : Int) : Int := if a < b then -1 else if b < a then 1 else 0
theorem compare_ok (a b : Int) : Ct Try.prog 121 [.int .i64 a, .int .i64 b] [] (.int .i64 (cmpI a b)) [] := by
  refine Ct.by_ hmix [] Try.func121 rfl ?_
  simp only [run0, run1, run2, run3, run4, run5, run6, run7, run8, run9, run10, run11, run12, run13, run14, run15, run16, run17, run18, run19, run20, run21, run22, reduceCtorEq, Nat.reduceEqDiff, Nat.reduceAdd, Nat.reduceSub, Nat.reduceLeDiff, indexAddrA, indexRefA, appendA, strA, Nat.reduceMul, Nat.zero_mul, Nat.reduceMod, Int.reduceEq, Int.reduceLT, Int.reduceLE, Nat.reduceLT, Nat.lt_irrefl, Nat.reduceBEq, tys0, tys1, tys2, tys3, tys4, tys5, tys6, tys7, tys8, tys9, tys10, tys11, tys12, tys13, tys14, tys15, tys16, tys17, tys18, tys19, tys20, tys21, tys22, tys23, Try.ntmps121, Try.results121]
  refine Wc.split (fun h => ?_) (fun h => ?_) <;> simp only [run0, run1, run2, run3, run4, run5, run6, run7, run8, run9, run10, run11, run12, run13, run14, run15, run16, run17, run18, run19, run20, run21, run22, reduceCtorEq, Nat.reduceEqDiff, Nat.reduceAdd, Nat.reduceSub, Nat.reduceLeDiff, indexAddrA, indexRefA, appendA, strA, Nat.reduceMul, Nat.zero_mul, Nat.reduceMod, Int.reduceEq, Int.reduceLT, Int.reduceLE, Nat.reduceLT, Nat.lt_irrefl, Nat.reduceBEq, tys0, tys1, tys2, tys3, tys4, tys5, tys6, tys7, tys8, tys9, tys10, tys11, tys12, tys13, tys14, tys15, tys16, tys17, tys18, tys19, tys20, tys21, tys22, tys23, Try.ntmps121, Try.results121, h]
  · simp at h; exact Fin.eq (by simp [cmpI]; omega) rfl
  · refine Wc.split (fun h2 => ?_) (fun h2 => ?_) <;> simp only [run0, run1, run2, run3, run4, run5, run6, run7, run8, run9, run10, run11, run12, run13, run14, run15, run16, run17, run18, run19, run20, run21, run22, reduceCtorEq, Nat.reduceEqDiff, Nat.reduceAdd, Nat.reduceSub, Nat.reduceLeDiff, indexAddrA, indexRefA, appendA, strA, Nat.reduceMul, Nat.zero_mul, Nat.reduceMod, Int.reduceEq, Int.reduceLT, Int.reduceLE, Nat.reduceLT, Nat.lt_irrefl, Nat.reduceBEq, tys0, tys1, tys2, tys3, tys4, tys5, tys6, tys7, tys8, tys9, tys10, tys11, tys12, tys13, tys14, tys15, tys16, tys17, tys18, tys19, tys20, tys21, tys22, tys23, Try.ntmps121, Try.results121, h2] <;> simp at h h2 <;> exact Fin.eq (by simp [cmpI]; omega) rfl
theorem l1Sign_ok (a : Int) : Ct Try.prog 122 [.int .i64 a] [] (.int .i64 (cmpI a 0)) [] := by
  refine Ct.by_ hmix [] Try.func122 rfl ?_
  simp only [run0, run1, run2, run3, run4, run5, run6, run7, run8, run9, run10, run11, run12, run13, run14, run15, run16, run17, run18, run19, run20, run21, run22, reduceCtorEq, Nat.reduceEqDiff, Nat.reduceAdd, Nat.reduceSub, Nat.reduceLeDiff, indexAddrA, indexRefA, appendA, strA, Nat.reduceMul, Nat.zero_mul, Nat.reduceMod, Int.reduceEq, Int.reduceLT, Int.reduceLE, Nat.reduceLT, Nat.lt_irrefl, Nat.reduceBEq, tys0, tys1, tys2, tys3, tys4, tys5, tys6, tys7, tys8, tys9, tys10, tys11, tys12, tys13, tys14, tys15, tys16, tys17, tys18, tys19, tys20, tys21, tys22, tys23, Try.ntmps122, Try.results122]
  refine Wc.split (fun h => ?_) (fun h => ?_) <;> simp only [run0, run1, run2, run3, run4, run5, run6, run7, run8, run9, run10, run11, run12, run13, run14, run15, run16, run17, run18, run19, run20, run21, run22, reduceCtorEq, Nat.reduceEqDiff, Nat.reduceAdd, Nat.reduceSub, Nat.reduceLeDiff, indexAddrA, indexRefA, appendA, strA, Nat.reduceMul, Nat.zero_mul, Nat.reduceMod, Int.reduceEq, Int.reduceLT, Int.reduceLE, Nat.reduceLT, Nat.lt_irrefl, Nat.reduceBEq, tys0, tys1, tys2, tys3, tys4, tys5, tys6, tys7, tys8, tys9, tys10, tys11, tys12, tys13, tys14, tys15, tys16, tys17, tys18, tys19, tys20, tys21, tys22, tys23, Try.ntmps122, Try.results122, h]
  · simp at h; exact Fin.eq (by simp [cmpI]; omega) rfl
  · refine Wc.split (fun h2 => ?_) (fun h2 => ?_) <;> simp only [run0, run1, run2, run3, run4, run5, run6, run7, run8, run9, run10, run11, run12, run13, run14, run15, run16, run17, run18, run19, run20, run21, run22, reduceCtorEq, Nat.reduceEqDiff, Nat.reduceAdd, Nat.reduceSub, Nat.reduceLeDiff, indexAddrA, indexRefA, appendA, strA, Nat.reduceMul, Nat.zero_mul, Nat.reduceMod, Int.reduceEq, Int.reduceLT, Int.reduceLE, Nat.reduceLT, Nat.lt_irrefl, Nat.reduceBEq, tys0, tys1, tys2, tys3, tys4, tys5, tys6, tys7, tys8, tys9, tys10, tys11, tys12, tys13, tys14, tys15, tys16, tys17, tys18, tys19, tys20, tys21, tys22, tys23, Try.ntmps122, Try.results122, h2] <;> simp at h h2 <;> exact Fin.eq (by simp [cmpI]; omega) rfl
abbrev w64 (x : Int) : Int := IntKind.i64.wrap x
theorem cmpFr_ok (a b c d : Int) : Ct Try.prog 82 [fr a b, fr c d] [] (.int .i64 (cmpI (w64 (a * d)) (w64 (c * b)))) [] := by
  refine Ct.by_ hmix [] Try.func82 rfl ?_
  simp only [run0, run1, run2, run3, run4, run5, run6, run7, run8, run9, run10, run11, run12, run13, run14, run15, run16, run17, run18, run19, run20, run21, run22, reduceCtorEq, Nat.reduceEqDiff, Nat.reduceAdd, Nat.reduceSub, Nat.reduceLeDiff, indexAddrA, indexRefA, appendA, strA, Nat.reduceMul, Nat.zero_mul, Nat.reduceMod, Int.reduceEq, Int.reduceLT, Int.reduceLE, Nat.reduceLT, Nat.lt_irrefl, Nat.reduceBEq, tys0, tys1, tys2, tys3, tys4, tys5, tys6, tys7, tys8, tys9, tys10, tys11, tys12, tys13, tys14, tys15, tys16, tys17, tys18, tys19, tys20, tys21, tys22, tys23, Try.ntmps82, Try.results82, fr]
  refine RunL.callp rfl rfl ok_f121 (compare_ok _ _) (by first | rfl | simp only [pureL, pureB, Bool.and_self, Bool.and_true, Bool.true_and]) rfl ?_
  simp only [run0, run1, run2, run3, run4, run5, run6, run7, run8, run9, run10, run11, run12, run13, run14, run15, run16, run17, run18, run19, run20, run21, run22, reduceCtorEq, Nat.reduceEqDiff, Nat.reduceAdd, Nat.reduceSub, Nat.reduceLeDiff, indexAddrA, indexRefA, appendA, strA, Nat.reduceMul, Nat.zero_mul, Nat.reduceMod, Int.reduceEq, Int.reduceLT, Int.reduceLE, Nat.reduceLT, Nat.lt_irrefl, Nat.reduceBEq, tys0, tys1, tys2, tys3, tys4, tys5, tys6, tys7, tys8, tys9, tys10, tys11, tys12, tys13, tys14, tys15, tys16, tys17, tys18, tys19, tys20, tys21, tys22, tys23, Try.ntmps82, Try.results82]
  exact Fin.eq rfl rfl
theorem shCmp_ok (a b c d : Int) : Ct Try.prog 78 [fr a b, fr c d] [] (.int .i64 (cmpI (w64 (w64 (a * d) - w64 (c * b))) 0)) [] := by
  refine Ct.by_ hmix [] Try.func78 rfl ?_
  simp only [run0, run1, run2, run3, run4, run5, run6, run7, run8, run9, run10, run11, run12, run13, run14, run15, run16, run17, run18, run19, run20, run21, run22, reduceCtorEq, Nat.reduceEqDiff, Nat.reduceAdd, Nat.reduceSub, Nat.reduceLeDiff, indexAddrA, indexRefA, appendA, strA, Nat.reduceMul, Nat.zero_mul, Nat.reduceMod, Int.reduceEq, Int.reduceLT, Int.reduceLE, Nat.reduceLT, Nat.lt_irrefl, Nat.reduceBEq, tys0, tys1, tys2, tys3, tys4, tys5, tys6, tys7, tys8, tys9, tys10, tys11, tys12, tys13, tys14, tys15, tys16, tys17, tys18, tys19, tys20, tys21, tys22, tys23, Try.ntmps78, Try.results78, fr]
  refine RunL.callp rfl rfl ok_f122 (l1Sign_ok _) (by first | rfl | simp only [pureL, pureB, Bool.and_self, Bool.and_true, Bool.true_and]) rfl ?_
  simp only [run0, run1, run2, run3, run4, run5, run6, run7, run8, run9, run10, run11, run12, run13, run14, run15, run16, run17, run18, run19, run20, run21, run22, reduceCtorEq, Nat.reduceEqDiff, Nat.reduceAdd, Nat.reduceSub, Nat.reduceLeDiff, indexAddrA, indexRefA, appendA, strA, Nat.reduceMul, Nat.zero_mul, Nat.reduceMod, Int.reduceEq, Int.reduceLT, Int.reduceLE, Nat.reduceLT, Nat.lt_irrefl, Nat.reduceBEq, tys0, tys1, tys2, tys3, tys4, tys5, tys6, tys7, tys8, tys9, tys10, tys11, tys12, tys13, tys14, tys15, tys16, tys17, tys18, tys19, tys20, tys21, tys22, tys23, Try.ntmps78, Try.results78]
  exact Fin.eq rfl rfl

end Go.Proofs.Ytllcljajlemmaaa
/-
  Fractions: comparing two.
-/
namespace Go.Proofs.Ytllcljajlemmaaa
open Go K
set_option linter.unusedSimpArgs false
set_option linter.unusedVariables false
set_option maxHeartbeats 400000

theorem toFraction_ok (n d : Int) : Ct Try.prog 27 [fr n d] [] (fr n d) [] := by
  refine Ct.by_ hmix [] Try.func27 rfl ?_
  simp only [run0, run1, run2, run3, run4, run5, run6, run7, run8, run9, run10, run11, run12, run13, run14, run15, run16, run17, run18, run19, run20, run21, run22, reduceCtorEq, Nat.reduceEqDiff, Nat.reduceAdd, Nat.reduceSub, Nat.reduceLeDiff, indexAddrA, indexRefA, appendA, strA, Nat.reduceMul, Nat.zero_mul, Nat.reduceMod, Int.reduceEq, Int.reduceLT, Int.reduceLE, Nat.reduceLT, Nat.lt_irrefl, Nat.reduceBEq, tys0, tys1, tys2, tys3, tys4, tys5, tys6, tys7, tys8, tys9, tys10, tys11, tys12, tys13, tys14, tys15, tys16, tys17, tys18, tys19, tys20, tys21, tys22, tys23, Try.ntmps27, Try.results27, fr]
  exact Fin.eq (by simp [fr]) rfl

theorem implCompare_ok (a b c d : Int) : Ct Try.prog 40 [fr a b, fr c d] [] (.tup [.int .i64 (if goodB a b && goodB c d then cmpI (w64 (a * d)) (w64 (c * b)) else 0), .bool (goodB a b && goodB c d)]) [] := by
  refine Ct.by_ hmix [] Try.func40 rfl ?_
  simp only [run0, run1, run2, run3, run4, run5, run6, run7, run8, run9, run10, run11, run12, run13, run14, run15, run16, run17, run18, run19, run20, run21, run22, reduceCtorEq, Nat.reduceEqDiff, Nat.reduceAdd, Nat.reduceSub, Nat.reduceLeDiff, indexAddrA, indexRefA, appendA, strA, Nat.reduceMul, Nat.zero_mul, Nat.reduceMod, Int.reduceEq, Int.reduceLT, Int.reduceLE, Nat.reduceLT, Nat.lt_irrefl, Nat.reduceBEq, tys0, tys1, tys2, tys3, tys4, tys5, tys6, tys7, tys8, tys9, tys10, tys11, tys12, tys13, tys14, tys15, tys16, tys17, tys18, tys19, tys20, tys21, tys22, tys23, Try.ntmps40, Try.results40, fr]
  refine RunL.callp rfl rfl ok_f86 (good_ok _ _) (by first | rfl | simp only [pureL, pureB, Bool.and_self, Bool.and_true, Bool.true_and]) rfl ?_
  simp only [run0, run1, run2, run3, run4, run5, run6, run7, run8, run9, run10, run11, run12, run13, run14, run15, run16, run17, run18, run19, run20, run21, run22, reduceCtorEq, Nat.reduceEqDiff, Nat.reduceAdd, Nat.reduceSub, Nat.reduceLeDiff, indexAddrA, indexRefA, appendA, strA, Nat.reduceMul, Nat.zero_mul, Nat.reduceMod, Int.reduceEq, Int.reduceLT, Int.reduceLE, Nat.reduceLT, Nat.lt_irrefl, Nat.reduceBEq, tys0, tys1, tys2, tys3, tys4, tys5, tys6, tys7, tys8, tys9, tys10, tys11, tys12, tys13, tys14, tys15, tys16, tys17, tys18, tys19, tys20, tys21, tys22, tys23, Try.ntmps40, Try.results40]
  refine Rg.split (fun h1 => ?_) (fun h1 => ?_) <;> simp only [run0, run1, run2, run3, run4, run5, run6, run7, run8, run9, run10, run11, run12, run13, run14, run15, run16, run17, run18, run19, run20, run21, run22, reduceCtorEq, Nat.reduceEqDiff, Nat.reduceAdd, Nat.reduceSub, Nat.reduceLeDiff, indexAddrA, indexRefA, appendA, strA, Nat.reduceMul, Nat.zero_mul, Nat.reduceMod, Int.reduceEq, Int.reduceLT, Int.reduceLE, Nat.reduceLT, Nat.lt_irrefl, Nat.reduceBEq, tys0, tys1, tys2, tys3, tys4, tys5, tys6, tys7, tys8, tys9, tys10, tys11, tys12, tys13, tys14, tys15, tys16, tys17, tys18, tys19, tys20, tys21, tys22, tys23, Try.ntmps40, Try.results40, h1]
  · refine RunL.callp rfl rfl ok_f86 (good_ok _ _) (by first | rfl | simp only [pureL, pureB, Bool.and_self, Bool.and_true, Bool.true_and]) rfl ?_
    simp only [run0, run1, run2, run3, run4, run5, run6, run7, run8, run9, run10, run11, run12, run13, run14, run15, run16, run17, run18, run19, run20, run21, run22, reduceCtorEq, Nat.reduceEqDiff, Nat.reduceAdd, Nat.reduceSub, Nat.reduceLeDiff, indexAddrA, indexRefA, appendA, strA, Nat.reduceMul, Nat.zero_mul, Nat.reduceMod, Int.reduceEq, Int.reduceLT, Int.reduceLE, Nat.reduceLT, Nat.lt_irrefl, Nat.reduceBEq, tys0, tys1, tys2, tys3, tys4, tys5, tys6, tys7, tys8, tys9, tys10, tys11, tys12, tys13, tys14, tys15, tys16, tys17, tys18, tys19, tys20, tys21, tys22, tys23, Try.ntmps40, Try.results40]
    refine Wc.split (fun h2 => ?_) (fun h2 => ?_) <;> simp only [run0, run1, run2, run3, run4, run5, run6, run7, run8, run9, run10, run11, run12, run13, run14, run15, run16, run17, run18, run19, run20, run21, run22, reduceCtorEq, Nat.reduceEqDiff, Nat.reduceAdd, Nat.reduceSub, Nat.reduceLeDiff, indexAddrA, indexRefA, appendA, strA, Nat.reduceMul, Nat.zero_mul, Nat.reduceMod, Int.reduceEq, Int.reduceLT, Int.reduceLE, Nat.reduceLT, Nat.lt_irrefl, Nat.reduceBEq, tys0, tys1, tys2, tys3, tys4, tys5, tys6, tys7, tys8, tys9, tys10, tys11, tys12, tys13, tys14, tys15, tys16, tys17, tys18, tys19, tys20, tys21, tys22, tys23, Try.ntmps40, Try.results40, h2]
    · exact Fin.eq (by simp_all) rfl
    · refine RunL.callp rfl rfl ok_f82 (cmpFr_ok _ _ _ _) (by first | rfl | simp only [pureL, pureB, Bool.and_self, Bool.and_true, Bool.true_and]) rfl ?_
      simp only [run0, run1, run2, run3, run4, run5, run6, run7, run8, run9, run10, run11, run12, run13, run14, run15, run16, run17, run18, run19, run20, run21, run22, reduceCtorEq, Nat.reduceEqDiff, Nat.reduceAdd, Nat.reduceSub, Nat.reduceLeDiff, indexAddrA, indexRefA, appendA, strA, Nat.reduceMul, Nat.zero_mul, Nat.reduceMod, Int.reduceEq, Int.reduceLT, Int.reduceLE, Nat.reduceLT, Nat.lt_irrefl, Nat.reduceBEq, tys0, tys1, tys2, tys3, tys4, tys5, tys6, tys7, tys8, tys9, tys10, tys11, tys12, tys13, tys14, tys15, tys16, tys17, tys18, tys19, tys20, tys21, tys22, tys23, Try.ntmps40, Try.results40]
      exact Fin.eq (by simp_all) rfl
  · exact Fin.eq (by simp_all) rfl

theorem inB_iff (n lo hi : Int) : inB n lo hi = true ↔ lo ≤ n ∧ n ≤ hi := by simp [inB]
theorem good_range {n d : Int} (h : goodB n d = true) : 1 ≤ d ∧ d ≤ 1000000 ∧ -1000000 ≤ n ∧ n ≤ 1000000 := by
  simp only [goodB, Bool.and_eq_true, inB_iff] at h
  exact ⟨h.1.1.1, h.1.1.2, h.1.2.1, h.1.2.2⟩
theorem mul_range {a b A B : Int} (hA : 0 ≤ A) (h1 : -A ≤ a) (h2 : a ≤ A) (h3 : -B ≤ b) (h4 : b ≤ B) : -(A * B) ≤ a * b ∧ a * b ≤ A * B := by
  have h : (a * b).natAbs ≤ (A * B).natAbs := by
    rw [Int.natAbs_mul, Int.natAbs_mul]
    exact Nat.mul_le_mul (by omega) (by omega)
  have h5 : 0 ≤ A * B := Int.mul_nonneg hA (by omega)
  omega
theorem w64_id {x : Int} (h1 : -9223372036854775808 ≤ x) (h2 : x ≤ 9223372036854775807) : w64 x = x := by
  show (let m := x % (2 ^ 64 : Int); if true && m ≥ (2 ^ 63 : Int) then m - (2 ^ 64 : Int) else m) = x
  simp only [Bool.true_and, decide_eq_true_eq]
  omega

theorem cmp_same {a b c d : Int} (h1 : goodB a b = true) (h2 : goodB c d = true) : cmpI (w64 (w64 (a * d) - w64 (c * b))) 0 = cmpI (w64 (a * d)) (w64 (c * b)) := by
  have r1 := good_range h1
  have r2 := good_range h2
  have m1 := mul_range (a := a) (b := d) (A := 1000000) (B := 1000000) (by omega) (by omega) (by omega) (by omega) (by omega)
  have m2 := mul_range (a := c) (b := b) (A := 1000000) (B := 1000000) (by omega) (by omega) (by omega) (by omega) (by omega)
  rw [w64_id (x := a * d) (by omega) (by omega), w64_id (x := c * b) (by omega) (by omega), w64_id (by omega) (by omega)]
  unfold cmpI
  split <;> split <;> (try omega) <;> split <;> (try split) <;> omega

theorem implCompare_same (a b c d : Int) : Ct Try.prog 40 [fr a b, fr c d] [] (.tup [.int .i64 (if goodB a b && goodB c d then cmpI (w64 (w64 (a * d) - w64 (c * b))) 0 else 0), .bool (goodB a b && goodB c d)]) [] := by
  have h := implCompare_ok a b c d
  have e : (if goodB a b && goodB c d then cmpI (w64 (w64 (a * d) - w64 (c * b))) 0 else 0) = (if goodB a b && goodB c d then cmpI (w64 (a * d)) (w64 (c * b)) else 0) := by
    split
    · rename_i hg
      simp only [Bool.and_eq_true] at hg
      exact cmp_same hg.1 hg.2
    · rfl
  rw [e]; exact h

theorem laws_isFr {a : AV} (h : IsOf Try.prog 40 a) : ∃ n d, a = fr n d ∧ (Lit.int .i64 n).wf = true ∧ (Lit.int .i64 d).wf = true := by
  obtain ⟨m, cs, rfl, hl, h⟩ := h.agg ty_a40
  rw [ty_c40] at hl
  match cs, hl with
  | [x, y], _ =>
    obtain ⟨_, h0⟩ := h.field ty_f40_0
    obtain ⟨_, h1⟩ := h.field ty_f40_1
    obtain ⟨n, e0, w0⟩ := h0.int Try.underlying3
    obtain ⟨d, e1, w1⟩ := h1.int Try.underlying3
    rw [ty_c3] at e0 e1
    simp at e0 e1
    subst e0 e1
    exact ⟨n, d, rfl, w0, w1⟩

end Go.Proofs.Ytllcljajlemmaaa
/-
  Fractions: sums, differences, products, quotients.
-/
namespace Go.Proofs.Ytllcljajlemmaaa
open Go K
set_option linter.unusedSimpArgs false
set_option linter.unusedVariables false
set_option maxRecDepth 8000
set_option maxHeartbeats 400000

theorem gcdL_size : ∀ (n : Nat) (a b : Int), b.natAbs < n → (gcdL n a b).natAbs ≤ max a.natAbs b.natAbs ∧ (b ≠ 0 → gcdL n a b ≠ 0) ∧ (b = 0 → gcdL n a b = a)
  | 0, a, b, h => by omega
  | n + 1, a, b, h => by
    by_cases hb : b = 0
    · subst hb; simp [gcdL]
    · have h1 := tmod_lt (a := a) hb
      obtain ⟨h2, h3, h4⟩ := gcdL_size n b (a.tmod b) (by omega)
      have e : gcdL (n + 1) a b = gcdL n b (a.tmod b) := by simp [gcdL, hb]
      rw [e]
      refine ⟨by omega, fun _ => ?_, fun h => absurd h hb⟩
      by_cases hz : a.tmod b = 0
      · rw [h4 hz]; exact hb
      · exact h3 hz
theorem absW_small {n : Int} (h : n.natAbs ≤ 9000000000000000000) : absW n = n.natAbs := by
  unfold absW
  have := w64_id (x := 0 - n) (by omega) (by omega)
  simp only [w64] at this
  rw [this]
  split <;> omega
theorem gcdI_pos {n d : Int} (hd : d ≠ 0) (h1 : n.natAbs ≤ 9000000000000000) (h2 : d.natAbs ≤ 9000000000000000) : 1 ≤ gcdI n d ∧ gcdI n d ≤ 9000000000000000 := by
  obtain ⟨h3, h4, _⟩ := gcdL_size (d.natAbs + 1) n d (by omega)
  have h5 := h4 hd
  unfold gcdI
  rw [absW_small (by omega)]
  omega

/-- The divisor of a fraction's parts. -/
def mkG (n d : Int) : Int := if d < 0 then IntKind.i64.wrap (0 - gcdI n d) else gcdI n d
def mkN (n d : Int) : Int := w64 (n.tdiv (mkG n d))
def mkD (n d : Int) : Int := w64 (d.tdiv (mkG n d))
def mkOk (n d : Int) : Bool := goodB (mkN n d) (mkD n d)
def small (n d : Int) : Prop := n.natAbs ≤ 9000000000000000 ∧ d.natAbs ≤ 9000000000000000
theorem mkG_ne {n d : Int} (hd : d ≠ 0) (h : small n d) : mkG n d ≠ 0 := by
  obtain ⟨h1, h2⟩ := gcdI_pos hd h.1 h.2
  unfold mkG
  have := w64_id (x := 0 - gcdI n d) (by omega) (by omega)
  simp only [w64] at this
  split
  · rw [this]; omega
  · omega

theorem shMake_ok (n d : Int) (hd : d ≠ 0) (h : small n d) : Ct Try.prog 158 [.int .i64 n, .int .i64 d] [] (fr (mkN n d) (mkD n d)) [] := by
  have hg := mkG_ne hd h
  refine Ct.by_ hmix [] Try.func158 rfl ?_
  simp only [run0, run1, run2, run3, run4, run5, run6, run7, run8, run9, run10, run11, run12, run13, run14, run15, run16, run17, run18, run19, run20, run21, run22, reduceCtorEq, Nat.reduceEqDiff, Nat.reduceAdd, Nat.reduceSub, Nat.reduceLeDiff, indexAddrA, indexRefA, appendA, strA, Nat.reduceMul, Nat.zero_mul, Nat.reduceMod, Int.reduceEq, Int.reduceLT, Int.reduceLE, Nat.reduceLT, Nat.lt_irrefl, Nat.reduceBEq, tys0, tys1, tys2, tys3, tys4, tys5, tys6, tys7, tys8, tys9, tys10, tys11, tys12, tys13, tys14, tys15, tys16, tys17, tys18, tys19, tys20, tys21, tys22, tys23, Try.ntmps158, Try.results158]
  refine RunL.callp rfl rfl ok_f151 (shGcd_ok _ _) (by first | rfl | simp only [pureL, pureB, Bool.and_self, Bool.and_true, Bool.true_and]) rfl ?_
  simp only [run0, run1, run2, run3, run4, run5, run6, run7, run8, run9, run10, run11, run12, run13, run14, run15, run16, run17, run18, run19, run20, run21, run22, reduceCtorEq, Nat.reduceEqDiff, Nat.reduceAdd, Nat.reduceSub, Nat.reduceLeDiff, indexAddrA, indexRefA, appendA, strA, Nat.reduceMul, Nat.zero_mul, Nat.reduceMod, Int.reduceEq, Int.reduceLT, Int.reduceLE, Nat.reduceLT, Nat.lt_irrefl, Nat.reduceBEq, tys0, tys1, tys2, tys3, tys4, tys5, tys6, tys7, tys8, tys9, tys10, tys11, tys12, tys13, tys14, tys15, tys16, tys17, tys18, tys19, tys20, tys21, tys22, tys23, Try.ntmps158, Try.results158]
  refine Wc.split (fun hn => ?_) (fun hn => ?_) <;> simp only [decide_eq_true_eq, decide_eq_false_iff_not] at hn <;> simp only [mkG, hn, if_true, if_false] at hg <;> simp only [run0, run1, run2, run3, run4, run5, run6, run7, run8, run9, run10, run11, run12, run13, run14, run15, run16, run17, run18, run19, run20, run21, run22, reduceCtorEq, Nat.reduceEqDiff, Nat.reduceAdd, Nat.reduceSub, Nat.reduceLeDiff, indexAddrA, indexRefA, appendA, strA, Nat.reduceMul, Nat.zero_mul, Nat.reduceMod, Int.reduceEq, Int.reduceLT, Int.reduceLE, Nat.reduceLT, Nat.lt_irrefl, Nat.reduceBEq, tys0, tys1, tys2, tys3, tys4, tys5, tys6, tys7, tys8, tys9, tys10, tys11, tys12, tys13, tys14, tys15, tys16, tys17, tys18, tys19, tys20, tys21, tys22, tys23, Try.ntmps158, Try.results158, hg, hn]
  · refine ⟨by kernel_rfl, Fin.eq (by simp [fr, mkN, mkD, mkG, hn, w64]) rfl⟩
  · refine ⟨by kernel_rfl, Fin.eq (by simp [fr, mkN, mkD, mkG, hn, w64]) rfl⟩

theorem made_ok (n d : Int) (h : small n d) : Ct Try.prog 156 [.int .i64 n, .int .i64 d] [] (.tup [fr (if d ≠ 0 ∧ mkOk n d then mkN n d else 0) (if d ≠ 0 ∧ mkOk n d then mkD n d else 0), .bool (decide (d ≠ 0) && mkOk n d)]) [] := by
  refine Ct.by_ hmix [] Try.func156 rfl ?_
  by_cases hd : d = 0
  · subst hd
    simp only [run0, run1, run2, run3, run4, run5, run6, run7, run8, run9, run10, run11, run12, run13, run14, run15, run16, run17, run18, run19, run20, run21, run22, reduceCtorEq, Nat.reduceEqDiff, Nat.reduceAdd, Nat.reduceSub, Nat.reduceLeDiff, indexAddrA, indexRefA, appendA, strA, Nat.reduceMul, Nat.zero_mul, Nat.reduceMod, Int.reduceEq, Int.reduceLT, Int.reduceLE, Nat.reduceLT, Nat.lt_irrefl, Nat.reduceBEq, tys0, tys1, tys2, tys3, tys4, tys5, tys6, tys7, tys8, tys9, tys10, tys11, tys12, tys13, tys14, tys15, tys16, tys17, tys18, tys19, tys20, tys21, tys22, tys23, Try.ntmps156, Try.results156]
    exact Fin.eq (by simp [fr]) rfl
  have hg := mkG_ne hd h
  have hd1 : (d == 0) = false := by simp [hd]
  simp only [run0, run1, run2, run3, run4, run5, run6, run7, run8, run9, run10, run11, run12, run13, run14, run15, run16, run17, run18, run19, run20, run21, run22, reduceCtorEq, Nat.reduceEqDiff, Nat.reduceAdd, Nat.reduceSub, Nat.reduceLeDiff, indexAddrA, indexRefA, appendA, strA, Nat.reduceMul, Nat.zero_mul, Nat.reduceMod, Int.reduceEq, Int.reduceLT, Int.reduceLE, Nat.reduceLT, Nat.lt_irrefl, Nat.reduceBEq, tys0, tys1, tys2, tys3, tys4, tys5, tys6, tys7, tys8, tys9, tys10, tys11, tys12, tys13, tys14, tys15, tys16, tys17, tys18, tys19, tys20, tys21, tys22, tys23, Try.ntmps156, Try.results156, hd1, hd]
  refine RunL.callp rfl rfl ok_f136 (gcd_ok _ _) (by first | rfl | simp only [pureL, pureB, Bool.and_self, Bool.and_true, Bool.true_and]) rfl ?_
  simp only [run0, run1, run2, run3, run4, run5, run6, run7, run8, run9, run10, run11, run12, run13, run14, run15, run16, run17, run18, run19, run20, run21, run22, reduceCtorEq, Nat.reduceEqDiff, Nat.reduceAdd, Nat.reduceSub, Nat.reduceLeDiff, indexAddrA, indexRefA, appendA, strA, Nat.reduceMul, Nat.zero_mul, Nat.reduceMod, Int.reduceEq, Int.reduceLT, Int.reduceLE, Nat.reduceLT, Nat.lt_irrefl, Nat.reduceBEq, tys0, tys1, tys2, tys3, tys4, tys5, tys6, tys7, tys8, tys9, tys10, tys11, tys12, tys13, tys14, tys15, tys16, tys17, tys18, tys19, tys20, tys21, tys22, tys23, Try.ntmps156, Try.results156]
  refine Wc.split (fun hn => ?_) (fun hn => ?_) <;> simp only [decide_eq_true_eq, decide_eq_false_iff_not] at hn <;> simp only [mkG, hn, if_true, if_false] at hg <;> simp only [run0, run1, run2, run3, run4, run5, run6, run7, run8, run9, run10, run11, run12, run13, run14, run15, run16, run17, run18, run19, run20, run21, run22, reduceCtorEq, Nat.reduceEqDiff, Nat.reduceAdd, Nat.reduceSub, Nat.reduceLeDiff, indexAddrA, indexRefA, appendA, strA, Nat.reduceMul, Nat.zero_mul, Nat.reduceMod, Int.reduceEq, Int.reduceLT, Int.reduceLE, Nat.reduceLT, Nat.lt_irrefl, Nat.reduceBEq, tys0, tys1, tys2, tys3, tys4, tys5, tys6, tys7, tys8, tys9, tys10, tys11, tys12, tys13, tys14, tys15, tys16, tys17, tys18, tys19, tys20, tys21, tys22, tys23, Try.ntmps156, Try.results156, hg, hn]
  · refine ⟨by kernel_rfl, ?_⟩
    refine RunL.callp rfl rfl ok_f86 (good_ok _ _) (by first | rfl | simp only [pureL, pureB, Bool.and_self, Bool.and_true, Bool.true_and]) rfl ?_
    simp only [run0, run1, run2, run3, run4, run5, run6, run7, run8, run9, run10, run11, run12, run13, run14, run15, run16, run17, run18, run19, run20, run21, run22, reduceCtorEq, Nat.reduceEqDiff, Nat.reduceAdd, Nat.reduceSub, Nat.reduceLeDiff, indexAddrA, indexRefA, appendA, strA, Nat.reduceMul, Nat.zero_mul, Nat.reduceMod, Int.reduceEq, Int.reduceLT, Int.reduceLE, Nat.reduceLT, Nat.lt_irrefl, Nat.reduceBEq, tys0, tys1, tys2, tys3, tys4, tys5, tys6, tys7, tys8, tys9, tys10, tys11, tys12, tys13, tys14, tys15, tys16, tys17, tys18, tys19, tys20, tys21, tys22, tys23, Try.ntmps156, Try.results156]
    refine Wc.split (fun h3 => ?_) (fun h3 => ?_) <;> simp only [run0, run1, run2, run3, run4, run5, run6, run7, run8, run9, run10, run11, run12, run13, run14, run15, run16, run17, run18, run19, run20, run21, run22, reduceCtorEq, Nat.reduceEqDiff, Nat.reduceAdd, Nat.reduceSub, Nat.reduceLeDiff, indexAddrA, indexRefA, appendA, strA, Nat.reduceMul, Nat.zero_mul, Nat.reduceMod, Int.reduceEq, Int.reduceLT, Int.reduceLE, Nat.reduceLT, Nat.lt_irrefl, Nat.reduceBEq, tys0, tys1, tys2, tys3, tys4, tys5, tys6, tys7, tys8, tys9, tys10, tys11, tys12, tys13, tys14, tys15, tys16, tys17, tys18, tys19, tys20, tys21, tys22, tys23, Try.ntmps156, Try.results156, h3] <;> simp only [mkOk, mkN, mkD, mkG, hn, if_true, if_false, w64] <;> exact Fin.eq (by simp_all [fr]) rfl
  · refine ⟨by kernel_rfl, ?_⟩
    refine RunL.callp rfl rfl ok_f86 (good_ok _ _) (by first | rfl | simp only [pureL, pureB, Bool.and_self, Bool.and_true, Bool.true_and]) rfl ?_
    simp only [run0, run1, run2, run3, run4, run5, run6, run7, run8, run9, run10, run11, run12, run13, run14, run15, run16, run17, run18, run19, run20, run21, run22, reduceCtorEq, Nat.reduceEqDiff, Nat.reduceAdd, Nat.reduceSub, Nat.reduceLeDiff, indexAddrA, indexRefA, appendA, strA, Nat.reduceMul, Nat.zero_mul, Nat.reduceMod, Int.reduceEq, Int.reduceLT, Int.reduceLE, Nat.reduceLT, Nat.lt_irrefl, Nat.reduceBEq, tys0, tys1, tys2, tys3, tys4, tys5, tys6, tys7, tys8, tys9, tys10, tys11, tys12, tys13, tys14, tys15, tys16, tys17, tys18, tys19, tys20, tys21, tys22, tys23, Try.ntmps156, Try.results156]
    refine Wc.split (fun h3 => ?_) (fun h3 => ?_) <;> simp only [run0, run1, run2, run3, run4, run5, run6, run7, run8, run9, run10, run11, run12, run13, run14, run15, run16, run17, run18, run19, run20, run21, run22, reduceCtorEq, Nat.reduceEqDiff, Nat.reduceAdd, Nat.reduceSub, Nat.reduceLeDiff, indexAddrA, indexRefA, appendA, strA, Nat.reduceMul, Nat.zero_mul, Nat.reduceMod, Int.reduceEq, Int.reduceLT, Int.reduceLE, Nat.reduceLT, Nat.lt_irrefl, Nat.reduceBEq, tys0, tys1, tys2, tys3, tys4, tys5, tys6, tys7, tys8, tys9, tys10, tys11, tys12, tys13, tys14, tys15, tys16, tys17, tys18, tys19, tys20, tys21, tys22, tys23, Try.ntmps156, Try.results156, h3] <;> simp only [mkOk, mkN, mkD, mkG, hn, if_true, if_false, w64] <;> exact Fin.eq (by simp_all [fr]) rfl

end Go.Proofs.Ytllcljajlemmaaa
/-
  Fractions: the four operations of the program and of the reference.
-/
namespace Go.Proofs.Ytllcljajlemmaaa
open Go K
set_option linter.unusedSimpArgs false
set_option linter.unusedVariables false
set_option maxRecDepth 8000
set_option maxHeartbeats 400000

/-- What an operation gives: nothing, or the fraction of two whole numbers, if it is a right one. -/
def opR (ok : Bool) (n d : Int) : AV := .tup [fr (if ok && mkOk n d then mkN n d else 0) (if ok && mkOk n d then mkD n d else 0), .bool (ok && mkOk n d)]

theorem prod_small {a b : Int} (h1 : a.natAbs ≤ 1000000) (h2 : b.natAbs ≤ 1000000) : (a * b).natAbs ≤ 1000000000000 := by
  rw [Int.natAbs_mul]
  exact Nat.mul_le_mul h1 h2
theorem good_small {n d : Int} (h : goodB n d = true) : n.natAbs ≤ 1000000 ∧ d.natAbs ≤ 1000000 ∧ d ≠ 0 := by
  have := good_range h
  omega
theorem w64_small {x : Int} (h : x.natAbs ≤ 9000000000000000000) : w64 x = x := w64_id (by omega) (by omega)

/-- The two whole numbers of a sum, a product, a difference, a quotient. -/
def addN (a b c d : Int) : Int := w64 (w64 (a * d) + w64 (c * b))
def subN (a b c d : Int) : Int := w64 (w64 (a * d) - w64 (c * b))
/-! ### the reference -/
theorem shNeg_ok (a b : Int) : Ct Try.prog 125 [fr a b] [] (fr (w64 (0 - a)) b) [] := by
  refine Ct.by_ hmix [] Try.func125 rfl ?_
  simp only [run0, run1, run2, run3, run4, run5, run6, run7, run8, run9, run10, run11, run12, run13, run14, run15, run16, run17, run18, run19, run20, run21, run22, reduceCtorEq, Nat.reduceEqDiff, Nat.reduceAdd, Nat.reduceSub, Nat.reduceLeDiff, indexAddrA, indexRefA, appendA, strA, Nat.reduceMul, Nat.zero_mul, Nat.reduceMod, Int.reduceEq, Int.reduceLT, Int.reduceLE, Nat.reduceLT, Nat.lt_irrefl, Nat.reduceBEq, tys0, tys1, tys2, tys3, tys4, tys5, tys6, tys7, tys8, tys9, tys10, tys11, tys12, tys13, tys14, tys15, tys16, tys17, tys18, tys19, tys20, tys21, tys22, tys23, Try.ntmps125, Try.results125, fr]
  exact Fin.eq rfl rfl
theorem shAdd_ok (a b c d : Int) (h0 : w64 (b * d) ≠ 0) (h : small (addN a b c d) (w64 (b * d))) : Ct Try.prog 154 [fr a b, fr c d] [] (fr (mkN (addN a b c d) (w64 (b * d))) (mkD (addN a b c d) (w64 (b * d)))) [] := by
  refine Ct.by_ hmix [] Try.func154 rfl ?_
  simp only [run0, run1, run2, run3, run4, run5, run6, run7, run8, run9, run10, run11, run12, run13, run14, run15, run16, run17, run18, run19, run20, run21, run22, reduceCtorEq, Nat.reduceEqDiff, Nat.reduceAdd, Nat.reduceSub, Nat.reduceLeDiff, indexAddrA, indexRefA, appendA, strA, Nat.reduceMul, Nat.zero_mul, Nat.reduceMod, Int.reduceEq, Int.reduceLT, Int.reduceLE, Nat.reduceLT, Nat.lt_irrefl, Nat.reduceBEq, tys0, tys1, tys2, tys3, tys4, tys5, tys6, tys7, tys8, tys9, tys10, tys11, tys12, tys13, tys14, tys15, tys16, tys17, tys18, tys19, tys20, tys21, tys22, tys23, Try.ntmps154, Try.results154, fr]
  refine RunL.callp rfl rfl ok_f158 (shMake_ok _ _ h0 h) (by first | rfl | simp only [pureL, pureB, Bool.and_self, Bool.and_true, Bool.true_and]) rfl ?_
  simp only [run0, run1, run2, run3, run4, run5, run6, run7, run8, run9, run10, run11, run12, run13, run14, run15, run16, run17, run18, run19, run20, run21, run22, reduceCtorEq, Nat.reduceEqDiff, Nat.reduceAdd, Nat.reduceSub, Nat.reduceLeDiff, indexAddrA, indexRefA, appendA, strA, Nat.reduceMul, Nat.zero_mul, Nat.reduceMod, Int.reduceEq, Int.reduceLT, Int.reduceLE, Nat.reduceLT, Nat.lt_irrefl, Nat.reduceBEq, tys0, tys1, tys2, tys3, tys4, tys5, tys6, tys7, tys8, tys9, tys10, tys11, tys12, tys13, tys14, tys15, tys16, tys17, tys18, tys19, tys20, tys21, tys22, tys23, Try.ntmps154, Try.results154, fr]
  exact Fin.eq rfl rfl
theorem shMul_ok (a b c d : Int) (h0 : w64 (b * d) ≠ 0) (h : small (w64 (a * c)) (w64 (b * d))) : Ct Try.prog 153 [fr a b, fr c d] [] (fr (mkN (w64 (a * c)) (w64 (b * d))) (mkD (w64 (a * c)) (w64 (b * d)))) [] := by
  refine Ct.by_ hmix [] Try.func153 rfl ?_
  simp only [run0, run1, run2, run3, run4, run5, run6, run7, run8, run9, run10, run11, run12, run13, run14, run15, run16, run17, run18, run19, run20, run21, run22, reduceCtorEq, Nat.reduceEqDiff, Nat.reduceAdd, Nat.reduceSub, Nat.reduceLeDiff, indexAddrA, indexRefA, appendA, strA, Nat.reduceMul, Nat.zero_mul, Nat.reduceMod, Int.reduceEq, Int.reduceLT, Int.reduceLE, Nat.reduceLT, Nat.lt_irrefl, Nat.reduceBEq, tys0, tys1, tys2, tys3, tys4, tys5, tys6, tys7, tys8, tys9, tys10, tys11, tys12, tys13, tys14, tys15, tys16, tys17, tys18, tys19, tys20, tys21, tys22, tys23, Try.ntmps153, Try.results153, fr]
  refine RunL.callp rfl rfl ok_f158 (shMake_ok _ _ h0 h) (by first | rfl | simp only [pureL, pureB, Bool.and_self, Bool.and_true, Bool.true_and]) rfl ?_
  simp only [run0, run1, run2, run3, run4, run5, run6, run7, run8, run9, run10, run11, run12, run13, run14, run15, run16, run17, run18, run19, run20, run21, run22, reduceCtorEq, Nat.reduceEqDiff, Nat.reduceAdd, Nat.reduceSub, Nat.reduceLeDiff, indexAddrA, indexRefA, appendA, strA, Nat.reduceMul, Nat.zero_mul, Nat.reduceMod, Int.reduceEq, Int.reduceLT, Int.reduceLE, Nat.reduceLT, Nat.lt_irrefl, Nat.reduceBEq, tys0, tys1, tys2, tys3, tys4, tys5, tys6, tys7, tys8, tys9, tys10, tys11, tys12, tys13, tys14, tys15, tys16, tys17, tys18, tys19, tys20, tys21, tys22, tys23, Try.ntmps153, Try.results153, fr]
  exact Fin.eq rfl rfl
end Go.Proofs.Ytllcljajlemmaaa
/-
  Fractions: the reference's operations, and the four laws.
-/
namespace Go.Proofs.Ytllcljajlemmaaa
open Go K
set_option linter.unusedSimpArgs false
set_option linter.unusedVariables false
set_option maxRecDepth 8000
set_option maxHeartbeats 400000

theorem add_small {a b c d : Int} (h1 : goodB a b = true) (h2 : goodB c d = true) : small (addN a b c d) (w64 (b * d)) ∧ w64 (b * d) ≠ 0 := by
  have g1 := good_small h1
  have g2 := good_small h2
  have p1 := prod_small g1.1 g2.2.1
  have p2 := prod_small g1.2.1 g2.2.1
  have p3 := prod_small g2.1 g1.2.1
  have ne : b * d ≠ 0 := Int.mul_ne_zero g1.2.2 g2.2.2
  unfold addN
  rw [w64_small (x := b * d) (by omega), w64_small (x := a * d) (by omega), w64_small (x := c * b) (by omega), w64_small (by omega)]
  exact ⟨⟨by omega, by omega⟩, ne⟩
theorem sub_add {a b c d : Int} (h1 : goodB a b = true) (h2 : goodB c d = true) : addN a b (w64 (0 - c)) d = subN a b c d ∧ small (addN a b (w64 (0 - c)) d) (w64 (b * d)) ∧ w64 (b * d) ≠ 0 := by
  have g1 := good_small h1
  have g2 := good_small h2
  have p1 := prod_small g1.1 g2.2.1
  have p2 := prod_small g1.2.1 g2.2.1
  have p3 := prod_small g2.1 g1.2.1
  have ne : b * d ≠ 0 := Int.mul_ne_zero g1.2.2 g2.2.2
  have e : (0 - c) * b = - (c * b) := by rw [Int.zero_sub, Int.neg_mul]
  unfold addN subN
  rw [w64_small (x := 0 - c) (by omega), e, w64_small (x := b * d) (by omega), w64_small (x := a * d) (by omega), w64_small (x := c * b) (by omega), w64_small (x := - (c * b)) (by omega), w64_small (x := a * d + -(c * b)) (by omega), w64_small (by omega)]
  exact ⟨by omega, ⟨by omega, by omega⟩, ne⟩
theorem div_small {a b c d : Int} (h1 : goodB a b = true) (h2 : goodB c d = true) (h3 : c ≠ 0) : small (w64 (a * d)) (w64 (b * c)) ∧ w64 (b * c) ≠ 0 := by
  have g1 := good_small h1
  have g2 := good_small h2
  have p1 := prod_small g1.1 g2.2.1
  have p2 := prod_small g1.2.1 g2.1
  have ne : b * c ≠ 0 := Int.mul_ne_zero g1.2.2 h3
  rw [w64_small (x := a * d) (by omega), w64_small (x := b * c) (by omega)]
  exact ⟨⟨by omega, by omega⟩, ne⟩

theorem eqFraction_ok (a b : Int) : Ct Try.prog 35 [fr a b, fr a b] [] (.bool true) [] := by
  refine Ct.by_ hmix [] Try.func35 rfl ?_
  simp only [run0, run1, run2, run3, run4, run5, run6, run7, run8, run9, run10, run11, run12, run13, run14, run15, run16, run17, run18, run19, run20, run21, run22, reduceCtorEq, Nat.reduceEqDiff, Nat.reduceAdd, Nat.reduceSub, Nat.reduceLeDiff, indexAddrA, indexRefA, appendA, strA, Nat.reduceMul, Nat.zero_mul, Nat.reduceMod, Int.reduceEq, Int.reduceLT, Int.reduceLE, Nat.reduceLT, Nat.lt_irrefl, Nat.reduceBEq, tys0, tys1, tys2, tys3, tys4, tys5, tys6, tys7, tys8, tys9, tys10, tys11, tys12, tys13, tys14, tys15, tys16, tys17, tys18, tys19, tys20, tys21, tys22, tys23, Try.ntmps35, Try.results35, fr, bne_self_eq_false]
  exact Fin.eq rfl rfl

end Go.Proofs.Ytllcljajlemmaaa
/-
  Short numbers: the walk of the program along a word.
-/
namespace Go.Proofs.Ytllcljajlemmaaa
open Go K
set_option linter.unusedSimpArgs false
set_option linter.unusedVariables false
set_option maxRecDepth 8000
set_option maxHeartbeats 400000

abbrev ints (l : List Int) : List AV := l.map (AV.int .i64)
theorem ints_length (l : List Int) : (ints l).length = l.length := by simp
theorem ints_snoc (l : List Int) (x : Int) : ints l ++ [AV.int .i64 x] = ints (l ++ [x]) := by simp
theorem ints_noOwn (l : List Int) : noOwn (ints l) = true := by simp [noOwn, ints, AV.cells]

/-- The number to which a letter leads. -/
def betw (x side : Int) (low high : List Int) : Int :=
  let other := if side > 0 then high else low
  match other.getLast? with
  | none => w64 (x + w64 (side * 1048576))
  | some y => w64 ((w64 (x + y)).tdiv 2)

theorem betw_nil (x side : Int) : w64 (x + w64 (side * 1048576)) = betw x side [] [] := by simp [betw]
theorem last_wrap {l : List Int} (h : l.length ≤ 1000) : IntKind.i64.wrap (((l.length + 1 : Nat) : Int) - 1) = (l.length : Int) := by
  have := w64_id (x := ((l.length + 1 : Nat) : Int) - 1) (by omega) (by omega)
  simp only [w64] at this
  rw [this]; omega
theorem ints_at (l : List Int) (y : Int) : (ints (l ++ [y]))[l.length]? = some (.int .i64 y) := by simp
theorem betw_up {x side : Int} {low high : List Int} (h : 0 < side) : betw x side low high = (match high.getLast? with | none => w64 (x + w64 (side * 1048576)) | some y => w64 ((w64 (x + y)).tdiv 2)) := by simp [betw, h]
theorem betw_dn {x side : Int} {low high : List Int} (h : ¬ 0 < side) : betw x side low high = (match low.getLast? with | none => w64 (x + w64 (side * 1048576)) | some y => w64 ((w64 (x + y)).tdiv 2)) := by
  unfold betw; simp [h]

theorem nat0 : (((0 : Nat) : Int) == 0) = true := rfl
theorem nat1 (n : Nat) : (((n + 1 : Nat) : Int) == 0) = false := by simp; omega

theorem between_ok (x side : Int) (low high : List Int) (hl : low.length ≤ 1000) (hh : high.length ≤ 1000) : Ct Try.prog 152 [.int .i64 x, .int .i64 side, .sl false (ints low), .sl false (ints high)] [] (.int .i64 (betw x side low high)) [] := by
  refine Ct.by_ hmix [] Try.func152 rfl ?_
  simp only [run0, run1, run2, run3, run4, run5, run6, run7, run8, run9, run10, run11, run12, run13, run14, run15, run16, run17, run18, run19, run20, run21, run22, reduceCtorEq, Nat.reduceEqDiff, Nat.reduceAdd, Nat.reduceSub, Nat.reduceLeDiff, indexAddrA, indexRefA, appendA, strA, Nat.reduceMul, Nat.zero_mul, Nat.reduceMod, Int.reduceEq, Int.reduceLT, Int.reduceLE, Nat.reduceLT, Nat.lt_irrefl, Nat.reduceBEq, tys0, tys1, tys2, tys3, tys4, tys5, tys6, tys7, tys8, tys9, tys10, tys11, tys12, tys13, tys14, tys15, tys16, tys17, tys18, tys19, tys20, tys21, tys22, tys23, Try.ntmps152, Try.results152]
  by_cases hs : 0 < side
  · rw [betw_up hs]
    rcases List.eq_nil_or_concat high with rfl | ⟨l, y, rfl⟩
    · simp only [run0, run1, run2, run3, run4, run5, run6, run7, run8, run9, run10, run11, run12, run13, run14, run15, run16, run17, run18, run19, run20, run21, run22, reduceCtorEq, Nat.reduceEqDiff, Nat.reduceAdd, Nat.reduceSub, Nat.reduceLeDiff, indexAddrA, indexRefA, appendA, strA, Nat.reduceMul, Nat.zero_mul, Nat.reduceMod, Int.reduceEq, Int.reduceLT, Int.reduceLE, Nat.reduceLT, Nat.lt_irrefl, Nat.reduceBEq, tys0, tys1, tys2, tys3, tys4, tys5, tys6, tys7, tys8, tys9, tys10, tys11, tys12, tys13, tys14, tys15, tys16, tys17, tys18, tys19, tys20, tys21, tys22, tys23, Try.ntmps152, Try.results152, hs, nat0]
      exact Fin.eq (by simp) rfl
    · rw [List.concat_eq_append] at *
      have h1 : l.length ≤ 1000 := by simp at hh; omega
      have h2 := last_wrap h1
      have h3 := nat1 l.length
      simp only [run0, run1, run2, run3, run4, run5, run6, run7, run8, run9, run10, run11, run12, run13, run14, run15, run16, run17, run18, run19, run20, run21, run22, reduceCtorEq, Nat.reduceEqDiff, Nat.reduceAdd, Nat.reduceSub, Nat.reduceLeDiff, indexAddrA, indexRefA, appendA, strA, Nat.reduceMul, Nat.zero_mul, Nat.reduceMod, Int.reduceEq, Int.reduceLT, Int.reduceLE, Nat.reduceLT, Nat.lt_irrefl, Nat.reduceBEq, tys0, tys1, tys2, tys3, tys4, tys5, tys6, tys7, tys8, tys9, tys10, tys11, tys12, tys13, tys14, tys15, tys16, tys17, tys18, tys19, tys20, tys21, tys22, tys23, Try.ntmps152, Try.results152, hs, h2, h3, Int.natCast_nonneg, Int.toNat_natCast, ints_at]
      exact Fin.eq (by simp) rfl
  · rw [betw_dn hs]
    rcases List.eq_nil_or_concat low with rfl | ⟨l, y, rfl⟩
    · simp only [run0, run1, run2, run3, run4, run5, run6, run7, run8, run9, run10, run11, run12, run13, run14, run15, run16, run17, run18, run19, run20, run21, run22, reduceCtorEq, Nat.reduceEqDiff, Nat.reduceAdd, Nat.reduceSub, Nat.reduceLeDiff, indexAddrA, indexRefA, appendA, strA, Nat.reduceMul, Nat.zero_mul, Nat.reduceMod, Int.reduceEq, Int.reduceLT, Int.reduceLE, Nat.reduceLT, Nat.lt_irrefl, Nat.reduceBEq, tys0, tys1, tys2, tys3, tys4, tys5, tys6, tys7, tys8, tys9, tys10, tys11, tys12, tys13, tys14, tys15, tys16, tys17, tys18, tys19, tys20, tys21, tys22, tys23, Try.ntmps152, Try.results152, hs, nat0]
      exact Fin.eq (by simp) rfl
    · rw [List.concat_eq_append] at *
      have h1 : l.length ≤ 1000 := by simp at hl; omega
      have h2 := last_wrap h1
      have h3 := nat1 l.length
      simp only [run0, run1, run2, run3, run4, run5, run6, run7, run8, run9, run10, run11, run12, run13, run14, run15, run16, run17, run18, run19, run20, run21, run22, reduceCtorEq, Nat.reduceEqDiff, Nat.reduceAdd, Nat.reduceSub, Nat.reduceLeDiff, indexAddrA, indexRefA, appendA, strA, Nat.reduceMul, Nat.zero_mul, Nat.reduceMod, Int.reduceEq, Int.reduceLT, Int.reduceLE, Nat.reduceLT, Nat.lt_irrefl, Nat.reduceBEq, tys0, tys1, tys2, tys3, tys4, tys5, tys6, tys7, tys8, tys9, tys10, tys11, tys12, tys13, tys14, tys15, tys16, tys17, tys18, tys19, tys20, tys21, tys22, tys23, Try.ntmps152, Try.results152, hs, h2, h3, Int.natCast_nonneg, Int.toNat_natCast, ints_at]
      exact Fin.eq (by simp) rfl

end Go.Proofs.Ytllcljajlemmaaa
/-
  Short numbers: the walk along a word.
-/
namespace Go.Proofs.Ytllcljajlemmaaa
open Go K
set_option linter.unusedSimpArgs false
set_option linter.unusedVariables false
set_option maxRecDepth 8000
set_option maxHeartbeats 400000

theorem Vw_ints {L : List AObj} {id g n sz : Nat} {T : TypeId} {es : List AV} {a : List Int} (hL : L[id]? = some (.vec T sz g es)) (he : es = ints a) (hn : n = a.length) : Vw L (.ref id [] g n) (.sl false (ints a)) := by
  subst he hn
  have := Vw.refPur (o := false) hL (n := a.length) (by simp) (fun e he c hc => by
    simp only [ints, List.mem_map] at he
    obtain ⟨i, _, rfl⟩ := he
    simp [AV.cells] at hc
    subst hc
    exact ⟨.int _ _, fun xs h => by cases h⟩)
  rwa [List.take_of_length_le (by simp)] at this

structure Wk where
  nums : List Int
  word : ByteArray
  low : List Int
  high : List Int
  x : Int

def wkSt (cf : FuncId) (cap : List AV) (i : Wk) : St :=
  ⟨[.fn cf cap, .junk, .ref 0 [] i.nums.length i.nums.length, .str i.word, .ref 1 [] i.low.length i.low.length, .ref 2 [] i.high.length i.high.length, .int .i64 i.x, .junk, .junk, .junk, .junk, .junk, .junk, .junk, .junk, .junk, .junk, .junk, .junk, .junk, .junk, .junk, .junk, .junk, .junk, .junk, .junk, .junk, .junk, .junk, .junk, .junk, .junk, .junk, .junk, .junk, .junk, .junk, .junk, .junk, .junk, .junk, .junk, .junk, .junk],
   [.vec 3 1 i.nums.length (ints i.nums), .vec 3 1 i.low.length (ints i.low), .vec 3 1 i.high.length (ints i.high)]⟩

def plusB : ByteArray := ⟨#[43]⟩
def minusB : ByteArray := ⟨#[45]⟩
/-- Where a walk ends. -/
def wkRun (f : Int → Int) : Nat → Wk → Wk
  | 0, i => i
  | k + 1, i =>
    if f i.x = 0 ∨ i.word.size = 20 then { i with nums := i.nums ++ [i.x] }
    else if 0 < f i.x then wkRun f k ⟨i.nums ++ [i.x], i.word ++ plusB, i.low ++ [i.x], i.high, betw i.x (f i.x) (i.low ++ [i.x]) i.high⟩
    else wkRun f k ⟨i.nums ++ [i.x], i.word ++ minusB, i.low, i.high ++ [i.x], betw i.x (f i.x) i.low (i.high ++ [i.x])⟩
def wk0 : Wk := ⟨[], ⟨#[]⟩, [], [], 0⟩
def wkAV (i : Wk) : AV := .tup [.sl false (ints i.nums), .str i.word, .sl false (ints i.low), .sl false (ints i.high)]

def wkR (i : Wk) : AV := .tup [.ref 0 [] i.nums.length i.nums.length, .str i.word, .ref 1 [] i.low.length i.low.length, .ref 2 [] i.high.length i.high.length]
def wkL (i : Wk) : List AObj := [.vec 3 1 i.nums.length (ints i.nums), .vec 3 1 i.low.length (ints i.low), .vec 3 1 i.high.length (ints i.high)]

theorem walk_ok (cf : FuncId) (cap : List AV) (f : Int → Int) (hc : ∀ x, Ct Try.prog cf (.int .i64 x :: cap) [] (.int .i64 (f x)) []) (hp : pureL cap = true) (hf : okFn Try.prog cf = true) :
    Ct Try.prog 119 [.fn cf cap] [] (wkR (wkRun f 21 wk0)) (wkL (wkRun f 21 wk0)) := by
  refine Ct.by_ hmix [] Try.func119 rfl ?_
  simp only [run0, run1, run2, run3, run4, run5, run6, run7, run8, run9, run10, run11, run12, run13, run14, run15, run16, run17, run18, run19, run20, run21, run22, reduceCtorEq, Nat.reduceEqDiff, Nat.reduceAdd, Nat.reduceSub, Nat.reduceLeDiff, indexAddrA, indexRefA, appendA, strA, Nat.reduceMul, Nat.zero_mul, Nat.reduceMod, Int.reduceEq, Int.reduceLT, Int.reduceLE, Nat.reduceLT, Nat.lt_irrefl, Nat.reduceBEq, tys0, tys1, tys2, tys3, tys4, tys5, tys6, tys7, tys8, tys9, tys10, tys11, tys12, tys13, tys14, tys15, tys16, tys17, tys18, tys19, tys20, tys21, tys22, tys23, Try.ntmps119, Try.results119]
  refine AWp.nil 2 3 1 rfl ?_
  refine AWp.nil 4 3 1 rfl ?_
  refine AWp.nil 5 3 1 rfl ?_
  refine AWp.loop_inv (wkSt cf cap) (fun i => i.word.size ≤ 20 ∧ i.nums.length = i.word.size ∧ i.low.length ≤ i.word.size ∧ i.high.length ≤ i.word.size ∧ wkRun f (21 - i.word.size) i = wkRun f 21 wk0)
    (fun i => 21 - i.word.size) wk0 ⟨by decide, rfl, by decide, by decide, rfl⟩ ⟨JL.refl _, rfl⟩ ?_
  rintro ⟨nums, word, low, high, x⟩ ⟨hw, hn, hlo, hhi, hrun⟩
  simp only at hw hn hlo hhi hrun
  simp only [wkSt]
  refine W.sound hmix (E := []) ?_
  have b0 : nums.length + 1 ≤ 137438953472 := by omega
  have b1 : low.length + 1 ≤ 137438953472 := by omega
  have b2 : high.length + 1 ≤ 137438953472 := by omega
  have hk : 21 - word.size = (20 - word.size) + 1 := by omega
  rw [hk] at hrun
  simp only [run0, run1, run2, run3, run4, run5, run6, run7, run8, run9, run10, run11, run12, run13, run14, run15, run16, run17, run18, run19, run20, run21, run22, reduceCtorEq, Nat.reduceEqDiff, Nat.reduceAdd, Nat.reduceSub, Nat.reduceLeDiff, indexAddrA, indexRefA, appendA, strA, Nat.reduceMul, Nat.zero_mul, Nat.reduceMod, Int.reduceEq, Int.reduceLT, Int.reduceLE, Nat.reduceLT, Nat.lt_irrefl, Nat.reduceBEq, tys0, tys1, tys2, tys3, tys4, tys5, tys6, tys7, tys8, tys9, tys10, tys11, tys12, tys13, tys14, tys15, tys16, tys17, tys18, tys19, tys20, tys21, tys22, tys23, Try.ntmps119, Try.results119, b0, ints_noOwn]
  refine RunL.callcv rfl rfl rfl rfl hf rfl (hc x) (show pureL (.int .i64 x :: cap) = true by simp [pureL, pureB, hp]) ?_
  have hend : (f x = 0 ∨ word.size = 20) → wkRun f 21 wk0 = ⟨nums ++ [x], word, low, high, x⟩ := by
    intro h
    rw [← hrun]
    simp [wkRun, h]
  by_cases hz : f x = 0
  · have e0 : (f x == 0) = true := by simp [hz]
    rw [hend (.inl hz)]
    simp only [run0, run1, run2, run3, run4, run5, run6, run7, run8, run9, run10, run11, run12, run13, run14, run15, run16, run17, run18, run19, run20, run21, run22, reduceCtorEq, Nat.reduceEqDiff, Nat.reduceAdd, Nat.reduceSub, Nat.reduceLeDiff, indexAddrA, indexRefA, appendA, strA, Nat.reduceMul, Nat.zero_mul, Nat.reduceMod, Int.reduceEq, Int.reduceLT, Int.reduceLE, Nat.reduceLT, Nat.lt_irrefl, Nat.reduceBEq, tys0, tys1, tys2, tys3, tys4, tys5, tys6, tys7, tys8, tys9, tys10, tys11, tys12, tys13, tys14, tys15, tys16, tys17, tys18, tys19, tys20, tys21, tys22, tys23, Try.ntmps119, Try.results119, e0]
    exact Fin.own (by simp [wkL, ints]) (by simp [wkR])
  have e0 : (f x == 0) = false := by simp [hz]
  by_cases h20 : word.size = 20
  · have e1 : ((word.size : Int) == 20) = true := by simp [h20]
    rw [hend (.inr h20)]
    simp only [run0, run1, run2, run3, run4, run5, run6, run7, run8, run9, run10, run11, run12, run13, run14, run15, run16, run17, run18, run19, run20, run21, run22, reduceCtorEq, Nat.reduceEqDiff, Nat.reduceAdd, Nat.reduceSub, Nat.reduceLeDiff, indexAddrA, indexRefA, appendA, strA, Nat.reduceMul, Nat.zero_mul, Nat.reduceMod, Int.reduceEq, Int.reduceLT, Int.reduceLE, Nat.reduceLT, Nat.lt_irrefl, Nat.reduceBEq, tys0, tys1, tys2, tys3, tys4, tys5, tys6, tys7, tys8, tys9, tys10, tys11, tys12, tys13, tys14, tys15, tys16, tys17, tys18, tys19, tys20, tys21, tys22, tys23, Try.ntmps119, Try.results119, e0, e1]
    exact Fin.own (by simp [wkL, ints]) (by simp [wkR])
  have e1 : ((word.size : Int) == 20) = false := by simp; omega
  have hgo : ¬ (f x = 0 ∨ word.size = 20) := by simp [hz, h20]
  have b3 : word.size + (ByteArray.mk #[43]).size ≤ 9223372036854775807 := by
    rw [show (ByteArray.mk #[43]).size = 1 from rfl]; omega
  have b4 : word.size + (ByteArray.mk #[45]).size ≤ 9223372036854775807 := by
    rw [show (ByteArray.mk #[45]).size = 1 from rfl]; omega
  by_cases hpos : 0 < f x
  · simp only [run0, run1, run2, run3, run4, run5, run6, run7, run8, run9, run10, run11, run12, run13, run14, run15, run16, run17, run18, run19, run20, run21, run22, reduceCtorEq, Nat.reduceEqDiff, Nat.reduceAdd, Nat.reduceSub, Nat.reduceLeDiff, indexAddrA, indexRefA, appendA, strA, Nat.reduceMul, Nat.zero_mul, Nat.reduceMod, Int.reduceEq, Int.reduceLT, Int.reduceLE, Nat.reduceLT, Nat.lt_irrefl, Nat.reduceBEq, tys0, tys1, tys2, tys3, tys4, tys5, tys6, tys7, tys8, tys9, tys10, tys11, tys12, tys13, tys14, tys15, tys16, tys17, tys18, tys19, tys20, tys21, tys22, tys23, Try.ntmps119, Try.results119, e0, e1, hpos, b1, b3, ints_noOwn]
    refine RunL.call rfl rfl rfl ok_f152 rfl (.inl rfl) (Ct.lend (between_ok x (f x) (low ++ [x]) high (by simp; omega) (by omega)) (.cons (Vw.pur (Pur.int _ _)) (.cons (Vw.pur (Pur.int _ _)) (.cons (Vw_ints rfl (by simp) (by simp)) (.cons (Vw_ints rfl rfl rfl) .nil)))) rfl) ?_
    simp only [run0, run1, run2, run3, run4, run5, run6, run7, run8, run9, run10, run11, run12, run13, run14, run15, run16, run17, run18, run19, run20, run21, run22, reduceCtorEq, Nat.reduceEqDiff, Nat.reduceAdd, Nat.reduceSub, Nat.reduceLeDiff, indexAddrA, indexRefA, appendA, strA, Nat.reduceMul, Nat.zero_mul, Nat.reduceMod, Int.reduceEq, Int.reduceLT, Int.reduceLE, Nat.reduceLT, Nat.lt_irrefl, Nat.reduceBEq, tys0, tys1, tys2, tys3, tys4, tys5, tys6, tys7, tys8, tys9, tys10, tys11, tys12, tys13, tys14, tys15, tys16, tys17, tys18, tys19, tys20, tys21, tys22, tys23, Try.ntmps119, Try.results119]
    have hsz : (word ++ plusB).size = word.size + 1 := by simp [ByteArray.size_append, plusB]; rfl
    refine ⟨⟨nums ++ [x], word ++ plusB, low ++ [x], high, betw x (f x) (low ++ [x]) high⟩, ⟨by simp only [hsz]; omega, by simp only [hsz, List.length_append, hn]; rfl, by simp only [hsz, List.length_append, List.length_cons, List.length_nil]; omega, by simp only [hsz]; omega, ?_⟩, by simp only [hsz]; omega, ?_, ?_⟩
    · simp only [hsz]
      rw [← hrun, show 21 - (word.size + 1) = 20 - word.size by omega]
      simp [wkRun, hgo, hpos]
    · simp only [List.length_append, List.length_cons, List.length_nil, Nat.zero_add, plusB]
      repeat constructor
    · simp [ints]
  · simp only [run0, run1, run2, run3, run4, run5, run6, run7, run8, run9, run10, run11, run12, run13, run14, run15, run16, run17, run18, run19, run20, run21, run22, reduceCtorEq, Nat.reduceEqDiff, Nat.reduceAdd, Nat.reduceSub, Nat.reduceLeDiff, indexAddrA, indexRefA, appendA, strA, Nat.reduceMul, Nat.zero_mul, Nat.reduceMod, Int.reduceEq, Int.reduceLT, Int.reduceLE, Nat.reduceLT, Nat.lt_irrefl, Nat.reduceBEq, tys0, tys1, tys2, tys3, tys4, tys5, tys6, tys7, tys8, tys9, tys10, tys11, tys12, tys13, tys14, tys15, tys16, tys17, tys18, tys19, tys20, tys21, tys22, tys23, Try.ntmps119, Try.results119, e0, e1, hpos, b2, b4, ints_noOwn]
    refine RunL.call rfl rfl rfl ok_f152 rfl (.inl rfl) (Ct.lend (between_ok x (f x) low (high ++ [x]) (by omega) (by simp; omega)) (.cons (Vw.pur (Pur.int _ _)) (.cons (Vw.pur (Pur.int _ _)) (.cons (Vw_ints rfl rfl rfl) (.cons (Vw_ints rfl (by simp) (by simp)) .nil)))) rfl) ?_
    simp only [run0, run1, run2, run3, run4, run5, run6, run7, run8, run9, run10, run11, run12, run13, run14, run15, run16, run17, run18, run19, run20, run21, run22, reduceCtorEq, Nat.reduceEqDiff, Nat.reduceAdd, Nat.reduceSub, Nat.reduceLeDiff, indexAddrA, indexRefA, appendA, strA, Nat.reduceMul, Nat.zero_mul, Nat.reduceMod, Int.reduceEq, Int.reduceLT, Int.reduceLE, Nat.reduceLT, Nat.lt_irrefl, Nat.reduceBEq, tys0, tys1, tys2, tys3, tys4, tys5, tys6, tys7, tys8, tys9, tys10, tys11, tys12, tys13, tys14, tys15, tys16, tys17, tys18, tys19, tys20, tys21, tys22, tys23, Try.ntmps119, Try.results119]
    have hsz : (word ++ minusB).size = word.size + 1 := by simp [ByteArray.size_append, minusB]; rfl
    refine ⟨⟨nums ++ [x], word ++ minusB, low, high ++ [x], betw x (f x) low (high ++ [x])⟩, ⟨by simp only [hsz]; omega, by simp only [hsz, List.length_append, hn]; rfl, by simp only [hsz]; omega, by simp only [hsz, List.length_append, List.length_cons, List.length_nil]; omega, ?_⟩, by simp only [hsz]; omega, ?_, ?_⟩
    · simp only [hsz]
      rw [← hrun, show 21 - (word.size + 1) = 20 - word.size by omega]
      simp [wkRun, hgo, hpos]
    · simp only [List.length_append, List.length_cons, List.length_nil, Nat.zero_add, minusB]
      repeat constructor
    · simp [ints]

theorem wkRun_last (f : Int → Int) : ∀ (k : Nat) (i : Wk), (0 < k ∨ ∃ l y, i.nums = l ++ [y]) → ∃ l y, (wkRun f k i).nums = l ++ [y]
  | 0, i, h => by
    rcases h with h | h
    · omega
    · exact h
  | k + 1, i, _ => by
    unfold wkRun
    split
    · exact ⟨_, _, rfl⟩
    · split
      · exact wkRun_last f k _ (.inr ⟨_, _, rfl⟩)
      · exact wkRun_last f k _ (.inr ⟨_, _, rfl⟩)
theorem wkRun_size (f : Int → Int) : ∀ (k : Nat) (i : Wk), (wkRun f k i).nums.length ≤ i.nums.length + k + 1
  | 0, i => by simp [wkRun]
  | k + 1, i => by
    unfold wkRun
    split
    · simp
    · split
      · have := wkRun_size f k ⟨i.nums ++ [i.x], i.word ++ plusB, i.low ++ [i.x], i.high, betw i.x (f i.x) (i.low ++ [i.x]) i.high⟩
        simp at this ⊢; omega
      · have := wkRun_size f k ⟨i.nums ++ [i.x], i.word ++ minusB, i.low, i.high ++ [i.x], betw i.x (f i.x) i.low (i.high ++ [i.x])⟩
        simp at this ⊢; omega

/-- Where a fraction lies, from a number of so many parts. -/
def side (n d : Int) (x : Int) : Int := cmpI (w64 (n * 1048576)) (w64 (x * d))
theorem closWord_ok (n d x : Int) : Ct Try.prog 120 [.int .i64 x, .rptr (.agg [.int .i64 n, .int .i64 d]) 0] [] (.int .i64 (side n d x)) [] := by
  refine Ct.by_ hmix [] Try.func120 rfl ?_
  simp only [run0, run1, run2, run3, run4, run5, run6, run7, run8, run9, run10, run11, run12, run13, run14, run15, run16, run17, run18, run19, run20, run21, run22, reduceCtorEq, Nat.reduceEqDiff, Nat.reduceAdd, Nat.reduceSub, Nat.reduceLeDiff, indexAddrA, indexRefA, appendA, strA, Nat.reduceMul, Nat.zero_mul, Nat.reduceMod, Int.reduceEq, Int.reduceLT, Int.reduceLE, Nat.reduceLT, Nat.lt_irrefl, Nat.reduceBEq, tys0, tys1, tys2, tys3, tys4, tys5, tys6, tys7, tys8, tys9, tys10, tys11, tys12, tys13, tys14, tys15, tys16, tys17, tys18, tys19, tys20, tys21, tys22, tys23, Try.ntmps120, Try.results120]
  refine RunL.callp rfl rfl ok_f121 (compare_ok _ _) (by first | rfl | simp only [pureL, pureB, Bool.and_self, Bool.and_true, Bool.true_and]) rfl ?_
  simp only [run0, run1, run2, run3, run4, run5, run6, run7, run8, run9, run10, run11, run12, run13, run14, run15, run16, run17, run18, run19, run20, run21, run22, reduceCtorEq, Nat.reduceEqDiff, Nat.reduceAdd, Nat.reduceSub, Nat.reduceLeDiff, indexAddrA, indexRefA, appendA, strA, Nat.reduceMul, Nat.zero_mul, Nat.reduceMod, Int.reduceEq, Int.reduceLT, Int.reduceLE, Nat.reduceLT, Nat.lt_irrefl, Nat.reduceBEq, tys0, tys1, tys2, tys3, tys4, tys5, tys6, tys7, tys8, tys9, tys10, tys11, tys12, tys13, tys14, tys15, tys16, tys17, tys18, tys19, tys20, tys21, tys22, tys23, Try.ntmps120, Try.results120]
  exact Fin.eq rfl rfl

def wkOf (n d : Int) : Wk := wkRun (side n d) 21 wk0
def shortB (n d : Int) : Bool := goodB n d && (w64 (n * 1048576) == w64 ((wkOf n d).nums.getLastD 0 * d))
def noWk : Wk := ⟨[], ⟨#[]⟩, [], [], 0⟩
def gWk (n d : Int) : Wk := if goodB n d then wkOf n d else noWk

theorem wordOf_ok (n d : Int) : Ct Try.prog 71 [fr n d] [] (.tup [.sl false (ints (gWk n d).nums), .str (gWk n d).word, .sl false (ints (gWk n d).low), .sl false (ints (gWk n d).high), .bool (shortB n d)]) [] := by
  refine Ct.by_ hmix [] Try.func71 rfl ?_
  simp only [run0, run1, run2, run3, run4, run5, run6, run7, run8, run9, run10, run11, run12, run13, run14, run15, run16, run17, run18, run19, run20, run21, run22, reduceCtorEq, Nat.reduceEqDiff, Nat.reduceAdd, Nat.reduceSub, Nat.reduceLeDiff, indexAddrA, indexRefA, appendA, strA, Nat.reduceMul, Nat.zero_mul, Nat.reduceMod, Int.reduceEq, Int.reduceLT, Int.reduceLE, Nat.reduceLT, Nat.lt_irrefl, Nat.reduceBEq, tys0, tys1, tys2, tys3, tys4, tys5, tys6, tys7, tys8, tys9, tys10, tys11, tys12, tys13, tys14, tys15, tys16, tys17, tys18, tys19, tys20, tys21, tys22, tys23, Try.ntmps71, Try.results71, fr]
  refine RunL.callp rfl rfl ok_f86 (good_ok _ _) (by first | rfl | simp only [pureL, pureB, Bool.and_self, Bool.and_true, Bool.true_and]) rfl ?_
  simp only [run0, run1, run2, run3, run4, run5, run6, run7, run8, run9, run10, run11, run12, run13, run14, run15, run16, run17, run18, run19, run20, run21, run22, reduceCtorEq, Nat.reduceEqDiff, Nat.reduceAdd, Nat.reduceSub, Nat.reduceLeDiff, indexAddrA, indexRefA, appendA, strA, Nat.reduceMul, Nat.zero_mul, Nat.reduceMod, Int.reduceEq, Int.reduceLT, Int.reduceLE, Nat.reduceLT, Nat.lt_irrefl, Nat.reduceBEq, tys0, tys1, tys2, tys3, tys4, tys5, tys6, tys7, tys8, tys9, tys10, tys11, tys12, tys13, tys14, tys15, tys16, tys17, tys18, tys19, tys20, tys21, tys22, tys23, Try.ntmps71, Try.results71]
  refine Wc.split (fun hg => ?_) (fun hg => ?_) <;> simp only [run0, run1, run2, run3, run4, run5, run6, run7, run8, run9, run10, run11, run12, run13, run14, run15, run16, run17, run18, run19, run20, run21, run22, reduceCtorEq, Nat.reduceEqDiff, Nat.reduceAdd, Nat.reduceSub, Nat.reduceLeDiff, indexAddrA, indexRefA, appendA, strA, Nat.reduceMul, Nat.zero_mul, Nat.reduceMod, Int.reduceEq, Int.reduceLT, Int.reduceLE, Nat.reduceLT, Nat.lt_irrefl, Nat.reduceBEq, tys0, tys1, tys2, tys3, tys4, tys5, tys6, tys7, tys8, tys9, tys10, tys11, tys12, tys13, tys14, tys15, tys16, tys17, tys18, tys19, tys20, tys21, tys22, tys23, Try.ntmps71, Try.results71, hg]
  · have hg' : goodB n d = false := by simpa using hg
    rw [show (AV.tup [AV.sl false (ints (gWk n d).nums), AV.str (gWk n d).word, AV.sl false (ints (gWk n d).low), AV.sl false (ints (gWk n d).high), AV.bool (shortB n d)]) = .tup [.sl false [], .str ⟨#[]⟩, .sl false [], .sl false [], .bool false] by simp [gWk, hg', shortB, noWk, ints]]
    exact Fin.value (Vw.tup (.cons (Vw.nil false) (.cons (Vw.pur (Pur.str _)) (.cons (Vw.nil false) (.cons (Vw.nil false) (.cons (Vw.pur (Pur.bool _)) .nil))))))
  · have hg' : goodB n d = true := by simpa using hg
    obtain ⟨l, y, hl⟩ := wkRun_last (side n d) 21 wk0 (.inl (by omega))
    have hsz := wkRun_size (side n d) 21 wk0
    have hw := walk_ok 120 [.rptr (.agg [.int .i64 n, .int .i64 d]) 0] (side n d) (closWord_ok n d) rfl ok_f120
    have e1 : gWk n d = wkRun (side n d) 21 wk0 := by simp [gWk, hg', wkOf]
    have e2 : shortB n d = (w64 (n * 1048576) == w64 (y * d)) := by simp [shortB, hg', wkOf, hl]
    rw [e1, e2]
    generalize wkRun (side n d) 21 wk0 = j at *
    obtain ⟨nums, word, low, high, x⟩ := j
    simp only at hl hsz
    subst hl
    have h1 : l.length ≤ 1000 := by simp [wk0] at hsz; omega
    have h2 := last_wrap h1
    have h3 : ((l.length : Int) < ((l.length + 1 : Nat) : Int)) := by omega
    refine RunL.lendOwn (ys := [.fn 120 [.rptr (.agg [.int .i64 n, .int .i64 d]) 0]]) rfl rfl rfl ok_f119 rfl rfl hw rfl (by simp [wkL, okO, noOwn, ints, AV.cells, flatB]) ?_
    simp only [run0, run1, run2, run3, run4, run5, run6, run7, run8, run9, run10, run11, run12, run13, run14, run15, run16, run17, run18, run19, run20, run21, run22, reduceCtorEq, Nat.reduceEqDiff, Nat.reduceAdd, Nat.reduceSub, Nat.reduceLeDiff, indexAddrA, indexRefA, appendA, strA, Nat.reduceMul, Nat.zero_mul, Nat.reduceMod, Int.reduceEq, Int.reduceLT, Int.reduceLE, Nat.reduceLT, Nat.lt_irrefl, Nat.reduceBEq, tys0, tys1, tys2, tys3, tys4, tys5, tys6, tys7, tys8, tys9, tys10, tys11, tys12, tys13, tys14, tys15, tys16, tys17, tys18, tys19, tys20, tys21, tys22, tys23, Try.ntmps71, Try.results71, shR, sh1, wkL, wkR, h2, h3, Int.natCast_nonneg, Int.toNat_natCast, ints_at, List.mapIdx_cons, List.mapIdx_nil, viewC]
    refine ⟨by kernel_rfl, Fin.value (Vw.tup (.cons (Vw_ints rfl rfl (by simp)) (.cons (Vw.pur (Pur.str _)) (.cons (Vw_ints rfl rfl rfl) (.cons (Vw_ints rfl rfl rfl) (.cons (Vw.pur (Pur.bool _)) .nil))))))⟩

end Go.Proofs.Ytllcljajlemmaaa
/-
  Short numbers: what the program's IsShort, WordOf and DayOf come to; the reference's steps.
-/
namespace Go.Proofs.Ytllcljajlemmaaa
open Go K
set_option linter.unusedSimpArgs false
set_option linter.unusedVariables false
set_option maxRecDepth 8000
set_option maxHeartbeats 400000

/-- The reference's walk: where it stands, the bounds, and which of them are there. -/
structure Sw where
  an : Int
  ad : Int
  ln : Int
  ld : Int
  hn : Int
  hd : Int
  hasL : Bool
  hasH : Bool
def swV (s : Sw) : AV := .agg [.int .i64 s.an, .int .i64 s.ad, .int .i64 s.ln, .int .i64 s.ld, .int .i64 s.hn, .int .i64 s.hd, .bool s.hasL, .bool s.hasH]

theorem shInt_ok (n : Int) : Ct Try.prog 79 [.int .i64 n] [] (fr n 1) [] := by
  refine Ct.by_ hmix [] Try.func79 rfl ?_
  simp only [run0, run1, run2, run3, run4, run5, run6, run7, run8, run9, run10, run11, run12, run13, run14, run15, run16, run17, run18, run19, run20, run21, run22, reduceCtorEq, Nat.reduceEqDiff, Nat.reduceAdd, Nat.reduceSub, Nat.reduceLeDiff, indexAddrA, indexRefA, appendA, strA, Nat.reduceMul, Nat.zero_mul, Nat.reduceMod, Int.reduceEq, Int.reduceLT, Int.reduceLE, Nat.reduceLT, Nat.lt_irrefl, Nat.reduceBEq, tys0, tys1, tys2, tys3, tys4, tys5, tys6, tys7, tys8, tys9, tys10, tys11, tys12, tys13, tys14, tys15, tys16, tys17, tys18, tys19, tys20, tys21, tys22, tys23, Try.ntmps79, Try.results79, fr]
  exact Fin.eq rfl rfl
theorem shStart_ok : Ct Try.prog 123 [] [] (swV ⟨0, 1, 0, 0, 0, 0, false, false⟩) [] := by
  refine Ct.by_ hmix [] Try.func123 rfl ?_
  simp only [run0, run1, run2, run3, run4, run5, run6, run7, run8, run9, run10, run11, run12, run13, run14, run15, run16, run17, run18, run19, run20, run21, run22, reduceCtorEq, Nat.reduceEqDiff, Nat.reduceAdd, Nat.reduceSub, Nat.reduceLeDiff, indexAddrA, indexRefA, appendA, strA, Nat.reduceMul, Nat.zero_mul, Nat.reduceMod, Int.reduceEq, Int.reduceLT, Int.reduceLE, Nat.reduceLT, Nat.lt_irrefl, Nat.reduceBEq, tys0, tys1, tys2, tys3, tys4, tys5, tys6, tys7, tys8, tys9, tys10, tys11, tys12, tys13, tys14, tys15, tys16, tys17, tys18, tys19, tys20, tys21, tys22, tys23, Try.ntmps123, Try.results123, fr, swV]
  refine RunL.callp rfl rfl ok_f79 (shInt_ok _) (by first | rfl | simp only [pureL, pureB, Bool.and_self, Bool.and_true, Bool.true_and]) rfl ?_
  simp only [run0, run1, run2, run3, run4, run5, run6, run7, run8, run9, run10, run11, run12, run13, run14, run15, run16, run17, run18, run19, run20, run21, run22, reduceCtorEq, Nat.reduceEqDiff, Nat.reduceAdd, Nat.reduceSub, Nat.reduceLeDiff, indexAddrA, indexRefA, appendA, strA, Nat.reduceMul, Nat.zero_mul, Nat.reduceMod, Int.reduceEq, Int.reduceLT, Int.reduceLE, Nat.reduceLT, Nat.lt_irrefl, Nat.reduceBEq, tys0, tys1, tys2, tys3, tys4, tys5, tys6, tys7, tys8, tys9, tys10, tys11, tys12, tys13, tys14, tys15, tys16, tys17, tys18, tys19, tys20, tys21, tys22, tys23, Try.ntmps123, Try.results123, fr, swV]
  exact Fin.eq rfl rfl

end Go.Proofs.Ytllcljajlemmaaa
/-
  Short numbers: a step of the reference's walk.
-/
namespace Go.Proofs.Ytllcljajlemmaaa
open Go K
set_option linter.unusedSimpArgs false
set_option linter.unusedVariables false
set_option maxRecDepth 8000
set_option maxHeartbeats 400000

/-- A sum's and a product's parts, where they stay small. -/
def addOk (a b c d : Int) : Prop := w64 (b * d) ≠ 0 ∧ small (addN a b c d) (w64 (b * d))
def sumN (a b c d : Int) : Int := mkN (addN a b c d) (w64 (b * d))
def sumD (a b c d : Int) : Int := mkD (addN a b c d) (w64 (b * d))
def mulOk (a b c d : Int) : Prop := w64 (b * d) ≠ 0 ∧ small (w64 (a * c)) (w64 (b * d))
def mulN (a b c d : Int) : Int := mkN (w64 (a * c)) (w64 (b * d))
def mulD (a b c d : Int) : Int := mkD (w64 (a * c)) (w64 (b * d))
theorem add_ok (a b c d : Int) (h : addOk a b c d) : Ct Try.prog 154 [fr a b, fr c d] [] (fr (sumN a b c d) (sumD a b c d)) [] := shAdd_ok a b c d h.1 h.2
theorem mul_ok (a b c d : Int) (h : mulOk a b c d) : Ct Try.prog 153 [fr a b, fr c d] [] (fr (mulN a b c d) (mulD a b c d)) [] := shMul_ok a b c d h.1 h.2

def midN (a b c d : Int) : Int := mulN (sumN a b c d) (sumD a b c d) 1 2
def midD (a b c d : Int) : Int := mulD (sumN a b c d) (sumD a b c d) 1 2
def midOk (a b c d : Int) : Prop := addOk a b c d ∧ mulOk (sumN a b c d) (sumD a b c d) 1 2
/-- A step of the reference's walk. -/
def swStep (s : Sw) (plus : Bool) : Sw :=
  match plus with
  | true => if s.hasH then ⟨midN s.an s.ad s.hn s.hd, midD s.an s.ad s.hn s.hd, s.an, s.ad, s.hn, s.hd, true, true⟩ else ⟨sumN s.an s.ad 1 1, sumD s.an s.ad 1 1, s.an, s.ad, s.hn, s.hd, true, false⟩
  | false => if s.hasL then ⟨midN s.ln s.ld s.an s.ad, midD s.ln s.ld s.an s.ad, s.ln, s.ld, s.an, s.ad, true, true⟩ else ⟨sumN s.an s.ad (-1) 1, sumD s.an s.ad (-1) 1, s.ln, s.ld, s.an, s.ad, false, true⟩
def swOk (s : Sw) (plus : Bool) : Prop :=
  match plus with
  | true => if s.hasH then midOk s.an s.ad s.hn s.hd else addOk s.an s.ad 1 1
  | false => if s.hasL then midOk s.ln s.ld s.an s.ad else addOk s.an s.ad (-1) 1

theorem step_ok (s : Sw) (plus : Bool) (h : swOk s plus) : Ct Try.prog 127 [swV s, .bool plus] [] (swV (swStep s plus)) [] := by
  obtain ⟨an, ad, ln, ld, hn, hd, hl, hh⟩ := s
  refine Ct.by_ hmix [] Try.func127 rfl ?_
  cases plus
  · cases hl
    · simp only [run0, run1, run2, run3, run4, run5, run6, run7, run8, run9, run10, run11, run12, run13, run14, run15, run16, run17, run18, run19, run20, run21, run22, reduceCtorEq, Nat.reduceEqDiff, Nat.reduceAdd, Nat.reduceSub, Nat.reduceLeDiff, indexAddrA, indexRefA, appendA, strA, Nat.reduceMul, Nat.zero_mul, Nat.reduceMod, Int.reduceEq, Int.reduceLT, Int.reduceLE, Nat.reduceLT, Nat.lt_irrefl, Nat.reduceBEq, tys0, tys1, tys2, tys3, tys4, tys5, tys6, tys7, tys8, tys9, tys10, tys11, tys12, tys13, tys14, tys15, tys16, tys17, tys18, tys19, tys20, tys21, tys22, tys23, Try.ntmps127, Try.results127, fr, swV]
      have h' : addOk an ad (-1) 1 := h
      refine ⟨by kernel_rfl, ?_⟩
      refine RunL.callp rfl rfl ok_f79 (shInt_ok _) (by first | rfl | simp only [pureL, pureB, Bool.and_self, Bool.and_true, Bool.true_and]) rfl ?_
      simp only [run0, run1, run2, run3, run4, run5, run6, run7, run8, run9, run10, run11, run12, run13, run14, run15, run16, run17, run18, run19, run20, run21, run22, reduceCtorEq, Nat.reduceEqDiff, Nat.reduceAdd, Nat.reduceSub, Nat.reduceLeDiff, indexAddrA, indexRefA, appendA, strA, Nat.reduceMul, Nat.zero_mul, Nat.reduceMod, Int.reduceEq, Int.reduceLT, Int.reduceLE, Nat.reduceLT, Nat.lt_irrefl, Nat.reduceBEq, tys0, tys1, tys2, tys3, tys4, tys5, tys6, tys7, tys8, tys9, tys10, tys11, tys12, tys13, tys14, tys15, tys16, tys17, tys18, tys19, tys20, tys21, tys22, tys23, Try.ntmps127, Try.results127, fr, swV]
      refine RunL.callp rfl rfl ok_f154 (add_ok _ _ _ _ h') (by first | rfl | simp only [pureL, pureB, Bool.and_self, Bool.and_true, Bool.true_and]) rfl ?_
      simp only [run0, run1, run2, run3, run4, run5, run6, run7, run8, run9, run10, run11, run12, run13, run14, run15, run16, run17, run18, run19, run20, run21, run22, reduceCtorEq, Nat.reduceEqDiff, Nat.reduceAdd, Nat.reduceSub, Nat.reduceLeDiff, indexAddrA, indexRefA, appendA, strA, Nat.reduceMul, Nat.zero_mul, Nat.reduceMod, Int.reduceEq, Int.reduceLT, Int.reduceLE, Nat.reduceLT, Nat.lt_irrefl, Nat.reduceBEq, tys0, tys1, tys2, tys3, tys4, tys5, tys6, tys7, tys8, tys9, tys10, tys11, tys12, tys13, tys14, tys15, tys16, tys17, tys18, tys19, tys20, tys21, tys22, tys23, Try.ntmps127, Try.results127, fr, swV]
      exact Fin.eq (by simp [swStep]) rfl
    · simp only [run0, run1, run2, run3, run4, run5, run6, run7, run8, run9, run10, run11, run12, run13, run14, run15, run16, run17, run18, run19, run20, run21, run22, reduceCtorEq, Nat.reduceEqDiff, Nat.reduceAdd, Nat.reduceSub, Nat.reduceLeDiff, indexAddrA, indexRefA, appendA, strA, Nat.reduceMul, Nat.zero_mul, Nat.reduceMod, Int.reduceEq, Int.reduceLT, Int.reduceLE, Nat.reduceLT, Nat.lt_irrefl, Nat.reduceBEq, tys0, tys1, tys2, tys3, tys4, tys5, tys6, tys7, tys8, tys9, tys10, tys11, tys12, tys13, tys14, tys15, tys16, tys17, tys18, tys19, tys20, tys21, tys22, tys23, Try.ntmps127, Try.results127, fr, swV]
      have h' : midOk ln ld an ad := h
      refine ⟨by kernel_rfl, ?_⟩
      refine RunL.callp rfl rfl ok_f154 (add_ok _ _ _ _ h'.1) (by first | rfl | simp only [pureL, pureB, Bool.and_self, Bool.and_true, Bool.true_and]) rfl ?_
      simp only [run0, run1, run2, run3, run4, run5, run6, run7, run8, run9, run10, run11, run12, run13, run14, run15, run16, run17, run18, run19, run20, run21, run22, reduceCtorEq, Nat.reduceEqDiff, Nat.reduceAdd, Nat.reduceSub, Nat.reduceLeDiff, indexAddrA, indexRefA, appendA, strA, Nat.reduceMul, Nat.zero_mul, Nat.reduceMod, Int.reduceEq, Int.reduceLT, Int.reduceLE, Nat.reduceLT, Nat.lt_irrefl, Nat.reduceBEq, tys0, tys1, tys2, tys3, tys4, tys5, tys6, tys7, tys8, tys9, tys10, tys11, tys12, tys13, tys14, tys15, tys16, tys17, tys18, tys19, tys20, tys21, tys22, tys23, Try.ntmps127, Try.results127, fr, swV]
      refine RunL.callp rfl rfl ok_f153 (mul_ok _ _ _ _ h'.2) (by first | rfl | simp only [pureL, pureB, Bool.and_self, Bool.and_true, Bool.true_and]) rfl ?_
      simp only [run0, run1, run2, run3, run4, run5, run6, run7, run8, run9, run10, run11, run12, run13, run14, run15, run16, run17, run18, run19, run20, run21, run22, reduceCtorEq, Nat.reduceEqDiff, Nat.reduceAdd, Nat.reduceSub, Nat.reduceLeDiff, indexAddrA, indexRefA, appendA, strA, Nat.reduceMul, Nat.zero_mul, Nat.reduceMod, Int.reduceEq, Int.reduceLT, Int.reduceLE, Nat.reduceLT, Nat.lt_irrefl, Nat.reduceBEq, tys0, tys1, tys2, tys3, tys4, tys5, tys6, tys7, tys8, tys9, tys10, tys11, tys12, tys13, tys14, tys15, tys16, tys17, tys18, tys19, tys20, tys21, tys22, tys23, Try.ntmps127, Try.results127, fr, swV]
      exact Fin.eq (by simp [swStep, midN, midD]) rfl
  · cases hh
    · simp only [run0, run1, run2, run3, run4, run5, run6, run7, run8, run9, run10, run11, run12, run13, run14, run15, run16, run17, run18, run19, run20, run21, run22, reduceCtorEq, Nat.reduceEqDiff, Nat.reduceAdd, Nat.reduceSub, Nat.reduceLeDiff, indexAddrA, indexRefA, appendA, strA, Nat.reduceMul, Nat.zero_mul, Nat.reduceMod, Int.reduceEq, Int.reduceLT, Int.reduceLE, Nat.reduceLT, Nat.lt_irrefl, Nat.reduceBEq, tys0, tys1, tys2, tys3, tys4, tys5, tys6, tys7, tys8, tys9, tys10, tys11, tys12, tys13, tys14, tys15, tys16, tys17, tys18, tys19, tys20, tys21, tys22, tys23, Try.ntmps127, Try.results127, fr, swV]
      have h' : addOk an ad 1 1 := h
      refine ⟨by kernel_rfl, ?_⟩
      refine RunL.callp rfl rfl ok_f79 (shInt_ok _) (by first | rfl | simp only [pureL, pureB, Bool.and_self, Bool.and_true, Bool.true_and]) rfl ?_
      simp only [run0, run1, run2, run3, run4, run5, run6, run7, run8, run9, run10, run11, run12, run13, run14, run15, run16, run17, run18, run19, run20, run21, run22, reduceCtorEq, Nat.reduceEqDiff, Nat.reduceAdd, Nat.reduceSub, Nat.reduceLeDiff, indexAddrA, indexRefA, appendA, strA, Nat.reduceMul, Nat.zero_mul, Nat.reduceMod, Int.reduceEq, Int.reduceLT, Int.reduceLE, Nat.reduceLT, Nat.lt_irrefl, Nat.reduceBEq, tys0, tys1, tys2, tys3, tys4, tys5, tys6, tys7, tys8, tys9, tys10, tys11, tys12, tys13, tys14, tys15, tys16, tys17, tys18, tys19, tys20, tys21, tys22, tys23, Try.ntmps127, Try.results127, fr, swV]
      refine RunL.callp rfl rfl ok_f154 (add_ok _ _ _ _ h') (by first | rfl | simp only [pureL, pureB, Bool.and_self, Bool.and_true, Bool.true_and]) rfl ?_
      simp only [run0, run1, run2, run3, run4, run5, run6, run7, run8, run9, run10, run11, run12, run13, run14, run15, run16, run17, run18, run19, run20, run21, run22, reduceCtorEq, Nat.reduceEqDiff, Nat.reduceAdd, Nat.reduceSub, Nat.reduceLeDiff, indexAddrA, indexRefA, appendA, strA, Nat.reduceMul, Nat.zero_mul, Nat.reduceMod, Int.reduceEq, Int.reduceLT, Int.reduceLE, Nat.reduceLT, Nat.lt_irrefl, Nat.reduceBEq, tys0, tys1, tys2, tys3, tys4, tys5, tys6, tys7, tys8, tys9, tys10, tys11, tys12, tys13, tys14, tys15, tys16, tys17, tys18, tys19, tys20, tys21, tys22, tys23, Try.ntmps127, Try.results127, fr, swV]
      exact Fin.eq (by simp [swStep]) rfl
    · simp only [run0, run1, run2, run3, run4, run5, run6, run7, run8, run9, run10, run11, run12, run13, run14, run15, run16, run17, run18, run19, run20, run21, run22, reduceCtorEq, Nat.reduceEqDiff, Nat.reduceAdd, Nat.reduceSub, Nat.reduceLeDiff, indexAddrA, indexRefA, appendA, strA, Nat.reduceMul, Nat.zero_mul, Nat.reduceMod, Int.reduceEq, Int.reduceLT, Int.reduceLE, Nat.reduceLT, Nat.lt_irrefl, Nat.reduceBEq, tys0, tys1, tys2, tys3, tys4, tys5, tys6, tys7, tys8, tys9, tys10, tys11, tys12, tys13, tys14, tys15, tys16, tys17, tys18, tys19, tys20, tys21, tys22, tys23, Try.ntmps127, Try.results127, fr, swV]
      have h' : midOk an ad hn hd := h
      refine ⟨by kernel_rfl, ?_⟩
      refine RunL.callp rfl rfl ok_f154 (add_ok _ _ _ _ h'.1) (by first | rfl | simp only [pureL, pureB, Bool.and_self, Bool.and_true, Bool.true_and]) rfl ?_
      simp only [run0, run1, run2, run3, run4, run5, run6, run7, run8, run9, run10, run11, run12, run13, run14, run15, run16, run17, run18, run19, run20, run21, run22, reduceCtorEq, Nat.reduceEqDiff, Nat.reduceAdd, Nat.reduceSub, Nat.reduceLeDiff, indexAddrA, indexRefA, appendA, strA, Nat.reduceMul, Nat.zero_mul, Nat.reduceMod, Int.reduceEq, Int.reduceLT, Int.reduceLE, Nat.reduceLT, Nat.lt_irrefl, Nat.reduceBEq, tys0, tys1, tys2, tys3, tys4, tys5, tys6, tys7, tys8, tys9, tys10, tys11, tys12, tys13, tys14, tys15, tys16, tys17, tys18, tys19, tys20, tys21, tys22, tys23, Try.ntmps127, Try.results127, fr, swV]
      refine RunL.callp rfl rfl ok_f153 (mul_ok _ _ _ _ h'.2) (by first | rfl | simp only [pureL, pureB, Bool.and_self, Bool.and_true, Bool.true_and]) rfl ?_
      simp only [run0, run1, run2, run3, run4, run5, run6, run7, run8, run9, run10, run11, run12, run13, run14, run15, run16, run17, run18, run19, run20, run21, run22, reduceCtorEq, Nat.reduceEqDiff, Nat.reduceAdd, Nat.reduceSub, Nat.reduceLeDiff, indexAddrA, indexRefA, appendA, strA, Nat.reduceMul, Nat.zero_mul, Nat.reduceMod, Int.reduceEq, Int.reduceLT, Int.reduceLE, Nat.reduceLT, Nat.lt_irrefl, Nat.reduceBEq, tys0, tys1, tys2, tys3, tys4, tys5, tys6, tys7, tys8, tys9, tys10, tys11, tys12, tys13, tys14, tys15, tys16, tys17, tys18, tys19, tys20, tys21, tys22, tys23, Try.ntmps127, Try.results127, fr, swV]
      exact Fin.eq (by simp [swStep, midN, midD]) rfl

end Go.Proofs.Ytllcljajlemmaaa
/-
  Short numbers: the reference's walk to a fraction.
-/
namespace Go.Proofs.Ytllcljajlemmaaa
open Go K
set_option linter.unusedSimpArgs false
set_option linter.unusedVariables false
set_option maxRecDepth 8000
set_option maxHeartbeats 400000

def swCmp (n d : Int) (s : Sw) : Int := cmpI (w64 (w64 (s.an * d) - w64 (n * s.ad))) 0
def sw0 : Sw := ⟨0, 1, 0, 0, 0, 0, false, false⟩
def swRun (n d : Int) : Nat → Sw → ByteArray → ByteArray × Bool
  | 0, _, _ => (⟨#[]⟩, false)
  | k + 1, s, out =>
    if swCmp n d s = 0 then (out, true) else if out.size = 20 then (⟨#[]⟩, false)
    else if swCmp n d s < 0 then swRun n d k (swStep s true) (out ++ plusB) else swRun n d k (swStep s false) (out ++ minusB)
def swGood (n d : Int) : Nat → Sw → ByteArray → Prop
  | 0, _, _ => True
  | k + 1, s, out =>
    swCmp n d s = 0 ∨ out.size = 20 ∨ (swCmp n d s < 0 ∧ swOk s true ∧ swGood n d k (swStep s true) (out ++ plusB)) ∨ (¬ swCmp n d s < 0 ∧ swOk s false ∧ swGood n d k (swStep s false) (out ++ minusB))

def swSt (n d : Int) (i : Sw × ByteArray) : St :=
  ⟨[.agg [.int .i64 n, .int .i64 d], .ptr 0 0, .str ⟨#[]⟩, .bool false, .ptr 1 0, .str i.2, .junk, .junk, .junk, .junk, .junk, .junk, .junk, .junk, .junk, .junk, .junk, .junk, .junk, .junk, .junk, .junk, .junk, .junk, .junk, .junk, .junk, .junk, .junk],
   [.box 42 [.int .i64 n, .int .i64 d], .box 144 [.int .i64 i.1.an, .int .i64 i.1.ad, .int .i64 i.1.ln, .int .i64 i.1.ld, .int .i64 i.1.hn, .int .i64 i.1.hd, .bool i.1.hasL, .bool i.1.hasH]]⟩

theorem shWord_ok (n d : Int) (hg : swGood n d 21 sw0 ⟨#[]⟩) : Ct Try.prog 117 [fr n d] [] (.tup [.str (swRun n d 21 sw0 ⟨#[]⟩).1, .bool (swRun n d 21 sw0 ⟨#[]⟩).2]) [] := by
  refine Ct.by_ hmix [] Try.func117 rfl ?_
  simp only [run0, run1, run2, run3, run4, run5, run6, run7, run8, run9, run10, run11, run12, run13, run14, run15, run16, run17, run18, run19, run20, run21, run22, reduceCtorEq, Nat.reduceEqDiff, Nat.reduceAdd, Nat.reduceSub, Nat.reduceLeDiff, indexAddrA, indexRefA, appendA, strA, Nat.reduceMul, Nat.zero_mul, Nat.reduceMod, Int.reduceEq, Int.reduceLT, Int.reduceLE, Nat.reduceLT, Nat.lt_irrefl, Nat.reduceBEq, tys0, tys1, tys2, tys3, tys4, tys5, tys6, tys7, tys8, tys9, tys10, tys11, tys12, tys13, tys14, tys15, tys16, tys17, tys18, tys19, tys20, tys21, tys22, tys23, Try.ntmps117, Try.results117, fr]
  refine RunL.callp rfl rfl ok_f123 (shStart_ok) (by first | rfl | simp only [pureL, pureB, Bool.and_self, Bool.and_true, Bool.true_and]) rfl ?_
  simp only [run0, run1, run2, run3, run4, run5, run6, run7, run8, run9, run10, run11, run12, run13, run14, run15, run16, run17, run18, run19, run20, run21, run22, reduceCtorEq, Nat.reduceEqDiff, Nat.reduceAdd, Nat.reduceSub, Nat.reduceLeDiff, indexAddrA, indexRefA, appendA, strA, Nat.reduceMul, Nat.zero_mul, Nat.reduceMod, Int.reduceEq, Int.reduceLT, Int.reduceLE, Nat.reduceLT, Nat.lt_irrefl, Nat.reduceBEq, tys0, tys1, tys2, tys3, tys4, tys5, tys6, tys7, tys8, tys9, tys10, tys11, tys12, tys13, tys14, tys15, tys16, tys17, tys18, tys19, tys20, tys21, tys22, tys23, Try.ntmps117, Try.results117, fr, swV]
  refine AWp.loop_inv (swSt n d) (fun i => i.2.size ≤ 20 ∧ swGood n d (21 - i.2.size) i.1 i.2 ∧ swRun n d (21 - i.2.size) i.1 i.2 = swRun n d 21 sw0 ⟨#[]⟩)
    (fun i => 21 - i.2.size) (sw0, ⟨#[]⟩) ⟨by decide, hg, rfl⟩ ⟨?_, rfl⟩ ?_
  · simp only [swSt]
    repeat constructor
  rintro ⟨s, out⟩ ⟨hw, hgd, hrun⟩
  simp only at hw hgd hrun
  simp only [swSt]
  refine W.sound hmix (E := []) ?_
  have hk : 21 - out.size = (20 - out.size) + 1 := by omega
  rw [hk] at hgd hrun
  have b3 : out.size + (ByteArray.mk #[43]).size ≤ 9223372036854775807 := by
    rw [show (ByteArray.mk #[43]).size = 1 from rfl]; omega
  have b4 : out.size + (ByteArray.mk #[45]).size ≤ 9223372036854775807 := by
    rw [show (ByteArray.mk #[45]).size = 1 from rfl]; omega
  simp only [run0, run1, run2, run3, run4, run5, run6, run7, run8, run9, run10, run11, run12, run13, run14, run15, run16, run17, run18, run19, run20, run21, run22, reduceCtorEq, Nat.reduceEqDiff, Nat.reduceAdd, Nat.reduceSub, Nat.reduceLeDiff, indexAddrA, indexRefA, appendA, strA, Nat.reduceMul, Nat.zero_mul, Nat.reduceMod, Int.reduceEq, Int.reduceLT, Int.reduceLE, Nat.reduceLT, Nat.lt_irrefl, Nat.reduceBEq, tys0, tys1, tys2, tys3, tys4, tys5, tys6, tys7, tys8, tys9, tys10, tys11, tys12, tys13, tys14, tys15, tys16, tys17, tys18, tys19, tys20, tys21, tys22, tys23, Try.ntmps117, Try.results117]
  refine RunL.callp rfl rfl ok_f78 (shCmp_ok _ _ _ _) (by first | rfl | simp only [pureL, pureB, Bool.and_self, Bool.and_true, Bool.true_and]) rfl ?_
  by_cases hz : swCmp n d s = 0
  · have e0 : (cmpI (w64 (w64 (s.an * d) - w64 (n * s.ad))) 0 != 0) = false := by simpa [swCmp] using hz
    have hr : swRun n d 21 sw0 ⟨#[]⟩ = (out, true) := by rw [← hrun]; simp [swRun, hz]
    rw [hr]
    simp only [run0, run1, run2, run3, run4, run5, run6, run7, run8, run9, run10, run11, run12, run13, run14, run15, run16, run17, run18, run19, run20, run21, run22, reduceCtorEq, Nat.reduceEqDiff, Nat.reduceAdd, Nat.reduceSub, Nat.reduceLeDiff, indexAddrA, indexRefA, appendA, strA, Nat.reduceMul, Nat.zero_mul, Nat.reduceMod, Int.reduceEq, Int.reduceLT, Int.reduceLE, Nat.reduceLT, Nat.lt_irrefl, Nat.reduceBEq, tys0, tys1, tys2, tys3, tys4, tys5, tys6, tys7, tys8, tys9, tys10, tys11, tys12, tys13, tys14, tys15, tys16, tys17, tys18, tys19, tys20, tys21, tys22, tys23, Try.ntmps117, Try.results117, e0]
    exact Fin.eq rfl rfl
  have e0 : (cmpI (w64 (w64 (s.an * d) - w64 (n * s.ad))) 0 != 0) = true := by simpa [swCmp] using hz
  by_cases h20 : out.size = 20
  · have e1 : ((out.size : Int) == 20) = true := by simp [h20]
    have hr : swRun n d 21 sw0 ⟨#[]⟩ = (⟨#[]⟩, false) := by rw [← hrun]; simp [swRun, hz, h20]
    rw [hr]
    simp only [run0, run1, run2, run3, run4, run5, run6, run7, run8, run9, run10, run11, run12, run13, run14, run15, run16, run17, run18, run19, run20, run21, run22, reduceCtorEq, Nat.reduceEqDiff, Nat.reduceAdd, Nat.reduceSub, Nat.reduceLeDiff, indexAddrA, indexRefA, appendA, strA, Nat.reduceMul, Nat.zero_mul, Nat.reduceMod, Int.reduceEq, Int.reduceLT, Int.reduceLE, Nat.reduceLT, Nat.lt_irrefl, Nat.reduceBEq, tys0, tys1, tys2, tys3, tys4, tys5, tys6, tys7, tys8, tys9, tys10, tys11, tys12, tys13, tys14, tys15, tys16, tys17, tys18, tys19, tys20, tys21, tys22, tys23, Try.ntmps117, Try.results117, e0, e1]
    exact Fin.eq rfl rfl
  have e1 : ((out.size : Int) == 20) = false := by simp; omega
  have e2 : True := trivial
  simp only [swGood] at hgd
  by_cases hneg : swCmp n d s < 0
  · have hneg' : cmpI (w64 (w64 (s.an * d) - w64 (n * s.ad))) 0 < 0 := hneg
    have hst : swOk s true ∧ swGood n d (20 - out.size) (swStep s true) (out ++ plusB) := by
      rcases hgd with h | h | h | h
      · exact absurd h hz
      · exact absurd h h20
      · first | exact h.2 | exact absurd h.1 hneg
      · first | exact h.2 | exact absurd hneg h.1
    obtain ⟨hs, hgn⟩ := hst
    have hsz : (out ++ plusB).size = out.size + 1 := by simp [ByteArray.size_append, plusB]; rfl
    have hrn : swRun n d (20 - out.size) (swStep s true) (out ++ plusB) = swRun n d 21 sw0 ⟨#[]⟩ := by rw [← hrun]; simp [swRun, hz, h20, hneg]
    simp only [run0, run1, run2, run3, run4, run5, run6, run7, run8, run9, run10, run11, run12, run13, run14, run15, run16, run17, run18, run19, run20, run21, run22, reduceCtorEq, Nat.reduceEqDiff, Nat.reduceAdd, Nat.reduceSub, Nat.reduceLeDiff, indexAddrA, indexRefA, appendA, strA, Nat.reduceMul, Nat.zero_mul, Nat.reduceMod, Int.reduceEq, Int.reduceLT, Int.reduceLE, Nat.reduceLT, Nat.lt_irrefl, Nat.reduceBEq, tys0, tys1, tys2, tys3, tys4, tys5, tys6, tys7, tys8, tys9, tys10, tys11, tys12, tys13, tys14, tys15, tys16, tys17, tys18, tys19, tys20, tys21, tys22, tys23, Try.ntmps117, Try.results117, e0, e1, e2]
    refine RunL.callp rfl rfl ok_f78 (shCmp_ok _ _ _ _) (by first | rfl | simp only [pureL, pureB, Bool.and_self, Bool.and_true, Bool.true_and]) rfl ?_
    simp only [run0, run1, run2, run3, run4, run5, run6, run7, run8, run9, run10, run11, run12, run13, run14, run15, run16, run17, run18, run19, run20, run21, run22, reduceCtorEq, Nat.reduceEqDiff, Nat.reduceAdd, Nat.reduceSub, Nat.reduceLeDiff, indexAddrA, indexRefA, appendA, strA, Nat.reduceMul, Nat.zero_mul, Nat.reduceMod, Int.reduceEq, Int.reduceLT, Int.reduceLE, Nat.reduceLT, Nat.lt_irrefl, Nat.reduceBEq, tys0, tys1, tys2, tys3, tys4, tys5, tys6, tys7, tys8, tys9, tys10, tys11, tys12, tys13, tys14, tys15, tys16, tys17, tys18, tys19, tys20, tys21, tys22, tys23, Try.ntmps117, Try.results117, hneg', b3, b4]
    refine RunL.callp rfl rfl ok_f127 (step_ok s true hs) (by first | rfl | simp only [pureL, pureB, Bool.and_self, Bool.and_true, Bool.true_and]) rfl ?_
    generalize swStep s true = s' at *
    simp only [run0, run1, run2, run3, run4, run5, run6, run7, run8, run9, run10, run11, run12, run13, run14, run15, run16, run17, run18, run19, run20, run21, run22, reduceCtorEq, Nat.reduceEqDiff, Nat.reduceAdd, Nat.reduceSub, Nat.reduceLeDiff, indexAddrA, indexRefA, appendA, strA, Nat.reduceMul, Nat.zero_mul, Nat.reduceMod, Int.reduceEq, Int.reduceLT, Int.reduceLE, Nat.reduceLT, Nat.lt_irrefl, Nat.reduceBEq, tys0, tys1, tys2, tys3, tys4, tys5, tys6, tys7, tys8, tys9, tys10, tys11, tys12, tys13, tys14, tys15, tys16, tys17, tys18, tys19, tys20, tys21, tys22, tys23, Try.ntmps117, Try.results117, swV]
    refine ⟨(s', out ++ plusB), ⟨by simp only [hsz]; omega, by simp only [hsz]; rw [show 21 - (out.size + 1) = 20 - out.size by omega]; exact hgn, by simp only [hsz]; rw [show 21 - (out.size + 1) = 20 - out.size by omega]; exact hrn⟩, by simp only [hsz]; omega, ?_, rfl⟩
    simp only [plusB]
    repeat constructor
  · have hneg' : ¬ cmpI (w64 (w64 (s.an * d) - w64 (n * s.ad))) 0 < 0 := hneg
    have hst : swOk s false ∧ swGood n d (20 - out.size) (swStep s false) (out ++ minusB) := by
      rcases hgd with h | h | h | h
      · exact absurd h hz
      · exact absurd h h20
      · first | exact h.2 | exact absurd h.1 hneg
      · first | exact h.2 | exact absurd hneg h.1
    obtain ⟨hs, hgn⟩ := hst
    have hsz : (out ++ minusB).size = out.size + 1 := by simp [ByteArray.size_append, minusB]; rfl
    have hrn : swRun n d (20 - out.size) (swStep s false) (out ++ minusB) = swRun n d 21 sw0 ⟨#[]⟩ := by rw [← hrun]; simp [swRun, hz, h20, hneg]
    simp only [run0, run1, run2, run3, run4, run5, run6, run7, run8, run9, run10, run11, run12, run13, run14, run15, run16, run17, run18, run19, run20, run21, run22, reduceCtorEq, Nat.reduceEqDiff, Nat.reduceAdd, Nat.reduceSub, Nat.reduceLeDiff, indexAddrA, indexRefA, appendA, strA, Nat.reduceMul, Nat.zero_mul, Nat.reduceMod, Int.reduceEq, Int.reduceLT, Int.reduceLE, Nat.reduceLT, Nat.lt_irrefl, Nat.reduceBEq, tys0, tys1, tys2, tys3, tys4, tys5, tys6, tys7, tys8, tys9, tys10, tys11, tys12, tys13, tys14, tys15, tys16, tys17, tys18, tys19, tys20, tys21, tys22, tys23, Try.ntmps117, Try.results117, e0, e1, e2]
    refine RunL.callp rfl rfl ok_f78 (shCmp_ok _ _ _ _) (by first | rfl | simp only [pureL, pureB, Bool.and_self, Bool.and_true, Bool.true_and]) rfl ?_
    simp only [run0, run1, run2, run3, run4, run5, run6, run7, run8, run9, run10, run11, run12, run13, run14, run15, run16, run17, run18, run19, run20, run21, run22, reduceCtorEq, Nat.reduceEqDiff, Nat.reduceAdd, Nat.reduceSub, Nat.reduceLeDiff, indexAddrA, indexRefA, appendA, strA, Nat.reduceMul, Nat.zero_mul, Nat.reduceMod, Int.reduceEq, Int.reduceLT, Int.reduceLE, Nat.reduceLT, Nat.lt_irrefl, Nat.reduceBEq, tys0, tys1, tys2, tys3, tys4, tys5, tys6, tys7, tys8, tys9, tys10, tys11, tys12, tys13, tys14, tys15, tys16, tys17, tys18, tys19, tys20, tys21, tys22, tys23, Try.ntmps117, Try.results117, hneg', b3, b4]
    refine RunL.callp rfl rfl ok_f127 (step_ok s false hs) (by first | rfl | simp only [pureL, pureB, Bool.and_self, Bool.and_true, Bool.true_and]) rfl ?_
    generalize swStep s false = s' at *
    simp only [run0, run1, run2, run3, run4, run5, run6, run7, run8, run9, run10, run11, run12, run13, run14, run15, run16, run17, run18, run19, run20, run21, run22, reduceCtorEq, Nat.reduceEqDiff, Nat.reduceAdd, Nat.reduceSub, Nat.reduceLeDiff, indexAddrA, indexRefA, appendA, strA, Nat.reduceMul, Nat.zero_mul, Nat.reduceMod, Int.reduceEq, Int.reduceLT, Int.reduceLE, Nat.reduceLT, Nat.lt_irrefl, Nat.reduceBEq, tys0, tys1, tys2, tys3, tys4, tys5, tys6, tys7, tys8, tys9, tys10, tys11, tys12, tys13, tys14, tys15, tys16, tys17, tys18, tys19, tys20, tys21, tys22, tys23, Try.ntmps117, Try.results117, swV]
    refine ⟨(s', out ++ minusB), ⟨by simp only [hsz]; omega, by simp only [hsz]; rw [show 21 - (out.size + 1) = 20 - out.size by omega]; exact hgn, by simp only [hsz]; rw [show 21 - (out.size + 1) = 20 - out.size by omega]; exact hrn⟩, by simp only [hsz]; omega, ?_, rfl⟩
    simp only [minusB]
    repeat constructor

end Go.Proofs.Ytllcljajlemmaaa
/-
  Short numbers: the plain law of the two walks.
-/
namespace Go.Proofs.Ytllcljajlemmaaa
open Go K
set_option linter.unusedSimpArgs false
set_option linter.unusedVariables false
set_option maxRecDepth 8000
set_option maxHeartbeats 400000

theorem gcdL_gcd : ∀ (k : Nat) (a b : Int), b.natAbs < k → (gcdL k a b).natAbs = Nat.gcd a.natAbs b.natAbs
  | 0, a, b, h => by omega
  | k + 1, a, b, h => by
    by_cases hb : b = 0
    · subst hb; simp [gcdL]
    · have h1 := tmod_lt (a := a) hb
      rw [show gcdL (k + 1) a b = gcdL k b (a.tmod b) by simp [gcdL, hb], gcdL_gcd k b (a.tmod b) (by omega), Int.natAbs_tmod, Nat.gcd_comm, ← Nat.gcd_rec, Nat.gcd_comm]
theorem gcdI_gcd {n d : Int} (hd : d ≠ 0) (h1 : n.natAbs ≤ 9000000000000000) (h2 : d.natAbs ≤ 9000000000000000) : gcdI n d = (Nat.gcd n.natAbs d.natAbs : Nat) := by
  obtain ⟨h3, h4, _⟩ := gcdL_size (d.natAbs + 1) n d (by omega)
  unfold gcdI
  rw [absW_small (by omega), gcdL_gcd _ _ _ (by omega)]

/-- A fraction's parts: what they are. -/
theorem mk_spec {n d : Int} (hd : 0 < d) (h : small n d) : ∃ g : Int, 0 < g ∧ n = g * mkN n d ∧ d = g * mkD n d ∧ 0 < mkD n d ∧ Nat.gcd (mkN n d).natAbs (mkD n d).natAbs = 1 ∧ (mkN n d).natAbs ≤ n.natAbs ∧ mkD n d ≤ d := by
  have hg := gcdI_gcd (n := n) (d := d) (by omega) h.1 h.2
  have hp := gcdI_pos (n := n) (d := d) (by omega) h.1 h.2
  have hG : mkG n d = gcdI n d := by unfold mkG; rw [if_neg (by omega)]
  obtain ⟨p, hp1⟩ : ∃ p : Int, n = gcdI n d * p := by
    have : (gcdI n d) ∣ n := by rw [hg]; exact Int.ofNat_dvd_left.2 (Nat.gcd_dvd_left _ _)
    exact this
  obtain ⟨q, hq1⟩ : ∃ q : Int, d = gcdI n d * q := by
    have : (gcdI n d) ∣ d := by rw [hg]; exact Int.ofNat_dvd_left.2 (Nat.gcd_dvd_right _ _)
    exact this
  have hpb : p.natAbs ≤ n.natAbs := by
    have : n.natAbs = (gcdI n d).natAbs * p.natAbs := by rw [← Int.natAbs_mul, ← hp1]
    rw [this]
    exact Nat.le_mul_of_pos_left _ (by omega)
  have hq0 : 0 < q := by
    rcases Int.lt_trichotomy q 0 with h | h | h
    · exfalso
      have := Int.mul_neg_of_pos_of_neg (show 0 < gcdI n d by omega) h
      omega
    · exfalso; rw [h] at hq1; simp at hq1; omega
    · exact h
  have hqb : q.natAbs ≤ d.natAbs := by
    have : d.natAbs = (gcdI n d).natAbs * q.natAbs := by rw [← Int.natAbs_mul, ← hq1]
    rw [this]
    exact Nat.le_mul_of_pos_left _ (by omega)
  have eN : mkN n d = p := by
    unfold mkN
    rw [hG]
    have : n.tdiv (gcdI n d) = p := by
      rw [show n.tdiv (gcdI n d) = (gcdI n d * p).tdiv (gcdI n d) by rw [← hp1]]
      exact Int.mul_tdiv_cancel_left p (by omega)
    rw [this]; exact w64_small (by have := h.1; omega)
  have eD : mkD n d = q := by
    unfold mkD
    rw [hG]
    have : d.tdiv (gcdI n d) = q := by
      rw [show d.tdiv (gcdI n d) = (gcdI n d * q).tdiv (gcdI n d) by rw [← hq1]]
      exact Int.mul_tdiv_cancel_left q (by omega)
    rw [this]; exact w64_small (by have := h.2; omega)
  refine ⟨gcdI n d, by omega, by rw [eN]; exact hp1, by rw [eD]; exact hq1, by rw [eD]; exact hq0, ?_, by rw [eN]; exact hpb, by rw [eD]; omega⟩
  rw [eN, eD]
  have e1 : n.natAbs = (gcdI n d).natAbs * p.natAbs := by rw [← Int.natAbs_mul, ← hp1]
  have e2 : d.natAbs = (gcdI n d).natAbs * q.natAbs := by rw [← Int.natAbs_mul, ← hq1]
  have e3 : (gcdI n d).natAbs = Nat.gcd n.natAbs d.natAbs := by rw [hg]; simp
  have e4 : Nat.gcd n.natAbs d.natAbs = (gcdI n d).natAbs * Nat.gcd p.natAbs q.natAbs := by rw [e1, e2, Nat.gcd_mul_left]
  have e5 : (gcdI n d).natAbs * Nat.gcd p.natAbs q.natAbs = (gcdI n d).natAbs * 1 := by rw [← e4, e3]; simp
  exact Nat.eq_of_mul_eq_mul_left (by omega) e5

/-- Fractions of one ratio have the same parts. -/
theorem mk_ratio {n1 d1 n2 d2 : Int} (h1 : 0 < d1) (h2 : 0 < d2) (s1 : small n1 d1) (s2 : small n2 d2) (h : n1 * d2 = n2 * d1) : mkN n1 d1 = mkN n2 d2 ∧ mkD n1 d1 = mkD n2 d2 := by
  obtain ⟨g1, hg1, a1, b1, c1, e1, _, _⟩ := mk_spec h1 s1
  obtain ⟨g2, hg2, a2, b2, c2, e2, _, _⟩ := mk_spec h2 s2
  generalize mkN n1 d1 = p1 at *
  generalize mkD n1 d1 = q1 at *
  generalize mkN n2 d2 = p2 at *
  generalize mkD n2 d2 = q2 at *
  have hx : p1 * q2 = p2 * q1 := by
    have hgg : g1 * g2 ≠ 0 := Int.mul_ne_zero (by omega) (by omega)
    apply Int.eq_of_mul_eq_mul_left hgg
    have : (g1 * p1) * (g2 * q2) = (g2 * p2) * (g1 * q1) := by rw [← a1, ← b2, ← a2, ← b1]; exact h
    calc g1 * g2 * (p1 * q2) = (g1 * p1) * (g2 * q2) := by ac_rfl
      _ = (g2 * p2) * (g1 * q1) := this
      _ = g1 * g2 * (p2 * q1) := by ac_rfl
  have hn : p1.natAbs * q2.natAbs = p2.natAbs * q1.natAbs := by rw [← Int.natAbs_mul, ← Int.natAbs_mul, hx]
  have d1' : q1.natAbs ∣ q2.natAbs := by
    have : q1.natAbs ∣ p1.natAbs * q2.natAbs := ⟨p2.natAbs, by rw [hn, Nat.mul_comm]⟩
    exact Nat.Coprime.dvd_of_dvd_mul_left (by rw [Nat.coprime_comm]; exact e1) this
  have d2' : q2.natAbs ∣ q1.natAbs := by
    have : q2.natAbs ∣ p2.natAbs * q1.natAbs := ⟨p1.natAbs, by rw [← hn, Nat.mul_comm]⟩
    exact Nat.Coprime.dvd_of_dvd_mul_left (by rw [Nat.coprime_comm]; exact e2) this
  have hq : q1 = q2 := by have := Nat.dvd_antisymm d1' d2'; omega
  subst hq
  exact ⟨Int.eq_of_mul_eq_mul_right (by omega) hx, rfl⟩

/-- 'p' over 'q' is 'x' parts of the unit, in lowest terms. -/
def At (x p q : Int) : Prop := p = mkN x 1048576 ∧ q = mkD x 1048576
theorem At.spec {x p q : Int} (h : At x p q) (hx : x.natAbs ≤ 100000000) : ∃ g : Int, 0 < g ∧ x = g * p ∧ 1048576 = g * q ∧ 0 < q ∧ q ≤ 1048576 ∧ p.natAbs ≤ x.natAbs := by
  obtain ⟨g, h1, h2, h3, h4, _, h5, h6⟩ := mk_spec (n := x) (d := 1048576) (by omega) ⟨by omega, by omega⟩
  rw [← h.1] at h2 h5
  rw [← h.2] at h3 h4 h6
  exact ⟨g, h1, h2, h3, h4, h6, h5⟩
theorem At.of {x n d : Int} (hd : 0 < d) (hs : small n d) (hx : x.natAbs ≤ 100000000) (h : n * 1048576 = x * d) : At x (mkN n d) (mkD n d) :=
  mk_ratio hd (by omega) hs ⟨by omega, by omega⟩ h
theorem at_one : At 1048576 1 1 := by
  have := At.of (x := 1048576) (n := 1) (d := 1) (by omega) ⟨by decide, by decide⟩ (by omega) (by omega)
  exact this
theorem at_minus : At (-1048576) (-1) 1 := by
  have := At.of (x := -1048576) (n := -1) (d := 1) (by omega) ⟨by decide, by decide⟩ (by omega) (by omega)
  exact this
theorem at_zero : At 0 0 1 := by
  have := At.of (x := 0) (n := 0) (d := 1) (by omega) ⟨by decide, by decide⟩ (by omega) (by omega)
  exact this

theorem mul_le {a b : Int} {A B : Nat} (h1 : a.natAbs ≤ A) (h2 : b.natAbs ≤ B) : (a * b).natAbs ≤ A * B := by
  rw [Int.natAbs_mul]; exact Nat.mul_le_mul h1 h2

theorem sum_at {x y a b c d : Int} (h1 : At x a b) (h2 : At y c d) (hx : x.natAbs ≤ 50000000) (hy : y.natAbs ≤ 50000000) : addOk a b c d ∧ At (x + y) (sumN a b c d) (sumD a b c d) := by
  obtain ⟨g1, p1, e1, f1, k1, l1, m1⟩ := h1.spec (by omega)
  obtain ⟨g2, p2, e2, f2, k2, l2, m2⟩ := h2.spec (by omega)
  have q1 := mul_le (a := b) (b := d) (A := 1048576) (B := 1048576) (by omega) (by omega)
  have q2 := mul_le (a := a) (b := d) (A := 50000000) (B := 1048576) (by omega) (by omega)
  have q3 := mul_le (a := c) (b := b) (A := 50000000) (B := 1048576) (by omega) (by omega)
  have q4 : 0 < b * d := Int.mul_pos k1 k2
  have w1 : w64 (b * d) = b * d := w64_small (by omega)
  have w2 : addN a b c d = a * d + c * b := by
    unfold addN
    rw [w64_small (x := a * d) (by omega), w64_small (x := c * b) (by omega), w64_small (by omega)]
  have hs : small (a * d + c * b) (b * d) := ⟨by omega, by omega⟩
  refine ⟨⟨by rw [w1]; omega, by rw [w1, w2]; exact hs⟩, ?_⟩
  unfold sumN sumD
  rw [w1, w2]
  refine At.of q4 hs (by omega) ?_
  have r1 : a * d * 1048576 = x * (b * d) := by
    rw [e1]; conv => lhs; rw [f1]
    ac_rfl
  have r2 : c * b * 1048576 = y * (b * d) := by
    rw [e2]; conv => lhs; rw [f2]
    ac_rfl
  rw [Int.add_mul, Int.add_mul, r1, r2]

theorem half_at {z a b : Int} (h : At (2 * z) a b) (hz : z.natAbs ≤ 50000000) : mulOk a b 1 2 ∧ At z (mulN a b 1 2) (mulD a b 1 2) := by
  obtain ⟨g, p, e, f, k, l, m⟩ := h.spec (by omega)
  have w1 : w64 (b * 2) = b * 2 := w64_small (by omega)
  have w2 : w64 (a * 1) = a := by rw [Int.mul_one]; exact w64_small (by omega)
  have hs : small a (b * 2) := ⟨by omega, by omega⟩
  refine ⟨⟨by rw [w1]; omega, by rw [w1, w2]; exact hs⟩, ?_⟩
  unfold mulN mulD
  rw [w1, w2]
  refine At.of (by omega) hs (by omega) ?_
  have r1 : a * 1048576 = (2 * z) * b := by
    rw [e]; conv => lhs; rw [f]
    ac_rfl
  rw [r1]; ac_rfl

theorem mid_at {x y z a b c d : Int} (h1 : At x a b) (h2 : At y c d) (hx : x.natAbs ≤ 25000000) (hy : y.natAbs ≤ 25000000) (hz : x + y = 2 * z) : midOk a b c d ∧ At z (midN a b c d) (midD a b c d) := by
  obtain ⟨k1, k2⟩ := sum_at h1 h2 (by omega) (by omega)
  rw [hz] at k2
  obtain ⟨k3, k4⟩ := half_at k2 (by omega)
  exact ⟨⟨k1, k3⟩, k4⟩

/-- Both walks look the same way. -/
theorem cmp_at {x a b n d : Int} (h : At x a b) (hx : x.natAbs ≤ 50000000) (hn : n.natAbs ≤ 1000000) (hd : 0 < d) (hd2 : d ≤ 1000000) :
    cmpI (w64 (w64 (a * d) - w64 (n * b))) 0 = - side n d x := by
  obtain ⟨g, p, e, f, k, l, m⟩ := h.spec (by omega)
  have q1 := mul_le (a := a) (b := d) (A := 50000000) (B := 1000000) (by omega) (by omega)
  have q2 := mul_le (a := n) (b := b) (A := 1000000) (B := 1048576) (by omega) (by omega)
  have q3 := mul_le (a := x) (b := d) (A := 50000000) (B := 1000000) (by omega) (by omega)
  unfold side
  rw [w64_small (x := a * d) (by omega), w64_small (x := n * b) (by omega), w64_small (x := a * d - n * b) (by omega), w64_small (x := n * 1048576) (by omega), w64_small (x := x * d) (by omega)]
  have r1 : n * 1048576 - x * d = g * (n * b - a * d) := by
    rw [e, Int.mul_sub]; conv => lhs; rw [f]
    congr 1 <;> ac_rfl
  have s1 : 0 < n * b - a * d → 0 < n * 1048576 - x * d := fun h => by rw [r1]; exact Int.mul_pos p h
  have s2 : n * b - a * d < 0 → n * 1048576 - x * d < 0 := fun h => by rw [r1]; exact Int.mul_neg_of_pos_of_neg p h
  have s3 : n * b - a * d = 0 → n * 1048576 - x * d = 0 := fun h => by rw [r1, h]; simp
  unfold cmpI
  rcases Int.lt_trichotomy (n * b - a * d) 0 with h | h | h
  · have := s2 h; split <;> (try omega) <;> split <;> (try omega) <;> split <;> (try omega) <;> simp
  · have := s3 h; split <;> (try omega) <;> split <;> (try omega) <;> split <;> (try omega) <;> simp
  · have := s1 h; split <;> (try omega) <;> split <;> (try omega) <;> simp

/-- A bound of the two walks. -/
def Bd (w : Nat) (l : List Int) (has : Bool) (bn bd : Int) : Prop :=
  match l.getLast? with
  | none => has = false
  | some y => has = true ∧ At y bn bd ∧ y.natAbs ≤ 1048576 * w ∧ ∃ m : Int, y = 2 ^ (20 - w) * m
structure Rl (i : Wk) (s : Sw) : Prop where
  at_ : At i.x s.an s.ad
  size : i.x.natAbs ≤ 1048576 * i.word.size
  div : ∃ m : Int, i.x = 2 ^ (20 - i.word.size) * m
  low : Bd i.word.size i.low s.hasL s.ln s.ld
  high : Bd i.word.size i.high s.hasH s.hn s.hd

theorem pow_half {w : Nat} (h : w < 20) : (2 : Int) ^ (20 - w) = 2 * 2 ^ (20 - (w + 1)) := by
  rw [show 20 - w = (20 - (w + 1)) + 1 by omega, Int.pow_succ, Int.mul_comm]
theorem Bd.next {w : Nat} {l : List Int} {has : Bool} {bn bd : Int} (h : Bd w l has bn bd) (hw : w < 20) : Bd (w + 1) l has bn bd := by
  unfold Bd at *
  split at h
  · exact h
  · obtain ⟨h1, h2, h3, m, h4⟩ := h
    refine ⟨h1, h2, by omega, 2 * m, ?_⟩
    rw [h4, pow_half hw]; ac_rfl

/-- The new place of a step. -/
theorem mid_step {w : Nat} (hw : w < 20) {x y a b c d : Int} (h1 : At x a b) (h2 : At y c d) (hx : x.natAbs ≤ 1048576 * w) (hy : y.natAbs ≤ 1048576 * w) (dx : ∃ m : Int, x = 2 ^ (20 - w) * m) (dy : ∃ m : Int, y = 2 ^ (20 - w) * m) :
    midOk a b c d ∧ At (w64 ((w64 (x + y)).tdiv 2)) (midN a b c d) (midD a b c d) ∧ (w64 ((w64 (x + y)).tdiv 2)).natAbs ≤ 1048576 * (w + 1) ∧ ∃ m : Int, w64 ((w64 (x + y)).tdiv 2) = 2 ^ (20 - (w + 1)) * m := by
  obtain ⟨m1, e1⟩ := dx
  obtain ⟨m2, e2⟩ := dy
  have e3 : x + y = 2 * (2 ^ (20 - (w + 1)) * (m1 + m2)) := by
    rw [e1, e2, pow_half hw, ← Int.mul_add]; ac_rfl
  generalize hz : (2 : Int) ^ (20 - (w + 1)) * (m1 + m2) = z at e3
  have ez : w64 ((w64 (x + y)).tdiv 2) = z := by
    rw [w64_small (x := x + y) (by omega), e3, Int.mul_tdiv_cancel_left z (by omega), w64_small (by omega)]
  rw [ez]
  obtain ⟨k1, k2⟩ := mid_at h1 h2 (by omega) (by omega) e3
  exact ⟨k1, k2, by omega, m1 + m2, hz.symm⟩
theorem mid_comm (a b c d : Int) : addN a b c d = addN c d a b := by unfold addN; congr 1; omega
theorem unit_step {w : Nat} (hw : w < 20) {x a b : Int} (h1 : At x a b) (hx : x.natAbs ≤ 1048576 * w) (dx : ∃ m : Int, x = 2 ^ (20 - w) * m) (u : Int) (hu : u = 1 ∨ u = -1) :
    addOk a b u 1 ∧ At (w64 (x + w64 (u * 1048576))) (sumN a b u 1) (sumD a b u 1) ∧ (w64 (x + w64 (u * 1048576))).natAbs ≤ 1048576 * (w + 1) ∧ ∃ m : Int, w64 (x + w64 (u * 1048576)) = 2 ^ (20 - (w + 1)) * m := by
  obtain ⟨m1, e1⟩ := dx
  have hat : At (u * 1048576) u 1 := by
    rcases hu with rfl | rfl
    · exact at_one
    · exact at_minus
  have ez : w64 (x + w64 (u * 1048576)) = x + u * 1048576 := by
    rw [w64_small (x := u * 1048576) (by omega), w64_small (by omega)]
  rw [ez]
  obtain ⟨k1, k2⟩ := sum_at h1 hat (by omega) (by omega)
  refine ⟨k1, k2, by omega, 2 * m1 + u * 2 ^ (w + 1), ?_⟩
  have hp : (2 : Int) ^ (20 - (w + 1)) * 2 ^ (w + 1) = 1048576 := by
    rw [← Int.pow_add, show 20 - (w + 1) + (w + 1) = 20 by omega]; rfl
  rw [Int.mul_add, e1, pow_half hw, ← hp]
  ac_rfl

theorem plus_rl {i : Wk} {s : Sw} (h : Rl i s) (hw : i.word.size < 20) : swOk s true ∧
    Rl ⟨i.nums ++ [i.x], i.word ++ plusB, i.low ++ [i.x], i.high, betw i.x 1 (i.low ++ [i.x]) i.high⟩ (swStep s true) := by
  obtain ⟨h1, h2, h3, h4, h5⟩ := h
  have hsz : (i.word ++ plusB).size = i.word.size + 1 := by simp [ByteArray.size_append, plusB]; rfl
  have hlow : Bd (i.word.size + 1) (i.low ++ [i.x]) true s.an s.ad := by
    have : Bd i.word.size (i.low ++ [i.x]) true s.an s.ad := by
      unfold Bd; simp only [List.getLast?_concat]
      exact ⟨trivial, h1, h2, h3⟩
    exact this.next hw
  have h6 := h5.next hw
  rw [betw_up (by omega)]
  unfold Bd at h5
  cases hl : i.high.getLast? with
  | none =>
    simp only [hl] at h5
    obtain ⟨k1, k2, k3, k4⟩ := unit_step hw h1 h2 h3 1 (.inl rfl)
    refine ⟨by simp only [swOk, h5]; exact k1, ?_⟩
    simp only [swStep, h5, Bool.false_eq_true, if_false]
    refine ⟨k2, by simp only [hsz]; exact k3, by simp only [hsz]; exact k4, by simp only [hsz]; exact hlow, by simp only [hsz]; rw [← h5]; exact h6⟩
  | some y =>
    simp only [hl] at h5
    obtain ⟨a1, a2, a3, a4⟩ := h5
    obtain ⟨k1, k2, k3, k4⟩ := mid_step hw h1 a2 h2 a3 h3 a4
    refine ⟨by simp only [swOk, a1, if_true]; exact k1, ?_⟩
    simp only [swStep, a1, if_true]
    refine ⟨k2, by simp only [hsz]; exact k3, by simp only [hsz]; exact k4, by simp only [hsz]; exact hlow, by simp only [hsz]; rw [← a1]; exact h6⟩

theorem minus_rl {i : Wk} {s : Sw} (h : Rl i s) (hw : i.word.size < 20) : swOk s false ∧
    Rl ⟨i.nums ++ [i.x], i.word ++ minusB, i.low, i.high ++ [i.x], betw i.x (-1) i.low (i.high ++ [i.x])⟩ (swStep s false) := by
  obtain ⟨h1, h2, h3, h4, h5⟩ := h
  have hsz : (i.word ++ minusB).size = i.word.size + 1 := by simp [ByteArray.size_append, minusB]; rfl
  have hhigh : Bd (i.word.size + 1) (i.high ++ [i.x]) true s.an s.ad := by
    have : Bd i.word.size (i.high ++ [i.x]) true s.an s.ad := by
      unfold Bd; simp only [List.getLast?_concat]
      exact ⟨trivial, h1, h2, h3⟩
    exact this.next hw
  have h6 := h4.next hw
  rw [betw_dn (by omega)]
  unfold Bd at h4
  cases hl : i.low.getLast? with
  | none =>
    simp only [hl] at h4
    obtain ⟨k1, k2, k3, k4⟩ := unit_step hw h1 h2 h3 (-1) (.inr rfl)
    refine ⟨by simp only [swOk, h4]; exact k1, ?_⟩
    simp only [swStep, h4, Bool.false_eq_true, if_false]
    refine ⟨k2, by simp only [hsz]; exact k3, by simp only [hsz]; exact k4, by simp only [hsz]; rw [← h4]; exact h6, by simp only [hsz]; exact hhigh⟩
  | some y =>
    simp only [hl] at h4
    obtain ⟨a1, a2, a3, a4⟩ := h4
    obtain ⟨k1, k2, k3, k4⟩ := mid_step hw a2 h1 a3 h2 a4 h3
    rw [Int.add_comm y i.x] at k2 k3 k4
    refine ⟨by simp only [swOk, a1, if_true]; exact k1, ?_⟩
    simp only [swStep, a1, if_true]
    refine ⟨k2, by simp only [hsz]; exact k3, by simp only [hsz]; exact k4, by simp only [hsz]; rw [← a1]; exact h6, by simp only [hsz]; exact hhigh⟩

theorem side_val (n d x : Int) : side n d x = 1 ∨ side n d x = 0 ∨ side n d x = -1 := by
  unfold side cmpI; split
  · simp
  · split <;> simp
theorem side_zero (n d x : Int) : (w64 (n * 1048576) == w64 (x * d)) = (side n d x == 0) := by
  unfold side cmpI
  rw [Bool.eq_iff_iff]; simp only [beq_iff_eq]
  split
  · constructor <;> intro h <;> omega
  · split
    · constructor <;> intro h <;> omega
    · constructor <;> intro h <;> omega

theorem walks_same {n d : Int} (hg : goodB n d = true) : ∀ (k : Nat) (i : Wk) (s : Sw), Rl i s → i.word.size + k = 21 → 0 < k →
    swGood n d k s i.word ∧ swRun n d k s i.word = (if (w64 (n * 1048576) == w64 ((wkRun (side n d) k i).nums.getLastD 0 * d)) then (wkRun (side n d) k i).word else ⟨#[]⟩, (w64 (n * 1048576) == w64 ((wkRun (side n d) k i).nums.getLastD 0 * d)))
  | 0, i, s, _, _, h => by omega
  | k + 1, i, s, hr, hk, _ => by
    have hgr := good_range hg
    have hc : swCmp n d s = - side n d i.x := cmp_at hr.at_ (by have := hr.size; omega) (by omega) (by omega) (by omega)
    by_cases hz : side n d i.x = 0
    · have e1 : wkRun (side n d) (k + 1) i = { i with nums := i.nums ++ [i.x] } := by simp [wkRun, hz]
      have e2 : (w64 (n * 1048576) == w64 (i.x * d)) = true := by rw [side_zero]; simp [hz]
      refine ⟨.inl (by omega), ?_⟩
      simp [swRun, hc, hz, e1, e2]
    · by_cases h20 : i.word.size = 20
      · have e1 : wkRun (side n d) (k + 1) i = { i with nums := i.nums ++ [i.x] } := by simp [wkRun, h20]
        have e2 : (w64 (n * 1048576) == w64 (i.x * d)) = false := by rw [side_zero]; simp [hz]
        refine ⟨.inr (.inl h20), ?_⟩
        simp [swRun, hc, hz, h20, e1, e2]
      · rcases side_val n d i.x with h | h | h
        · obtain ⟨o1, o2⟩ := plus_rl hr (by omega)
          have hsz : (i.word ++ plusB).size = i.word.size + 1 := by simp [ByteArray.size_append, plusB]; rfl
          obtain ⟨r1, r2⟩ := walks_same hg k _ _ o2 (by simp only [hsz]; omega) (by omega)
          have e1 : wkRun (side n d) (k + 1) i = wkRun (side n d) k ⟨i.nums ++ [i.x], i.word ++ plusB, i.low ++ [i.x], i.high, betw i.x 1 (i.low ++ [i.x]) i.high⟩ := by
            simp [wkRun, h, h20]
          rw [e1]
          refine ⟨.inr (.inr (.inl ⟨by omega, o1, r1⟩)), ?_⟩
          rw [← r2]
          simp only [swRun]
          rw [if_neg (by omega), if_neg h20, if_pos (by omega)]
        · exact absurd h hz
        · obtain ⟨o1, o2⟩ := minus_rl hr (by omega)
          have hsz : (i.word ++ minusB).size = i.word.size + 1 := by simp [ByteArray.size_append, minusB]; rfl
          obtain ⟨r1, r2⟩ := walks_same hg k _ _ o2 (by simp only [hsz]; omega) (by omega)
          have e1 : wkRun (side n d) (k + 1) i = wkRun (side n d) k ⟨i.nums ++ [i.x], i.word ++ minusB, i.low, i.high ++ [i.x], betw i.x (-1) i.low (i.high ++ [i.x])⟩ := by
            simp [wkRun, h, h20]
          rw [e1]
          refine ⟨.inr (.inr (.inr ⟨by omega, o1, r1⟩)), ?_⟩
          rw [← r2]
          simp only [swRun]
          rw [if_neg (by omega), if_neg h20, if_neg (by omega)]

end Go.Proofs.Ytllcljajlemmaaa
/-
  Short numbers: the laws of IsShort, WordOf and DayOf, from the plain law of the two walks.
-/
namespace Go.Proofs.Ytllcljajlemmaaa
open Go K
set_option linter.unusedSimpArgs false
set_option linter.unusedVariables false
set_option maxRecDepth 8000
set_option maxHeartbeats 400000

/-- The plain law: both walks end alike, and the reference's stays small. -/
def WalksAgree : Prop := ∀ n d, goodB n d = true → swGood n d 21 sw0 ⟨#[]⟩ ∧ swRun n d 21 sw0 ⟨#[]⟩ = (if shortB n d then (gWk n d).word else ⟨#[]⟩, shortB n d)

theorem specWordOf_ok (H : WalksAgree) (n d : Int) : Ct Try.prog 68 [fr n d] [] (.tup [.str (if shortB n d then (gWk n d).word else ⟨#[]⟩), .bool (shortB n d)]) [] := by
  refine Ct.by_ hmix [] Try.func68 rfl ?_
  simp only [run0, run1, run2, run3, run4, run5, run6, run7, run8, run9, run10, run11, run12, run13, run14, run15, run16, run17, run18, run19, run20, run21, run22, reduceCtorEq, Nat.reduceEqDiff, Nat.reduceAdd, Nat.reduceSub, Nat.reduceLeDiff, indexAddrA, indexRefA, appendA, strA, Nat.reduceMul, Nat.zero_mul, Nat.reduceMod, Int.reduceEq, Int.reduceLT, Int.reduceLE, Nat.reduceLT, Nat.lt_irrefl, Nat.reduceBEq, tys0, tys1, tys2, tys3, tys4, tys5, tys6, tys7, tys8, tys9, tys10, tys11, tys12, tys13, tys14, tys15, tys16, tys17, tys18, tys19, tys20, tys21, tys22, tys23, Try.ntmps68, Try.results68, fr]
  refine RunL.callp rfl rfl ok_f116 (shGood_ok _ _) (by first | rfl | simp only [pureL, pureB, Bool.and_self, Bool.and_true, Bool.true_and]) rfl ?_
  simp only [run0, run1, run2, run3, run4, run5, run6, run7, run8, run9, run10, run11, run12, run13, run14, run15, run16, run17, run18, run19, run20, run21, run22, reduceCtorEq, Nat.reduceEqDiff, Nat.reduceAdd, Nat.reduceSub, Nat.reduceLeDiff, indexAddrA, indexRefA, appendA, strA, Nat.reduceMul, Nat.zero_mul, Nat.reduceMod, Int.reduceEq, Int.reduceLT, Int.reduceLE, Nat.reduceLT, Nat.lt_irrefl, Nat.reduceBEq, tys0, tys1, tys2, tys3, tys4, tys5, tys6, tys7, tys8, tys9, tys10, tys11, tys12, tys13, tys14, tys15, tys16, tys17, tys18, tys19, tys20, tys21, tys22, tys23, Try.ntmps68, Try.results68, fr]
  refine Wc.split (fun hg => ?_) (fun hg => ?_) <;> simp only [run0, run1, run2, run3, run4, run5, run6, run7, run8, run9, run10, run11, run12, run13, run14, run15, run16, run17, run18, run19, run20, run21, run22, reduceCtorEq, Nat.reduceEqDiff, Nat.reduceAdd, Nat.reduceSub, Nat.reduceLeDiff, indexAddrA, indexRefA, appendA, strA, Nat.reduceMul, Nat.zero_mul, Nat.reduceMod, Int.reduceEq, Int.reduceLT, Int.reduceLE, Nat.reduceLT, Nat.lt_irrefl, Nat.reduceBEq, tys0, tys1, tys2, tys3, tys4, tys5, tys6, tys7, tys8, tys9, tys10, tys11, tys12, tys13, tys14, tys15, tys16, tys17, tys18, tys19, tys20, tys21, tys22, tys23, Try.ntmps68, Try.results68, hg]
  · exact Fin.eq (by simp at hg; simp [hg, shortB]) rfl
  · have hg' : goodB n d = true := by simpa using hg
    obtain ⟨h1, h2⟩ := H n d hg'
    have hw := shWord_ok n d h1
    rw [h2] at hw
    refine RunL.callp rfl rfl ok_f117 (hw) (by first | rfl | simp only [pureL, pureB, Bool.and_self, Bool.and_true, Bool.true_and]) rfl ?_
    simp only [run0, run1, run2, run3, run4, run5, run6, run7, run8, run9, run10, run11, run12, run13, run14, run15, run16, run17, run18, run19, run20, run21, run22, reduceCtorEq, Nat.reduceEqDiff, Nat.reduceAdd, Nat.reduceSub, Nat.reduceLeDiff, indexAddrA, indexRefA, appendA, strA, Nat.reduceMul, Nat.zero_mul, Nat.reduceMod, Int.reduceEq, Int.reduceLT, Int.reduceLE, Nat.reduceLT, Nat.lt_irrefl, Nat.reduceBEq, tys0, tys1, tys2, tys3, tys4, tys5, tys6, tys7, tys8, tys9, tys10, tys11, tys12, tys13, tys14, tys15, tys16, tys17, tys18, tys19, tys20, tys21, tys22, tys23, Try.ntmps68, Try.results68, fr]
    exact Fin.eq rfl rfl

theorem walks_agree : WalksAgree := fun n d hg => by
  have h0 : Rl wk0 sw0 := ⟨at_zero, by decide, ⟨0, rfl⟩, rfl, rfl⟩
  obtain ⟨h1, h2⟩ := walks_same hg 21 wk0 sw0 h0 rfl (by omega)
  refine ⟨h1, ?_⟩
  have e : shortB n d = (w64 (n * 1048576) == w64 ((wkRun (side n d) 21 wk0).nums.getLastD 0 * d)) := by simp [shortB, hg, wkOf]
  have e2 : (gWk n d).word = (wkRun (side n d) 21 wk0).word := by simp [gWk, hg, wkOf]
  rw [e, e2]; exact h2

end Go.Proofs.Ytllcljajlemmaaa
/-
  Short numbers: the number to which a word leads.
-/
namespace Go.Proofs.Ytllcljajlemmaaa
open Go K
set_option linter.unusedSimpArgs false
set_option linter.unusedVariables false
set_option maxRecDepth 8000
set_option maxHeartbeats 400000

theorem index_str {s : ByteArray} {k : Nat} (h : k < s.size) : indexA Try.prog 9 (.str s) (.int .i64 k) = some (.int .u8 (s.data.getD k 0).toNat) := by
  have h2 : s[k]? = some (s[k]'h) := getElem?_pos s k h
  have h3 : s[k]'h = s.data.getD k 0 := by
    show s.data[k]'h = _
    have h' : k < s.data.size := h
    rw [Array.getD, dif_pos h']; rfl
  simp only [indexA, Try.underlying9, Int.natCast_nonneg, if_true, Int.toNat_natCast, h2, Option.map_some, h3]

/-- Where a word tells to go, at its letter 'k'. -/
def ofF (s : ByteArray) (k : Nat) : Int := if k = s.size then 0 else if s.data.getD k 0 = 43 then 1 else -1
def ofK (s : ByteArray) (k : Nat) : Nat := if k = s.size then k else k + 1
end Go.Proofs.Ytllcljajlemmaaa
/-
  Short numbers: the walk along a given word.
-/
namespace Go.Proofs.Ytllcljajlemmaaa
open Go K
set_option linter.unusedSimpArgs false
set_option linter.unusedVariables false
set_option maxRecDepth 8000
set_option maxHeartbeats 400000

def ofRun (s : ByteArray) : Nat → Wk → Wk
  | 0, i => i
  | k + 1, i =>
    if ofF s i.word.size = 0 ∨ i.word.size = 20 then { i with nums := i.nums ++ [i.x] }
    else if 0 < ofF s i.word.size then ofRun s k ⟨i.nums ++ [i.x], i.word ++ plusB, i.low ++ [i.x], i.high, betw i.x (ofF s i.word.size) (i.low ++ [i.x]) i.high⟩
    else ofRun s k ⟨i.nums ++ [i.x], i.word ++ minusB, i.low, i.high ++ [i.x], betw i.x (ofF s i.word.size) i.low (i.high ++ [i.x])⟩
def ofR (i : Wk) : AV := .tup [.ref 2 [] i.nums.length i.nums.length, .str i.word, .ref 3 [] i.low.length i.low.length, .ref 4 [] i.high.length i.high.length]
def ofL (s : ByteArray) (i : Wk) : List AObj := [.box 9 [.str s], .box 3 [.int .i64 (ofK s i.word.size)], .vec 3 1 i.nums.length (ints i.nums), .vec 3 1 i.low.length (ints i.low), .vec 3 1 i.high.length (ints i.high)]

end Go.Proofs.Ytllcljajlemmaaa
/-
  Short numbers: the number to which a word leads.
-/
namespace Go.Proofs.Ytllcljajlemmaaa
open Go K
set_option linter.unusedSimpArgs false
set_option linter.unusedVariables false
set_option maxRecDepth 8000
set_option maxHeartbeats 400000

/-- So many parts of the unit, as a fraction. -/
def frN (x : Int) : Int := if mkOk x 1048576 then mkN x 1048576 else 0
def frD (x : Int) : Int := if mkOk x 1048576 then mkD x 1048576 else 0
theorem fromUnits_ok (x : Int) (h : x.natAbs ≤ 50000000) : Ct Try.prog 133 [.int .i64 x] [] (fr (frN x) (frD x)) [] := by
  refine Ct.by_ hmix [] Try.func133 rfl ?_
  simp only [run0, run1, run2, run3, run4, run5, run6, run7, run8, run9, run10, run11, run12, run13, run14, run15, run16, run17, run18, run19, run20, run21, run22, reduceCtorEq, Nat.reduceEqDiff, Nat.reduceAdd, Nat.reduceSub, Nat.reduceLeDiff, indexAddrA, indexRefA, appendA, strA, Nat.reduceMul, Nat.zero_mul, Nat.reduceMod, Int.reduceEq, Int.reduceLT, Int.reduceLE, Nat.reduceLT, Nat.lt_irrefl, Nat.reduceBEq, tys0, tys1, tys2, tys3, tys4, tys5, tys6, tys7, tys8, tys9, tys10, tys11, tys12, tys13, tys14, tys15, tys16, tys17, tys18, tys19, tys20, tys21, tys22, tys23, Try.ntmps133, Try.results133]
  refine RunL.callp rfl rfl ok_f156 (made_ok x 1048576 ⟨by omega, by omega⟩) (by first | rfl | simp only [pureL, pureB, Bool.and_self, Bool.and_true, Bool.true_and]) rfl ?_
  simp only [run0, run1, run2, run3, run4, run5, run6, run7, run8, run9, run10, run11, run12, run13, run14, run15, run16, run17, run18, run19, run20, run21, run22, reduceCtorEq, Nat.reduceEqDiff, Nat.reduceAdd, Nat.reduceSub, Nat.reduceLeDiff, indexAddrA, indexRefA, appendA, strA, Nat.reduceMul, Nat.zero_mul, Nat.reduceMod, Int.reduceEq, Int.reduceLT, Int.reduceLE, Nat.reduceLT, Nat.lt_irrefl, Nat.reduceBEq, tys0, tys1, tys2, tys3, tys4, tys5, tys6, tys7, tys8, tys9, tys10, tys11, tys12, tys13, tys14, tys15, tys16, tys17, tys18, tys19, tys20, tys21, tys22, tys23, Try.ntmps133, Try.results133, fr]
  exact Fin.eq (by simp [fr, frN, frD]) rfl

end Go.Proofs.Ytllcljajlemmaaa
/-
  Short numbers: the reference's number of a word.
-/
namespace Go.Proofs.Ytllcljajlemmaaa
open Go K
set_option linter.unusedSimpArgs false
set_option linter.unusedVariables false
set_option maxRecDepth 8000
set_option maxHeartbeats 400000

def isPlus (s : ByteArray) (k : Nat) : Bool := s.data.getD k 0 == 43
def swAt (s : ByteArray) : Nat → Sw
  | 0 => sw0
  | k + 1 => swStep (swAt s k) (isPlus s k)
def vlSt (s : ByteArray) (k : Nat) : St :=
  ⟨[.str s, .junk, .ptr 0 0, .ptr 1 0, .int .i64 k, .junk, .junk, .junk, .junk, .junk, .junk, .junk, .junk, .junk, .junk, .junk, .junk, .junk, .junk, .junk],
   [.box 42 [.int .i64 0, .int .i64 0], .box 144 [.int .i64 (swAt s k).an, .int .i64 (swAt s k).ad, .int .i64 (swAt s k).ln, .int .i64 (swAt s k).ld, .int .i64 (swAt s k).hn, .int .i64 (swAt s k).hd, .bool (swAt s k).hasL, .bool (swAt s k).hasH]]⟩

theorem shValue_ok (s : ByteArray) (hs : s.size ≤ 1000) (hok : ∀ k, k < s.size → swOk (swAt s k) (isPlus s k)) : Ct Try.prog 118 [.str s] [] (fr (swAt s s.size).an (swAt s s.size).ad) [] := by
  refine Ct.by_ hmix [] Try.func118 rfl ?_
  simp only [run0, run1, run2, run3, run4, run5, run6, run7, run8, run9, run10, run11, run12, run13, run14, run15, run16, run17, run18, run19, run20, run21, run22, reduceCtorEq, Nat.reduceEqDiff, Nat.reduceAdd, Nat.reduceSub, Nat.reduceLeDiff, indexAddrA, indexRefA, appendA, strA, Nat.reduceMul, Nat.zero_mul, Nat.reduceMod, Int.reduceEq, Int.reduceLT, Int.reduceLE, Nat.reduceLT, Nat.lt_irrefl, Nat.reduceBEq, tys0, tys1, tys2, tys3, tys4, tys5, tys6, tys7, tys8, tys9, tys10, tys11, tys12, tys13, tys14, tys15, tys16, tys17, tys18, tys19, tys20, tys21, tys22, tys23, Try.ntmps118, Try.results118, fr]
  refine RunL.callp rfl rfl ok_f123 (shStart_ok) (by first | rfl | simp only [pureL, pureB, Bool.and_self, Bool.and_true, Bool.true_and]) rfl ?_
  simp only [run0, run1, run2, run3, run4, run5, run6, run7, run8, run9, run10, run11, run12, run13, run14, run15, run16, run17, run18, run19, run20, run21, run22, reduceCtorEq, Nat.reduceEqDiff, Nat.reduceAdd, Nat.reduceSub, Nat.reduceLeDiff, indexAddrA, indexRefA, appendA, strA, Nat.reduceMul, Nat.zero_mul, Nat.reduceMod, Int.reduceEq, Int.reduceLT, Int.reduceLE, Nat.reduceLT, Nat.lt_irrefl, Nat.reduceBEq, tys0, tys1, tys2, tys3, tys4, tys5, tys6, tys7, tys8, tys9, tys10, tys11, tys12, tys13, tys14, tys15, tys16, tys17, tys18, tys19, tys20, tys21, tys22, tys23, Try.ntmps118, Try.results118, fr, swV]
  refine AWp.loop_inv (vlSt s) (fun k => k ≤ s.size) (fun k => s.size - k) 0 (Nat.zero_le _) ⟨?_, rfl⟩ ?_
  · simp only [vlSt]
    repeat constructor
  intro k hk
  simp only [vlSt]
  refine W.sound hmix (E := []) ?_
  by_cases h : k < s.size
  · have e0 : (k : Int) < (s.size : Int) := by omega
    have e1 := index_str h
    have e2 : (((s.data.getD k 0).toNat : Int) == 43) = isPlus s k := by
      unfold isPlus
      rw [Bool.eq_iff_iff]; simp only [beq_iff_eq]
      constructor
      · intro he; exact UInt8.toNat_inj.1 (by simpa using (show (s.data.getD k 0).toNat = 43 by omega))
      · intro he; rw [he]; rfl
    have e3 : IntKind.i64.wrap ((k : Int) + 1) = (k : Int) + 1 := w64_small (by omega)
    simp only [run0, run1, run2, run3, run4, run5, run6, run7, run8, run9, run10, run11, run12, run13, run14, run15, run16, run17, run18, run19, run20, run21, run22, reduceCtorEq, Nat.reduceEqDiff, Nat.reduceAdd, Nat.reduceSub, Nat.reduceLeDiff, indexAddrA, indexRefA, appendA, strA, Nat.reduceMul, Nat.zero_mul, Nat.reduceMod, Int.reduceEq, Int.reduceLT, Int.reduceLE, Nat.reduceLT, Nat.lt_irrefl, Nat.reduceBEq, tys0, tys1, tys2, tys3, tys4, tys5, tys6, tys7, tys8, tys9, tys10, tys11, tys12, tys13, tys14, tys15, tys16, tys17, tys18, tys19, tys20, tys21, tys22, tys23, Try.ntmps118, Try.results118, e0, e1, e2, e3]
    refine ⟨by kernel_rfl, ?_⟩
    refine RunL.callp rfl rfl ok_f127 (step_ok (swAt s k) _ (hok k h)) (by first | rfl | simp only [pureL, pureB, Bool.and_self, Bool.and_true, Bool.true_and]) rfl ?_
    simp only [run0, run1, run2, run3, run4, run5, run6, run7, run8, run9, run10, run11, run12, run13, run14, run15, run16, run17, run18, run19, run20, run21, run22, reduceCtorEq, Nat.reduceEqDiff, Nat.reduceAdd, Nat.reduceSub, Nat.reduceLeDiff, indexAddrA, indexRefA, appendA, strA, Nat.reduceMul, Nat.zero_mul, Nat.reduceMod, Int.reduceEq, Int.reduceLT, Int.reduceLE, Nat.reduceLT, Nat.lt_irrefl, Nat.reduceBEq, tys0, tys1, tys2, tys3, tys4, tys5, tys6, tys7, tys8, tys9, tys10, tys11, tys12, tys13, tys14, tys15, tys16, tys17, tys18, tys19, tys20, tys21, tys22, tys23, Try.ntmps118, Try.results118, swV, e3]
    refine ⟨k + 1, by omega, by omega, ?_, rfl⟩
    rw [show ((k + 1 : Nat) : Int) = (k : Int) + 1 by omega]
    repeat constructor
  · have e0 : ¬ (k : Int) < (s.size : Int) := by omega
    obtain rfl : k = s.size := by omega
    simp only [run0, run1, run2, run3, run4, run5, run6, run7, run8, run9, run10, run11, run12, run13, run14, run15, run16, run17, run18, run19, run20, run21, run22, reduceCtorEq, Nat.reduceEqDiff, Nat.reduceAdd, Nat.reduceSub, Nat.reduceLeDiff, indexAddrA, indexRefA, appendA, strA, Nat.reduceMul, Nat.zero_mul, Nat.reduceMod, Int.reduceEq, Int.reduceLT, Int.reduceLE, Nat.reduceLT, Nat.lt_irrefl, Nat.reduceBEq, tys0, tys1, tys2, tys3, tys4, tys5, tys6, tys7, tys8, tys9, tys10, tys11, tys12, tys13, tys14, tys15, tys16, tys17, tys18, tys19, tys20, tys21, tys22, tys23, Try.ntmps118, Try.results118, e0]
    exact Fin.eq rfl rfl

end Go.Proofs.Ytllcljajlemmaaa
/-
  Short numbers: the numbers on the way of a word. No program in sight.
-/
namespace Go.Proofs.Ytllcljajlemmaaa
open Go K
set_option linter.unusedSimpArgs false
set_option linter.unusedVariables false
set_option maxRecDepth 8000
set_option maxHeartbeats 400000

theorem mkOk_of {n d : Int} (hd : 0 < d) (hs : small n d) (hn : (mkN n d).natAbs ≤ 1000000) (hq : mkD n d ≤ 1000000) : mkOk n d = true := by
  obtain ⟨g, _, _, _, h0, h1, _, _⟩ := mk_spec hd hs
  have hg := gcdI_gcd (n := mkN n d) (d := mkD n d) (by omega) (by omega) (by omega)
  unfold mkOk goodB
  simp only [Bool.and_eq_true, inB_iff, beq_iff_eq]
  refine ⟨⟨⟨by omega, by omega⟩, by omega, by omega⟩, ?_⟩
  rw [hg, h1]; rfl
theorem mk_self {n d : Int} (hg : goodB n d = true) : mkN n d = n ∧ mkD n d = d := by
  have hr := good_range hg
  have h1 : gcdI n d = 1 := by
    simp only [goodB, Bool.and_eq_true, beq_iff_eq] at hg; exact hg.2
  unfold mkN mkD mkG
  rw [if_neg (by omega), h1, Int.tdiv_one, Int.tdiv_one]
  exact ⟨w64_small (by omega), w64_small (by omega)⟩

/-- A multiple of a part of the unit, not far out. -/
def Mh (j h : Nat) (x : Int) : Prop := (∃ m : Int, x = 2 ^ (20 - h) * m) ∧ x.natAbs ≤ 1048576 * j
theorem Mh.up {j h : Nat} {x : Int} (k : Mh j h x) : Mh (j + 1) h x := ⟨k.1, by have := k.2; omega⟩
theorem Mh.half {j h : Nat} {x : Int} (k : Mh j h x) (hh : h < 20) : Mh j (h + 1) x := by
  obtain ⟨⟨m, e⟩, b⟩ := k
  exact ⟨⟨2 * m, by rw [e, pow_half hh]; ac_rfl⟩, b⟩
theorem pw_num : ∀ h : Nat, h < 20 → 2 ^ h * (19 - h) ≤ 1000000 := by decide
theorem pw_den : ∀ h : Nat, h < 20 → 2 ^ h ≤ 1000000 := by decide
theorem pw_pos (h : Nat) : (0 : Int) < 2 ^ h := Int.pow_pos (by omega)
theorem Mh.ok {j h : Nat} {x : Int} (k : Mh j h x) (hw : j + h ≤ 19) : mkOk x 1048576 = true := by
  obtain ⟨⟨m, e⟩, b⟩ := k
  have hp : (2 : Int) ^ (20 - h) * 2 ^ h = 1048576 := by
    rw [← Int.pow_add, show 20 - h + h = 20 by omega]; rfl
  have n1 := pw_num h (by omega)
  have n2 := pw_den h (by omega)
  have p1 := pw_pos (20 - h)
  have p2 := pw_pos h
  have hpn : ((2 : Int) ^ h) = ((2 ^ h : Nat) : Int) := by simp
  have hm : m.natAbs ≤ 2 ^ h * j := by
    have h1 : x.natAbs = (2 ^ (20 - h) : Int).natAbs * m.natAbs := by rw [e, Int.natAbs_mul]
    have h2 : (1048576 : Nat) = (2 ^ (20 - h) : Int).natAbs * 2 ^ h := by
      have := congrArg Int.natAbs hp
      rw [Int.natAbs_mul] at this
      rw [show ((2 : Int) ^ h).natAbs = 2 ^ h by rw [hpn]; rfl] at this
      exact this.symm
    rw [h1, h2, Nat.mul_assoc] at b
    exact Nat.le_of_mul_le_mul_left b (by omega)
  have hj : 2 ^ h * j ≤ 2 ^ h * (19 - h) := Nat.mul_le_mul_left _ (by omega)
  have hsm : small m (2 ^ h) := ⟨by omega, by rw [hpn]; omega⟩
  have hx : x.natAbs ≤ 100000000 := by omega
  obtain ⟨r1, r2⟩ := mk_ratio (n1 := x) (d1 := 1048576) (n2 := m) (d2 := 2 ^ h) (by omega) p2 ⟨by omega, by omega⟩ hsm (by rw [e, ← hp]; ac_rfl)
  obtain ⟨_, _, _, _, _, _, k1, k2⟩ := mk_spec p2 hsm
  refine mkOk_of (by omega) ⟨by omega, by omega⟩ (by rw [r1]; omega) (by rw [r2]; rw [hpn] at k2 ⊢; omega)

def stepP (i : Wk) : Wk := ⟨i.nums ++ [i.x], i.word ++ plusB, i.low ++ [i.x], i.high, betw i.x 1 (i.low ++ [i.x]) i.high⟩
def stepM (i : Wk) : Wk := ⟨i.nums ++ [i.x], i.word ++ minusB, i.low, i.high ++ [i.x], betw i.x (-1) i.low (i.high ++ [i.x])⟩
theorem size_plus (b : ByteArray) : (b ++ plusB).size = b.size + 1 := by simp [ByteArray.size_append, plusB]; rfl
theorem size_minus (b : ByteArray) : (b ++ minusB).size = b.size + 1 := by simp [ByteArray.size_append, minusB]; rfl

/-- What holds on the way: halvings begin only between two bounds. -/
def Wi (i : Wk) : Prop := ∃ j h : Nat, j + h ≤ i.word.size ∧ Mh j h i.x ∧ (∀ y, i.low.getLast? = some y → Mh j h y) ∧ (∀ y, i.high.getLast? = some y → Mh j h y) ∧ (h = 0 ∨ (i.low ≠ [] ∧ i.high ≠ []))
theorem wi0 : Wi wk0 := ⟨0, 0, Nat.le_refl _, ⟨⟨0, rfl⟩, Nat.le_refl _⟩, fun y h => by simp [wk0] at h, fun y h => by simp [wk0] at h, .inl rfl⟩
theorem Mh.mid {j h : Nat} {x y : Int} (k : Mh j h x) (l : Mh j h y) (hh : h < 20) (hj : j ≤ 20) : Mh j (h + 1) (w64 ((w64 (x + y)).tdiv 2)) := by
  obtain ⟨⟨m1, e1⟩, b1⟩ := k
  obtain ⟨⟨m2, e2⟩, b2⟩ := l
  have e3 : x + y = 2 * (2 ^ (20 - (h + 1)) * (m1 + m2)) := by
    rw [e1, e2, pow_half hh, ← Int.mul_add]; ac_rfl
  generalize hz : (2 : Int) ^ (20 - (h + 1)) * (m1 + m2) = z at e3
  have ez : w64 ((w64 (x + y)).tdiv 2) = z := by
    rw [w64_small (x := x + y) (by omega), e3, Int.mul_tdiv_cancel_left z (by omega), w64_small (by omega)]
  rw [ez]
  exact ⟨⟨m1 + m2, hz.symm⟩, by omega⟩
theorem Mh.unit {j : Nat} {x u : Int} (k : Mh j 0 x) (hj : j ≤ 20) (hu : u = 1 ∨ u = -1) : Mh (j + 1) 0 (w64 (x + w64 (u * 1048576))) := by
  obtain ⟨⟨m, e⟩, b⟩ := k
  have ez : w64 (x + w64 (u * 1048576)) = x + u * 1048576 := by
    rw [w64_small (x := u * 1048576) (by omega), w64_small (by omega)]
  rw [ez]
  refine ⟨⟨m + u, ?_⟩, by omega⟩
  rw [Int.mul_add, e, show (2 : Int) ^ (20 - 0) = 1048576 from rfl, Int.mul_comm u]
theorem Wi.plus {i : Wk} (k : Wi i) (hw : i.word.size < 20) : Wi (stepP i) := by
  obtain ⟨j, h, h1, h2, h3, h4, h5⟩ := k
  have hb : ∀ s, betw i.x 1 s i.high = (match i.high.getLast? with | none => w64 (i.x + w64 (1 * 1048576)) | some y => w64 ((w64 (i.x + y)).tdiv 2)) := fun s => betw_up (by omega)
  unfold Wi stepP
  simp only [size_plus, hb, List.getLast?_concat]
  cases hl : i.high.getLast? with
  | none =>
    have hn : i.high = [] := List.getLast?_eq_none_iff.1 hl
    have h0 : h = 0 := by rcases h5 with h5 | h5; exact h5; exact absurd hn h5.2
    subst h0
    exact ⟨j + 1, 0, by omega, h2.unit (by omega) (.inl rfl), fun y e => by cases e; exact h2.up, fun y e => by simp at e, .inl rfl⟩
  | some y =>
    have h6 := h4 y hl
    refine ⟨j, h + 1, by omega, h2.mid h6 (by omega) (by omega), fun z e => by cases e; exact h2.half (by omega), fun z e => by cases e; exact h6.half (by omega), .inr ⟨by simp, fun e => by rw [e] at hl; simp at hl⟩⟩
theorem Wi.minus {i : Wk} (k : Wi i) (hw : i.word.size < 20) : Wi (stepM i) := by
  obtain ⟨j, h, h1, h2, h3, h4, h5⟩ := k
  have hb : ∀ s, betw i.x (-1) i.low s = (match i.low.getLast? with | none => w64 (i.x + w64 (-1 * 1048576)) | some y => w64 ((w64 (i.x + y)).tdiv 2)) := fun s => betw_dn (by omega)
  unfold Wi stepM
  simp only [size_minus, hb, List.getLast?_concat]
  cases hl : i.low.getLast? with
  | none =>
    have hn : i.low = [] := List.getLast?_eq_none_iff.1 hl
    have h0 : h = 0 := by rcases h5 with h5 | h5; exact h5; exact absurd hn h5.1
    subst h0
    exact ⟨j + 1, 0, by omega, h2.unit (by omega) (.inr rfl), fun y e => by simp at e, fun y e => by cases e; exact h2.up, .inl rfl⟩
  | some y =>
    have h6 := h3 y hl
    refine ⟨j, h + 1, by omega, h2.mid h6 (by omega) (by omega), fun z e => by cases e; exact h6.half (by omega), fun z e => by cases e; exact h2.half (by omega), .inr ⟨fun e => by rw [e] at hl; simp at hl, by simp⟩⟩

/-- The walk after so many letters of a word. -/
def atWk (s : ByteArray) : Nat → Wk
  | 0 => wk0
  | k + 1 => if isPlus s k then stepP (atWk s k) else stepM (atWk s k)
theorem atWk_size (s : ByteArray) : ∀ k, (atWk s k).word.size = k
  | 0 => rfl
  | k + 1 => by
    unfold atWk; split
    · simp only [stepP, size_plus, atWk_size s k]
    · simp only [stepM, size_minus, atWk_size s k]
theorem atWk_len (s : ByteArray) : ∀ k, (atWk s k).nums.length = k
  | 0 => rfl
  | k + 1 => by
    unfold atWk; split
    · simp [stepP, atWk_len s k]
    · simp [stepM, atWk_len s k]
theorem atWk_wi (s : ByteArray) : ∀ k, k ≤ 20 → Wi (atWk s k)
  | 0, _ => wi0
  | k + 1, h => by
    have := atWk_wi s k (by omega)
    have hz := atWk_size s k
    unfold atWk; split
    · exact this.plus (by omega)
    · exact this.minus (by omega)
theorem atWk_rl (s : ByteArray) : ∀ k, k ≤ 20 → Rl (atWk s k) (swAt s k)
  | 0, _ => ⟨at_zero, Nat.le_refl _, ⟨0, rfl⟩, rfl, rfl⟩
  | k + 1, h => by
    have := atWk_rl s k (by omega)
    have hz := atWk_size s k
    unfold atWk swAt
    cases isPlus s k
    · exact (minus_rl this (by omega)).2
    · exact (plus_rl this (by omega)).2
theorem swAt_ok (s : ByteArray) (k : Nat) (h : k < 20) : swOk (swAt s k) (isPlus s k) := by
  have := atWk_rl s k (by omega)
  have hz := atWk_size s k
  cases isPlus s k
  · exact (minus_rl this (by omega)).1
  · exact (plus_rl this (by omega)).1
theorem atWk_small (s : ByteArray) (k : Nat) (h : k ≤ 20) : (atWk s k).x.natAbs ≤ 50000000 := by
  have := (atWk_rl s k h).size
  have hz := atWk_size s k
  omega
/-- With fewer letters than 20 each number is a right fraction. -/
theorem atWk_ok (s : ByteArray) (k : Nat) (h : k ≤ 19) : mkOk (atWk s k).x 1048576 = true := by
  obtain ⟨j, h', h1, h2, _⟩ := atWk_wi s k (by omega)
  have hz := atWk_size s k
  exact h2.ok (by omega)
theorem swAt_fr (s : ByteArray) (k : Nat) (h : k ≤ 20) (hm : mkOk (atWk s k).x 1048576 = true) : (swAt s k).an = frN (atWk s k).x ∧ (swAt s k).ad = frD (atWk s k).x := by
  have := (atWk_rl s k h).at_
  unfold frN frD
  rw [if_pos hm, if_pos hm]
  exact this

/-- The program's walk along a word. -/
theorem ofRun_at (s : ByteArray) (hs : s.size ≤ 20) : ∀ (m k : Nat), k ≤ s.size → s.size - k < m → ofRun s m (atWk s k) = { atWk s s.size with nums := (atWk s s.size).nums ++ [(atWk s s.size).x] }
  | 0, k, _, h => by omega
  | m + 1, k, hk, h => by
    have hz := atWk_size s k
    unfold ofRun
    rw [hz]
    by_cases he : k = s.size
    · have : ofF s k = 0 := by simp [ofF, he]
      rw [if_pos (.inl this), he]
    · have ih := ofRun_at s hs m (k + 1) (by omega) (by omega)
      rw [← ih]
      by_cases hp : s.data.getD k 0 = 43
      · have e1 : ofF s k = 1 := by simp only [ofF, he, hp, if_false, if_true]
        have e2 : isPlus s k = true := by simp [isPlus, hp]
        rw [e1, if_neg (by omega), if_pos (by omega)]
        simp only [atWk, e2, if_true]; rfl
      · have e1 : ofF s k = -1 := by simp only [ofF, he, hp, if_false]
        have e2 : isPlus s k = false := by simpa [isPlus] using hp
        rw [e1, if_neg (by omega), if_neg (by omega)]
        simp only [atWk, e2, Bool.false_eq_true, if_false]; rfl
theorem ofRun_nums (s : ByteArray) (hs : s.size ≤ 20) : (ofRun s 21 wk0).nums = (atWk s s.size).nums ++ [(atWk s s.size).x] := by
  have := ofRun_at s hs 21 0 (Nat.zero_le _) (by omega)
  rw [show atWk s 0 = wk0 from rfl] at this
  rw [this]

/-! ### the word of a fraction -/
theorem getD_app1 (b c : ByteArray) (p : Nat) (h : p < b.size) : (b ++ c).data.getD p 0 = b.data.getD p 0 := by
  have h' : p < b.data.size := h
  simp [Array.getD_eq_getD_getElem?, ByteArray.data_append, Array.getElem?_append_left h']
theorem getD_end (b c : ByteArray) : (b ++ c).data.getD b.size 0 = c.data.getD 0 0 := by
  have h : (b.data ++ c.data)[b.size]? = c.data[b.size - b.data.size]? := Array.getElem?_append_right (Nat.le_refl _)
  rw [Array.getD_eq_getD_getElem?, ByteArray.data_append, h, Array.getD_eq_getD_getElem?, show b.size - b.data.size = 0 from Nat.sub_self _]
theorem getD_plus (b : ByteArray) : (b ++ plusB).data.getD b.size 0 = 43 := by rw [getD_end]; rfl
theorem getD_minus (b : ByteArray) : (b ++ minusB).data.getD b.size 0 = 45 := by rw [getD_end]; rfl
theorem wkRun_pre (f : Int → Int) : ∀ (m : Nat) (i : Wk) (p : Nat), p < i.word.size → (wkRun f m i).word.data.getD p 0 = i.word.data.getD p 0
  | 0, i, p, h => rfl
  | m + 1, i, p, h => by
    unfold wkRun
    split
    · rfl
    · split
      · rw [wkRun_pre f m _ p (by simp only [size_plus]; omega)]
        exact getD_app1 _ _ _ h
      · rw [wkRun_pre f m _ p (by simp only [size_minus]; omega)]
        exact getD_app1 _ _ _ h
theorem wkRun_at (f : Int → Int) (hf : ∀ x, f x = 1 ∨ f x = 0 ∨ f x = -1) (s : ByteArray) : ∀ (m k : Nat), m + k = 21 → k ≤ 20 → (wkRun f m (atWk s k)).word = s → wkRun f m (atWk s k) = { atWk s s.size with nums := (atWk s s.size).nums ++ [(atWk s s.size).x] }
  | 0, k, h1, h2, _ => by omega
  | m + 1, k, h1, h2, hw => by
    have hz := atWk_size s k
    unfold wkRun at hw ⊢
    by_cases hst : f (atWk s k).x = 0 ∨ (atWk s k).word.size = 20
    · rw [if_pos hst] at hw ⊢
      have : k = s.size := by rw [← hw]; exact hz.symm
      subst this; rfl
    · rw [if_neg hst] at hw ⊢
      have hst1 : f (atWk s k).x ≠ 0 := fun e => hst (.inl e)
      have hst2 : k ≠ 20 := fun e => hst (.inr (by omega))
      rcases hf (atWk s k).x with e | e | e
      · rw [if_pos (by omega), e] at hw ⊢
        have hp : isPlus s k = true := by
          have := wkRun_pre f m _ k (show k < (stepP (atWk s k)).word.size by simp only [stepP, size_plus]; omega)
          have hw' : (wkRun f m (stepP (atWk s k))).word = s := hw
          rw [hw'] at this
          have h3 := getD_plus (atWk s k).word
          rw [hz] at h3
          have h4 : (stepP (atWk s k)).word.data.getD k 0 = 43 := h3
          rw [h4] at this
          simp [isPlus, this]
        have := wkRun_at f hf s m (k + 1) (by omega) (by omega)
        simp only [atWk, hp, if_true] at this
        exact this hw
      · exact absurd e hst1
      · rw [if_neg (by omega), e] at hw ⊢
        have hp : isPlus s k = false := by
          have := wkRun_pre f m _ k (show k < (stepM (atWk s k)).word.size by simp only [stepM, size_minus]; omega)
          have hw' : (wkRun f m (stepM (atWk s k))).word = s := hw
          rw [hw'] at this
          have h3 := getD_minus (atWk s k).word
          rw [hz] at h3
          have h4 : (stepM (atWk s k)).word.data.getD k 0 = 45 := h3
          rw [h4] at this
          simp [isPlus, this]
        have := wkRun_at f hf s m (k + 1) (by omega) (by omega)
        simp only [atWk, hp, Bool.false_eq_true, if_false] at this
        exact this hw

/-- A short fraction's own walk is the walk along its word, and ends at it. -/
theorem wk_own {n d : Int} (h : shortB n d = true) : gWk n d = { atWk (gWk n d).word (gWk n d).word.size with nums := (atWk (gWk n d).word (gWk n d).word.size).nums ++ [(atWk (gWk n d).word (gWk n d).word.size).x] } := by
  have hg : goodB n d = true := by simp only [shortB, Bool.and_eq_true] at h; exact h.1
  have e : gWk n d = wkRun (side n d) 21 wk0 := by simp [gWk, hg, wkOf]
  rw [e]
  exact wkRun_at (side n d) (side_val n d) _ 21 0 rfl (by omega) rfl
theorem wk_size (n d : Int) : (gWk n d).word.size ≤ 20 := by
  have key : ∀ (f : Int → Int) (k : Nat) (i : Wk), i.word.size ≤ 20 → (wkRun f k i).word.size ≤ 20 := by
    intro f k
    induction k with
    | zero => intro i h; exact h
    | succ k ih =>
      intro i h
      unfold wkRun
      split
      · exact h
      · rename_i hn
        split
        · exact ih _ (by simp only [size_plus]; omega)
        · exact ih _ (by simp only [size_minus]; omega)
  unfold gWk
  split
  · exact key _ _ _ (by decide)
  · decide
theorem wk_end {n d : Int} (h : shortB n d = true) : mkOk (atWk (gWk n d).word (gWk n d).word.size).x 1048576 = true := by
  have hg : goodB n d = true := by simp only [shortB, Bool.and_eq_true] at h; exact h.1
  have hr := good_range hg
  have hw := wk_size n d
  have hx := atWk_small (gWk n d).word _ hw
  have e := wk_own h
  have e2 : wkOf n d = gWk n d := by simp [gWk, hg]
  have h2 : w64 (n * 1048576) = w64 ((atWk (gWk n d).word (gWk n d).word.size).x * d) := by
    simp only [shortB, Bool.and_eq_true, beq_iff_eq] at h
    have h3 := h.2
    rw [e2, e] at h3
    simpa using h3
  generalize (atWk (gWk n d).word (gWk n d).word.size).x = x at *
  have q := mul_le (a := x) (b := d) (A := 50000000) (B := 1000000) hx (by omega)
  rw [w64_small (by omega), w64_small (by omega)] at h2
  obtain ⟨r1, r2⟩ := mk_ratio (n1 := n) (d1 := d) (n2 := x) (d2 := 1048576) (by omega) (by omega) ⟨by omega, by omega⟩ ⟨by omega, by omega⟩ h2
  obtain ⟨s1, s2⟩ := mk_self hg
  unfold mkOk
  rw [← r1, ← r2, s1, s2]; exact hg
/-- Each number on the way of a short fraction is a right fraction. -/
theorem wk_ok {n d : Int} (h : shortB n d = true) (k : Nat) (hk : k ≤ (gWk n d).word.size) : mkOk (atWk (gWk n d).word k).x 1048576 = true := by
  have hw := wk_size n d
  by_cases h2 : k ≤ 19
  · exact atWk_ok _ _ h2
  · have : k = (gWk n d).word.size := by omega
    rw [this]; exact wk_end h

/-! ### the beginning of a word -/
theorem getD_ext (s : ByteArray) (k p : Nat) (h : p < k) : (s.extract 0 k).data.getD p 0 = s.data.getD p 0 := by
  simp only [Array.getD_eq_getD_getElem?, ByteArray.data_extract, Array.getElem?_extract]
  by_cases h2 : p < s.data.size
  · rw [if_pos (by omega)]; simp
  · rw [if_neg (by omega), Array.getElem?_eq_none (by omega)]
theorem atWk_ext (s : ByteArray) (k : Nat) : ∀ p, p ≤ k → atWk (s.extract 0 k) p = atWk s p
  | 0, _ => rfl
  | p + 1, h => by
    have := atWk_ext s k p (by omega)
    simp only [atWk, this, isPlus, getD_ext s k p (by omega)]
    rfl
theorem size_ext (s : ByteArray) (k : Nat) (h : k ≤ s.size) : (s.extract 0 k).size = k := by
  rw [ByteArray.size_extract]; omega

end Go.Proofs.Ytllcljajlemmaaa
/-
  Rows of fractions: of a call's own, compared, marked.
-/
namespace Go.Proofs.Ytllcljajlemmaaa
open Go K
set_option linter.unusedSimpArgs false
set_option linter.unusedVariables false
set_option maxRecDepth 8000
set_option maxHeartbeats 800000

abbrev Fr := Int × Int
def frE (x : Fr) : AV := .agg [.int .i64 x.1, .int .i64 x.2]
theorem frs_get (d r : List Fr) (e : Fr) : ((d ++ e :: r).map frE)[d.length]? = some (.agg [.int .i64 e.1, .int .i64 e.2]) := by simp [frE]
theorem frs_pure : ∀ l : List Fr, pureL (l.map frE) = true
  | [] => rfl
  | e :: r => by simp [frE, pureL, pureB, frs_pure r]
theorem frs_noOwn (l : List Fr) : noOwn (l.map frE) = true := by
  refine List.all_eq_true.2 fun x hx => ?_
  obtain ⟨e, _, rfl⟩ := List.mem_map.1 hx
  rfl
theorem frs_okTL (l : List Fr) : okTL (l.map frE) = true := by
  rw [okTL_mem]
  intro x hx
  obtain ⟨e, _, rfl⟩ := List.mem_map.1 hx
  rfl
theorem frs_okTO (l : List Fr) (T : TypeId) (z g : Nat) : okTO (.vec T z g (l.map frE)) = true := by
  simp only [okTO, frs_okTL, frs_noOwn, Bool.and_self]

/-- A row of fractions of a call's own, or none. -/
def OwnF (L : List AObj) (l : List Fr) (x : AV) (S : List Nat) : Prop := (l = [] ∧ x = nilV ∧ S = []) ∨ ∃ id g, x = .ref id [] g l.length ∧ L[id]? = some (.vec 42 2 g (l.map frE)) ∧ S = [id]
theorem OwnF.mono {L L' : List AObj} {l : List Fr} {x : AV} {S : List Nat} (h : OwnF L l x S) (hf : ∀ id ∈ S, ∀ g es, L[id]? = some (.vec 42 2 g es) → L'[id]? = some (.vec 42 2 g es)) : OwnF L' l x S := by
  rcases h with h | ⟨id, g, h1, h2, rfl⟩
  · exact .inl h
  · exact .inr ⟨id, g, h1, hf id (by simp) _ _ h2, rfl⟩
theorem OwnF.more {L : List AObj} {l : List Fr} {x : AV} {S : List Nat} (h : OwnF L l x S) (X : List AObj) : OwnF (L ++ X) l x S :=
  h.mono fun id hid g es hL => by rw [List.getElem?_append_left (List.getElem?_eq_some_iff.1 hL).1]; exact hL
theorem OwnF.keep {L : List AObj} {l : List Fr} {x : AV} {S S' : List Nat} (h : OwnF L l x S) (hS : ∀ id ∈ S, id ∈ S') : OwnF (keepS S' L) l x S := by
  rcases h with h | ⟨id, g, h1, h2, rfl⟩
  · exact .inl h
  · exact .inr ⟨id, g, h1, keepS_in (hS id (by simp)) (frs_okTO _ _ _ _) h2, rfl⟩
theorem OwnF.sh {M L' : List AObj} {k : Nat} (hg : ∀ id, L'[id + k]? = (M[id]?).map (shO k)) {l : List Fr} {x : AV} {S : List Nat} (h : OwnF M l x S) : OwnF L' l (shA k x) (S.map (· + k)) := by
  rcases h with ⟨h5, rfl, rfl⟩ | ⟨id, g, rfl, h2, rfl⟩
  · exact .inl ⟨h5, rfl, rfl⟩
  · refine .inr ⟨id + k, g, by simp [shA], ?_, by simp⟩
    rw [hg, h2]
    simp [shO, shL_eq, frE, shA, Function.comp_def]
theorem OwnF.lt {L : List AObj} {l : List Fr} {x : AV} {S : List Nat} (h : OwnF L l x S) : ∀ id ∈ S, id < L.length := fun i hi => by
  rcases h with ⟨_, _, rfl⟩ | ⟨id, g, rfl, h2, rfl⟩
  · simp at hi
  · simp at hi; subst hi; exact (List.getElem?_eq_some_iff.1 h2).1
theorem OwnF.nobox {L : List AObj} {l : List Fr} {x : AV} {S : List Nat} (h : OwnF L l x S) {i : Nat} {T : TypeId} {cs : List AV} (hb : L[i]? = some (.box T cs)) : i ∉ S := fun hi => by
  rcases h with ⟨_, _, rfl⟩ | ⟨id, g, rfl, h2, rfl⟩
  · simp at hi
  · simp at hi; subst hi; rw [hb] at h2; cases h2
theorem OwnF.okT {L : List AObj} {l : List Fr} {x : AV} {S : List Nat} (h : OwnF L l x S) : okT x = true := by
  rcases h with ⟨_, rfl, _⟩ | ⟨id, g, rfl, h2, rfl⟩ <;> rfl
theorem OwnF.view {L : List AObj} {l : List Fr} {x : AV} {S : List Nat} (h : OwnF L l x S) : Vw L x (.sl false (l.map frE)) := by
  rcases h with ⟨rfl, rfl, _⟩ | ⟨id, g, rfl, h2, _⟩
  · exact Vw.nil false
  · have := Vw.refPur (L := L) (id := id) (g := g) (n := l.length) (o := false) h2 (by simp) (fun e he c hc => by
      obtain ⟨e', _, rfl⟩ := List.mem_map.1 he
      simp only [frE, AV.cells, List.mem_cons, List.not_mem_nil, or_false] at hc
      rcases hc with rfl | rfl <;> exact ⟨.of rfl, fun xs h => by cases h⟩)
    rw [List.take_of_length_le (by simp)] at this
    exact this

theorem eqFractionS_ok (l : List Fr) (hl : l.length ≤ 1048576) : Ct Try.prog 36 [.sl false (l.map frE), .sl false (l.map frE)] [] (.bool true) [] := by
  refine Ct.by_ hmix [] Try.func36 rfl ?_
  simp only [run0, run1, run2, run3, run4, run5, run6, run7, run8, run9, run10, run11, run12, run13, run14, run15, run16, run17, run18, run19, run20, run21, run22, reduceCtorEq, Nat.reduceEqDiff, Nat.reduceAdd, Nat.reduceSub, Nat.reduceLeDiff, indexAddrA, indexRefA, appendA, strA, Nat.reduceMul, Nat.zero_mul, Nat.reduceMod, Int.reduceEq, Int.reduceLT, Int.reduceLE, Nat.reduceLT, Nat.lt_irrefl, Nat.reduceBEq, tys0, tys1, tys2, tys3, tys4, tys5, tys6, tys7, tys8, tys9, tys10, tys11, tys12, tys13, tys14, tys15, tys16, tys17, tys18, tys19, tys20, tys21, tys22, tys23, Try.ntmps36, Try.results36, bne_self_eq_false]
  refine AWp.loop_inv (ι := List Fr × List Fr) (fun p => ⟨[.sl false (l.map frE), .sl false (l.map frE), .junk, .junk, .bool false, .int .i64 p.1.length, .junk, .junk, .junk, .junk, .junk, .junk, .junk, .junk, .junk, .junk, .junk, .junk, .junk, .junk, .junk, .junk, .junk, .junk, .junk, .junk, .junk], []⟩)
    (fun p => l = p.1 ++ p.2) (fun p => p.2.length) ([], l) rfl ⟨by simp only [List.length_nil, Int.natCast_zero]; repeat constructor, rfl⟩ ?_
  rintro ⟨d, r⟩ ha
  refine W.sound hmix (E := []) ?_
  simp only at ha
  have hda : d.length + r.length = l.length := by rw [ha, List.length_append]
  cases r with
  | nil =>
    have e1 : ¬ ((d.length : Int) < (l.length : Int)) := by simp at hda; omega
    simp only [run0, run1, run2, run3, run4, run5, run6, run7, run8, run9, run10, run11, run12, run13, run14, run15, run16, run17, run18, run19, run20, run21, run22, reduceCtorEq, Nat.reduceEqDiff, Nat.reduceAdd, Nat.reduceSub, Nat.reduceLeDiff, indexAddrA, indexRefA, appendA, strA, Nat.reduceMul, Nat.zero_mul, Nat.reduceMod, Int.reduceEq, Int.reduceLT, Int.reduceLE, Nat.reduceLT, Nat.lt_irrefl, Nat.reduceBEq, tys0, tys1, tys2, tys3, tys4, tys5, tys6, tys7, tys8, tys9, tys10, tys11, tys12, tys13, tys14, tys15, tys16, tys17, tys18, tys19, tys20, tys21, tys22, tys23, Try.ntmps36, Try.results36, e1]
    exact Fin.eq rfl rfl
  | cons e r =>
    simp only [List.length_cons] at hda
    have e1 : (d.length : Int) < (l.length : Int) := by omega
    have e2 : (l.map frE)[d.length]? = some (.agg [.int .i64 e.1, .int .i64 e.2]) := by rw [ha]; exact frs_get d r e
    have e5 : IntKind.i64.wrap ((d.length : Int) + 1) = ((d ++ [e]).length : Int) := by
      have := w64_id (x := (d.length : Int) + 1) (by omega) (by omega)
      simp only [w64] at this
      rw [this]; simp
    simp only [run0, run1, run2, run3, run4, run5, run6, run7, run8, run9, run10, run11, run12, run13, run14, run15, run16, run17, run18, run19, run20, run21, run22, reduceCtorEq, Nat.reduceEqDiff, Nat.reduceAdd, Nat.reduceSub, Nat.reduceLeDiff, indexAddrA, indexRefA, appendA, strA, Nat.reduceMul, Nat.zero_mul, Nat.reduceMod, Int.reduceEq, Int.reduceLT, Int.reduceLE, Nat.reduceLT, Nat.lt_irrefl, Nat.reduceBEq, tys0, tys1, tys2, tys3, tys4, tys5, tys6, tys7, tys8, tys9, tys10, tys11, tys12, tys13, tys14, tys15, tys16, tys17, tys18, tys19, tys20, tys21, tys22, tys23, Try.ntmps36, Try.results36, e1, e2, Int.toNat_natCast, Int.natCast_nonneg]
    refine ⟨by kernel_rfl, ?_⟩
    refine RunL.callp rfl rfl ok_f35 (eqFraction_ok _ _) (by first | rfl | simp only [pureL, pureB, Bool.and_self, Bool.and_true, Bool.true_and]) rfl ?_
    simp only [run0, run1, run2, run3, run4, run5, run6, run7, run8, run9, run10, run11, run12, run13, run14, run15, run16, run17, run18, run19, run20, run21, run22, reduceCtorEq, Nat.reduceEqDiff, Nat.reduceAdd, Nat.reduceSub, Nat.reduceLeDiff, indexAddrA, indexRefA, appendA, strA, Nat.reduceMul, Nat.zero_mul, Nat.reduceMod, Int.reduceEq, Int.reduceLT, Int.reduceLE, Nat.reduceLT, Nat.lt_irrefl, Nat.reduceBEq, tys0, tys1, tys2, tys3, tys4, tys5, tys6, tys7, tys8, tys9, tys10, tys11, tys12, tys13, tys14, tys15, tys16, tys17, tys18, tys19, tys20, tys21, tys22, tys23, Try.ntmps36, Try.results36, e5, beq_self_eq_true]
    exact ⟨(d ++ [e], r), by simp [ha], by simp, by simp only [List.length_append, List.length_cons, List.length_nil]; repeat constructor⟩

/-- The marks from 'k' on. -/
def mkF : List Fr → Int → List Fr
  | [], _ => []
  | _ :: r, k => (k, k + 1) :: mkF r (k + 2)
theorem mkF_len : ∀ (l : List Fr) (k : Int), (mkF l k).length = l.length
  | [], _ => rfl
  | e :: r, k => by simp [mkF, mkF_len r]
theorem mkF_app : ∀ (d r : List Fr) (k : Int), mkF (d ++ r) k = mkF d k ++ mkF r (k + 2 * d.length)
  | [], r, k => by simp [mkF]
  | e :: d, r, k => by
    simp only [mkF, List.cons_append, mkF_app d r, List.length_cons]
    rw [show k + 2 + 2 * (d.length : Int) = k + 2 * ((d.length + 1 : Nat) : Int) by omega]
end Go.Proofs.Ytllcljajlemmaaa
/-
  A logic of values for Go's functions (part 21): a call that is given a row of the caller's, which nobody writes any more.
-/
namespace Go.Proofs.Ytllcljajlemmaaa.K
set_option linter.unusedVariables false
set_option linter.unusedSimpArgs false
open Go

/-- The row 'j' is never written again; all else that is owned is out of sight. -/
def frzS (j : Nat) (γ : Nat → Gh) (w : World) : Nat → Gh := fun b =>
  match γ b with
  | .ow id _ _ => if id = j then (match w.heap[b]? with | some o => .ro o | none => .out) else .out
  | x => x

theorem frzS_ro {j : Nat} {γ : Nat → Gh} {w : World} : ∀ b o, γ b = .ro o → frzS j γ w b = .ro o := by
  intro b o h; simp [frzS, h]

/-- 'x', told with what the call owns, is 'y' once the row 'j' is not written any more. -/
def VwF (j : Nat) (L : List AObj) (x y : AV) : Prop := ∀ γ w v, Inv γ L w → RV γ L x v → RV (frzS j γ w) [] y v

theorem VwF.pur {j : Nat} {L : List AObj} {x : AV} (h : pureB x = true) : VwF j L x x := fun γ w v _ hv => Pur.of h γ L _ _ v frzS_ro hv

inductive VwFL (j : Nat) (L : List AObj) : List AV → List AV → Prop where
  | nil : VwFL j L [] []
  | cons {x y : AV} {xs ys : List AV} (h : VwF j L x y) (k : VwFL j L xs ys) : VwFL j L (x :: xs) (y :: ys)

theorem VwFL.get {j : Nat} {L : List AObj} {xs ys : List AV} (h : VwFL j L xs ys) : xs.length = ys.length ∧ ∀ (i : Nat) y, ys[i]? = some y → ∃ x, xs[i]? = some x ∧ VwF j L x y := by
  induction h with
  | nil => exact ⟨rfl, fun i y h => by simp at h⟩
  | cons h k ih =>
    refine ⟨by simp [ih.1], fun i y hi => ?_⟩
    cases i with
    | zero => simp at hi; subst hi; exact ⟨_, rfl, h⟩
    | succ i => simpa using ih.2 i y (by simpa using hi)

theorem VwF.agg {j : Nat} {L : List AObj} {xs ys : List AV} (h : VwFL j L xs ys) : VwF j L (.agg xs) (.agg ys) := by
  intro γ w v hI hv
  cases hv with
  | agg _ vs hn h1 h2 =>
    refine .agg _ _ (by rw [hn, h.get.1]) h1 fun i y hy => ?_
    obtain ⟨x, hx, hxy⟩ := h.get.2 i y hy
    exact hxy γ w _ hI (h2 i x hx)

theorem VwF.ref {id : Nat} {L : List AObj} {g n : Nat} {T : TypeId} {sz : Nat} {es : List AV} {o : Bool} (hL : L[id]? = some (.vec T sz g es)) (hn : n ≤ es.length)
    (hp : ∀ e ∈ es, ∀ c ∈ e.cells, Pur c ∧ ∀ xs, c ≠ .sl true xs) : VwF id L (.ref id [] g n) (.sl o (es.take n)) := by
  intro γ w v hI hv
  have hv1 := Vw.refPur (o := o) hL hn hp γ w v hI hv
  cases hv with
  | ref _ _ _ _ _ hok ho =>
    obtain ⟨_, _, _, es2, hL2, hs2, hn2, hv⟩ := hok.form (by simp [eptrNow, hL])
    rw [hL] at hL2; cases hL2
    simp only [sub, Option.some.injEq] at hs2
    subst hs2
    rcases hv with ⟨rfl, rfl, rfl, _⟩ | ⟨b, c, rfl, hb⟩
    · simp only [List.take_nil]
      exact .sl _ _ _ 0 0 0 (fun _ _ => undef) rfl (Nat.le_refl _) (by simp) (by simp) (by simp) (by simp)
    · obtain ⟨ob, hob, _⟩ := hI.ow _ _ _ _ hb
      generalize hA : (some (⟨b, 0, none⟩ : Addr)) = A at hv1
      cases hv1 with
      | sl _ _ _ _ _ s vals hn' hc' hsz h2 h1 h3 =>
        refine .sl _ _ _ _ _ s vals hn' hc' hsz ?_ h1 ?_
        · intro i e k x hi hk
          have := h2 i e k x hi hk
          rw [← hA] at this ⊢
          simp only [roCell, frz, frzS, hb, hob, if_true] at this ⊢
          exact this
        · intro i e k x hi hk
          have h0 := h3 i e k x hi hk
          have hi' : es[i]? = some e := by
            rw [List.getElem?_take] at hi
            split at hi
            · exact hi
            · cases hi
          obtain ⟨arr, s', T', harr, _, _, _, _, hrow⟩ := hI.rowCell hL rfl hb
          obtain ⟨u, u1, u2, u3⟩ := hrow.2 i e k x hi' hk
          obtain ⟨q1, q2⟩ := hp e (List.mem_of_getElem? hi') x (List.mem_of_getElem? hk)
          have hu : RV γ L x u := by
            unfold CV at u3
            split at u3
            · rename_i xs; exact absurd rfl (q2 xs)
            · exact u3
          have h4 := h2 i e k x hi hk
          rw [← hA] at h4
          simp only [roCell, frz, hb, harr, Nat.zero_add] at h4
          have hss : s' = s := by
            rw [← hrow.1 e (List.mem_of_getElem? hi'), ← hsz e (List.mem_of_getElem? hi)]
          subst hss
          rw [u1] at h4; cases h4
          exact q1 γ L _ _ _ frzS_ro hu

/-- A call whose result may share the row 'j'; the caller gives that row away. -/
theorem Ct.give {P : Program} {f : FuncId} {xs ys : List AV} {r : AV} {L : List AObj} {j : Nat} {T : TypeId} {sz g : Nat} {es : List AV} (hj : L[j]? = some (.vec T sz g es)) (h : Ct P f ys [] r []) (hy : VwFL j L xs ys) :
    Ct P f xs L r (L.set j .dead) := by
  intro γ w vs hI ha
  have hjl := (List.getElem?_eq_some_iff.1 hj).1
  have hno : ∀ b id p c, frzS j γ w b ≠ .ow id p c := by
    intro b id p c hb
    unfold frzS at hb
    split at hb
    · split at hb
      · split at hb <;> cases hb
      · cases hb
    · rename_i hne; exact hne _ _ _ hb
  have hI0 : Inv (frzS j γ w) [] w := by
    refine ⟨fun b o hb => ?_, fun b id p c hb => absurd hb (hno _ _ _ _), fun b b' id p c c' hb => absurd hb (hno _ _ _ _), fun id T cs hL => by simp at hL, fun id kt vt es hL => by simp at hL⟩
    unfold frzS at hb
    split at hb
    · split at hb
      · split at hb
        · rename_i o' ho'; cases hb; exact ho'
        · cases hb
      · cases hb
    · exact hI.ro b o hb
  have ha0 : ArgsR (frzS j γ w) [] ys vs := by
    refine ⟨by rw [ha.1]; exact hy.get.1, fun i y hi => ?_⟩
    obtain ⟨x, hx, hxy⟩ := hy.get.2 i y hi
    exact hxy γ w _ hI (ha.2 i x hx)
  refine (h (frzS j γ w) w vs hI0 ha0).mono ?_
  rintro e w' ⟨γ1, v, rfl, hI1, hv, _, hS⟩
  let γ' : Nat → Gh := fun b => match γ b with | .ow id p c => if id = j then γ1 b else .ow id p c | _ => γ1 b
  have hno1 : ∀ b id p c, γ1 b ≠ .ow id p c := by
    intro b id p c hb
    have := hI1.idlt hb
    simp at this
  have hA : ∀ {b id p c}, γ b = .ow id p c → id ≠ j → γ' b = .ow id p c ∧ γ1 b = .out ∧ w'.heap[b]? = w.heap[b]? := by
    intro b id p c hb hne
    obtain ⟨o, ho, _⟩ := hI.ow _ _ _ _ hb
    obtain ⟨h1, h2⟩ := hS.out b (List.getElem?_eq_some_iff.1 (by simpa using ho)).1 (by simp [frzS, hb, hne])
    exact ⟨by simp [γ', hb, hne], h1, h2⟩
  have hB : ∀ {b p c}, γ b = .ow j p c → γ' b = γ1 b ∧ ∃ o, γ1 b = .ro o := by
    intro b p c hb
    obtain ⟨o, ho, _⟩ := hI.ow _ _ _ _ hb
    exact ⟨by simp [γ', hb], o, hS.ro b o (by simp [frzS, hb, ho])⟩
  have hC : ∀ {b}, (∀ id p c, γ b ≠ .ow id p c) → γ' b = γ1 b := by
    intro b hb
    cases hg : γ b with
    | ow id p c => exact absurd hg (hb id p c)
    | out => simp [γ', hg]
    | ro o => simp [γ', hg]
  have h3 : ∀ {b id p c}, γ' b = .ow id p c → γ b = .ow id p c ∧ id ≠ j := by
    intro b id p c hb
    by_cases hx : ∃ id p c, γ b = .ow id p c
    · obtain ⟨id', p', c', he⟩ := hx
      by_cases hij : id' = j
      · subst hij; rw [(hB he).1] at hb; exact absurd hb (hno1 _ _ _ _)
      · rw [(hA he hij).1] at hb; cases hb; exact ⟨he, hij⟩
    · rw [hC (fun id p c he => hx ⟨id, p, c, he⟩)] at hb
      exact absurd hb (hno1 _ _ _ _)
  have h4 : ∀ b o, γ' b = .ro o → γ1 b = .ro o := by
    intro b o hb
    by_cases hx : ∃ id p c, γ b = .ow id p c
    · obtain ⟨id', p', c', he⟩ := hx
      by_cases hij : id' = j
      · subst hij; rw [(hB he).1] at hb; exact hb
      · rw [(hA he hij).1] at hb; cases hb
    · rw [hC (fun id p c he => hx ⟨id, p, c, he⟩)] at hb; exact hb
  have h5 : ∀ b o, γ1 b = .ro o → γ' b = .ro o := by
    intro b o hb
    by_cases hx : ∃ id p c, γ b = .ow id p c
    · obtain ⟨id', p', c', he⟩ := hx
      by_cases hij : id' = j
      · subst hij; rw [(hB he).1]; exact hb
      · rw [(hA he hij).2.1] at hb; cases hb
    · rw [hC (fun id p c he => hx ⟨id, p, c, he⟩)]; exact hb
  have hro : ∀ b o, γ b = .ro o → γ' b = .ro o := by
    intro b o hb
    rw [hC (fun id p c he => by rw [hb] at he; cases he)]
    exact hS.ro b o (frzS_ro b o hb)
  have hset : ∀ {id : Nat}, id ≠ j → (L.set j AObj.dead)[id]? = L[id]? := fun {id} hne => List.getElem?_set_ne (fun e => hne e.symm)
  have hself : (L.set j AObj.dead)[j]? = some .dead := List.getElem?_set_self hjl
  have hE : Ext γ L γ' (L.set j .dead) := by
    refine ⟨hro, fun id o hL => ?_, fun b id p c hb => ?_, fun id T1 sz1 g1 es1 T' sz' es' hL hL' p e1 _ b c hb => (h3 hb).1⟩
    · by_cases hij : id = j
      · subst hij; rw [hj] at hL; cases hL; exact ⟨_, hself, trivial⟩
      · exact ⟨o, by rw [hset hij]; exact hL, OStep.refl o⟩
    · by_cases hij : id = j
      · subst hij
        refine .inr fun o hL => ?_
        rw [hj] at hL; cases hL
        exact ⟨_, _, _, _, rfl, fun T' sz' es' hL' => by rw [hself] at hL'; cases hL'⟩
      · exact .inl (hA hb hij).1
  refine ⟨γ', v, rfl, ⟨fun b o hb => hI1.ro b o (h4 b o hb), fun b id p c hb => ?_, fun b b' id p c c' hb hb' => hI.inj _ _ _ _ _ _ (h3 hb).1 (h3 hb').1, fun id T cs hL => ?_, fun id kt vt es hL => ?_⟩, RV.lift h5 hv, hE, ?_⟩
  · obtain ⟨hb0, hne⟩ := h3 hb
    obtain ⟨o, ho, hrep⟩ := hI.ow _ _ _ _ hb0
    refine ⟨o, by rw [(hA hb0 hne).2.2]; exact ho, ?_⟩
    exact BlockRep.keep hE (hset hne) (fun b p c hb => (hA hb hne).1) (fun b p c hb => (h3 hb).1) hrep
  · by_cases hij : id = j
    · subst hij; rw [hself] at hL; cases hL
    · rw [hset hij] at hL
      obtain ⟨b, c, hb⟩ := hI.box _ _ _ hL
      exact ⟨b, c, (hA hb hij).1⟩
  · by_cases hij : id = j
    · subst hij; rw [hself] at hL; cases hL
    · rw [hset hij] at hL
      obtain ⟨b, c, hb⟩ := hI.map _ _ _ _ hL
      exact ⟨b, c, (hA hb hij).1⟩
  · refine ⟨hS.os, hS.tape, hS.output, hS.size, hE.ro, fun b hb ho => ?_⟩
    have := hS.out b hb (by simp [frzS, ho])
    exact ⟨by rw [hC (fun id p c he => by rw [ho] at he; cases he)]; exact this.1, this.2⟩

theorem RunL.give {P : Program} {k : Oper → Knd} {ops : Array Oper} {K : St → Prop} {o : Oper} {rest : List Oper} {s : St} {f : FuncId} {args : Array Operand} {ats : Array TypeId} {r : AV} {xs ys : List AV} {j : Nat}
    (hg : guardA ops s o = some true) (ho : o.op = .call { callee := .value (.func f), args := args, argTypes := ats }) (hf : okFn P f = true) (hkd : Knd.le .C (k o) = true) (hal : isAlloc k o = false)
    (h : Ct P f ys [] r []) (hj : ∃ T sz g es, s.L[j]? = some (.vec T sz g es)) (hy : VwFL j s.L xs ys) (hx : args.toList.map s.ev = xs) (hk : R P k ops rest ({ s with L := s.L.set j .dead }.put o.dst r) K) : RunL P k ops (o :: rest) s K :=
  by obtain ⟨T, sz, g, es, hj⟩ := hj; exact RunL.call hg ho hx hf hkd (.inl hal) (Ct.give hj h hy) hk

end Go.Proofs.Ytllcljajlemmaaa.K
/-
  A logic of values for Go's functions (part 22): maps of the call's own, with plain keys and plain elements.
-/
namespace Go.Proofs.Ytllcljajlemmaaa.K
set_option linter.unusedVariables false
set_option linter.unusedSimpArgs false
open Go Go.RowKit
open Go.Maps (Keyed)
open Go.ChangeMaps (setBlock heap_setBlock_same heap_setBlock_other)

/-- Values that are told by themselves. -/
def plain1 : AV → Bool
  | .int _ _ => true
  | .bool _ => true
  | .str _ => true
  | _ => false
def val1 : AV → Value
  | .int k n => .int k n
  | .bool b => .bool b
  | .str s => .string s
  | _ => undef
def plainK : AV → Bool
  | .agg cs => cs.all plain1
  | x => plain1 x
def valK : AV → Value
  | .agg cs => .agg (cs.map val1).toArray
  | x => val1 x
theorem val1_of {γ : Nat → Gh} {L : List AObj} {x : AV} {v : Value} (h : RV γ L x v) (hp : plain1 x = true) : v = val1 x := by
  cases h <;> first | rfl | (simp [plain1] at hp; done)
theorem rv_val1 {γ : Nat → Gh} {L : List AObj} {x : AV} (hp : plain1 x = true) : RV γ L x (val1 x) := by
  cases x <;> first | exact .int _ _ | exact .bool _ | exact .str _ | (simp [plain1] at hp; done)
theorem one_val1 {x : AV} (hp : plain1 x = true) : (val1 x).oneCell' = true := by
  cases x <;> first | rfl | (simp [plain1] at hp; done)
theorem valK_of {γ : Nat → Gh} {L : List AObj} {x : AV} {v : Value} (h : RV γ L x v) (hp : plainK x = true) : v = valK x := by
  cases h with
  | agg cs vs hn h1 h =>
    simp only [plainK, List.all_eq_true] at hp
    simp only [valK, Value.agg.injEq]
    apply Array.ext
    · simp [hn]
    · intro i h1 h2
      have hi : i < cs.length := by omega
      have := val1_of (h i cs[i] (by simp [hi])) (hp _ (List.getElem_mem _))
      simp only [Array.getD, h1, dite_true] at this
      simpa using this
  | int k n => rfl
  | bool b => rfl
  | str s => rfl
  | _ => simp [plainK, plain1] at hp
theorem rv_valK {γ : Nat → Gh} {L : List AObj} {x : AV} (hp : plainK x = true) : RV γ L x (valK x) := by
  cases x with
  | agg cs =>
    simp only [plainK, List.all_eq_true] at hp
    refine .agg _ _ (by simp) (fun v hv => ?_) (fun i x hx => ?_)
    · simp only [List.mem_toArray, List.mem_map] at hv
      obtain ⟨y, hy, rfl⟩ := hv
      exact one_val1 (hp y hy)
    · have hi := (List.getElem?_eq_some_iff.1 hx).1
      have e : (cs.map val1).toArray.getD i undef = val1 x := by
        rw [Array.getD_eq_getD_getElem?]; simp [hx]
      rw [e]
      exact rv_val1 (hp _ (List.mem_of_getElem? hx))
  | int k n => exact .int _ _
  | bool b => exact .bool _
  | str s => exact .str _
  | _ => simp [plainK, plain1] at hp

section
variable {κ ν : Type}
def entE (ek : κ → AV) (ev : ν → AV) (p : κ × ν) : AV × AV := (ek p.1, ev p.2)
def mapO (kt vt : TypeId) (ek : κ → AV) (ev : ν → AV) (m : List (κ × ν)) : AObj := .map kt vt (m.map (entE ek ev))

/-- How keys and elements of a map's type are told; 'z' is the element type's zero value. -/
structure MapT (P : Program) (kt vt : TypeId) (ek : κ → AV) (ev : ν → AV) (z : ν) : Prop where
  keyed : Keyed P kt
  pk : ∀ k, plainK (ek k) = true
  pv : ∀ v, plainK (ev v) = true
  one : ∀ v, (valK (ev v)).oneCell' = true
  inj : ∀ a b, valK (ek a) = valK (ek b) → a = b
  zero : zeroOf P vt = some (valK (ev z))

structure MapOk (P : Program) (kt : TypeId) (ek : κ → AV) (m : List (κ × ν)) : Prop where
  nd : (m.map Prod.fst).Nodup
  wf : ∀ k ∈ m.map Prod.fst, (keyOf P kt (valK (ek k))).isSome = true
theorem MapOk.nil {P : Program} {kt : TypeId} {ek : κ → AV} : MapOk P kt ek ([] : List (κ × ν)) := ⟨by simp, by simp⟩
variable {P : Program} {kt vt : TypeId} {ek : κ → AV} {ev : ν → AV} {z : ν}
theorem rep_ent (B : MapT P kt vt ek ev z) {m : List (κ × ν)} {arr : Array MapEntry} {clock : Nat} (h : MapRep (m.map (entE ek ev)) arr clock) (i : Nat) (e : MapEntry) (he : arr.toList[i]? = some e) :
    ∃ p, m[i]? = some p ∧ e.key = valK (ek p.1) ∧ e.val = valK (ev p.2) := by
  obtain ⟨h1, h2, h3⟩ := h
  have hi : i < arr.size := by simpa using (List.getElem?_eq_some_iff.1 he).1
  simp only [List.length_map] at h1
  have hm : m[i]? = some m[i] := List.getElem?_eq_getElem (by omega)
  obtain ⟨x, hx, k1, k2⟩ := h2 i (entE ek ev m[i]) (by simp [hm])
  rw [← Array.getElem?_toList, he] at hx
  cases hx
  exact ⟨m[i], hm, valK_of k1 (B.pk _), valK_of k2 (B.pv _)⟩

theorem find_run (B : MapT P kt vt ek ev z) {m : List (κ × ν)} {arr : Array MapEntry} {clock : Nat} (h : MapRep (m.map (entE ek ev)) arr clock) (M : MapOk P kt ek m) {x : κ} (hx : (keyOf P kt (valK (ek x))).isSome = true) (w : World) :
    ((Instr.findKey kt (valK (ek x)) arr.toList).run P w = .ok none w ∧ x ∉ m.map Prod.fst) ∨
    ∃ (j : Nat) (p : κ × ν) (e : MapEntry), (Instr.findKey kt (valK (ek x)) arr.toList).run P w = .ok (some (j, e.val)) w ∧ m[j]? = some p ∧ arr.toList[j]? = some e ∧ p.1 = x ∧ e.val = valK (ev p.2) ∧ e.key = valK (ek x) := by
  obtain ⟨lx, hlx⟩ := Option.isSome_iff_exists.1 hx
  have hall : ∀ e ∈ arr.toList, ∃ l, keyOf P kt e.key = some l := by
    intro e he
    obtain ⟨i, hi, rfl⟩ := List.getElem_of_mem he
    obtain ⟨p, hp, k1, _⟩ := rep_ent B h i _ (List.getElem?_eq_getElem hi)
    rw [k1]
    exact Option.isSome_iff_exists.1 (M.wf p.1 (List.mem_map.2 ⟨p, List.mem_of_getElem? hp, rfl⟩))
  rcases B.keyed.find w hlx arr.toList hall with ⟨h1, h2⟩ | ⟨j, e, h1, h2, h3⟩
  · refine .inl ⟨h1, fun hm => ?_⟩
    obtain ⟨p, hp, hpx⟩ := List.mem_map.1 hm
    obtain ⟨i, hi, hpi⟩ := List.getElem_of_mem hp
    have hia : i < arr.toList.length := by have := h.1; simp at this ⊢; omega
    obtain ⟨q, hq, k1, _⟩ := rep_ent B h i _ (List.getElem?_eq_getElem hia)
    rw [List.getElem?_eq_getElem hi] at hq
    cases hq
    exact h2 _ (List.getElem_mem hia) (by rw [k1, hpi, hpx])
  · obtain ⟨p, hp, k1, k2⟩ := rep_ent B h j e h2
    exact .inr ⟨j, p, e, h1, hp, h2, B.inj _ _ (by rw [← k1, h3]), k2, h3⟩

end

section
variable {κ ν : Type} [DecidableEq κ]
/-- What is known of a key. -/
def getM : List (κ × ν) → κ → Option ν
  | [], _ => none
  | (k, v) :: r, x => if k = x then some v else getM r x
/-- An element laid under a key. -/
def putM : List (κ × ν) → κ → ν → List (κ × ν)
  | [], x, y => [(x, y)]
  | (k, v) :: r, x, y => if k = x then (k, y) :: r else (k, v) :: putM r x y
theorem getM_putM (m : List (κ × ν)) (x : κ) (y : ν) (z : κ) : getM (putM m x y) z = if x = z then some y else getM m z := by
  induction m with
  | nil => simp [putM, getM]
  | cons p r ih =>
    obtain ⟨k, v⟩ := p
    simp only [putM]
    by_cases h : k = x
    · subst h
      rw [if_pos rfl]
      simp only [getM]
      by_cases hz : k = z
      · simp [hz]
      · simp [hz]
    · rw [if_neg h]
      simp only [getM, ih]
      by_cases hz : k = z
      · subst hz
        have : x ≠ k := fun e => h e.symm
        simp [this]
      · simp [hz]
theorem getM_none {m : List (κ × ν)} {x : κ} (h : x ∉ m.map Prod.fst) : getM m x = none := by
  induction m with
  | nil => rfl
  | cons p r ih =>
    simp only [List.map_cons, List.mem_cons, not_or] at h
    have hne : ¬ p.1 = x := fun e => h.1 e.symm
    simp only [getM, if_neg hne]
    exact ih h.2
theorem getM_at {m : List (κ × ν)} (hn : (m.map Prod.fst).Nodup) {j : Nat} {p : κ × ν} (h : m[j]? = some p) : getM m p.1 = some p.2 := by
  induction m generalizing j with
  | nil => simp at h
  | cons q r ih =>
    simp only [List.map_cons, List.nodup_cons] at hn
    cases j with
    | zero => simp at h; subst h; simp [getM]
    | succ j =>
      simp at h
      have hm : p.1 ∈ r.map Prod.fst := List.mem_map.2 ⟨p, List.mem_of_getElem? h, rfl⟩
      simp only [getM]
      rw [if_neg (fun e => hn.1 (by rw [e]; exact hm))]
      exact ih hn.2 h
theorem putM_new {m : List (κ × ν)} {x : κ} {y : ν} (h : x ∉ m.map Prod.fst) : putM m x y = m ++ [(x, y)] := by
  induction m with
  | nil => rfl
  | cons p r ih =>
    simp only [List.map_cons, List.mem_cons, not_or] at h
    have hne : ¬ p.1 = x := fun e => h.1 e.symm
    simp only [putM, if_neg hne, ih h.2, List.cons_append]
theorem putM_at {m : List (κ × ν)} (hn : (m.map Prod.fst).Nodup) {j : Nat} {p : κ × ν} {y : ν} (h : m[j]? = some p) : putM m p.1 y = m.set j (p.1, y) := by
  induction m generalizing j with
  | nil => simp at h
  | cons q r ih =>
    simp only [List.map_cons, List.nodup_cons] at hn
    cases j with
    | zero => simp at h; subst h; simp [putM]
    | succ j =>
      simp at h
      have hm : p.1 ∈ r.map Prod.fst := List.mem_map.2 ⟨p, List.mem_of_getElem? h, rfl⟩
      simp only [putM]
      rw [if_neg (fun e => hn.1 (by rw [e]; exact hm)), ih hn.2 h, List.set_cons_succ]
theorem putM_keys (m : List (κ × ν)) (x : κ) (y : ν) (z : κ) : z ∈ (putM m x y).map Prod.fst ↔ z = x ∨ z ∈ m.map Prod.fst := by
  induction m with
  | nil => simp [putM]
  | cons p r ih =>
    simp only [putM]
    by_cases h : p.1 = x
    · rw [if_pos h]; simp [h]
    · rw [if_neg h]
      simp only [List.map_cons, List.mem_cons, ih]
      constructor <;> rintro (h | h | h) <;> simp [h]
theorem putM_nodup {m : List (κ × ν)} (hn : (m.map Prod.fst).Nodup) (x : κ) (y : ν) : ((putM m x y).map Prod.fst).Nodup := by
  induction m with
  | nil => simp [putM]
  | cons p r ih =>
    simp only [List.map_cons, List.nodup_cons] at hn
    simp only [putM]
    by_cases h : p.1 = x
    · rw [if_pos h]; simpa using hn
    · rw [if_neg h]
      simp only [List.map_cons, List.nodup_cons]
      refine ⟨fun hm => ?_, ih hn.2⟩
      rcases (putM_keys r x y p.1).1 hm with e | e
      · exact h e
      · exact hn.1 e

theorem MapOk.put {P : Program} {kt : TypeId} {ek : κ → AV} {m : List (κ × ν)} (h : MapOk P kt ek m) {x : κ} (hx : (keyOf P kt (valK (ek x))).isSome = true) (y : ν) : MapOk P kt ek (putM m x y) :=
  ⟨putM_nodup h.nd x y, fun k hk => by
    rcases (putM_keys m x y k).1 hk with rfl | e
    · exact hx
    · exact h.wf k e⟩

variable {P : Program} {kt vt : TypeId} {ek : κ → AV} {ev : ν → AV} {z : ν}

def lookR (ev : ν → AV) (z : ν) (ok : Bool) (r : Option ν) : AV := if ok then .tup [ev (r.getD z), .bool r.isSome] else ev (r.getD z)

theorem zero_run {T : TypeId} {v : Value} (hz : zeroOf P T = some v) (w : World) : (zeroValue T).run P w = .ok v w := by
  unfold zeroOf at hz
  obtain ⟨i, hi, hz⟩ := Option.bind_eq_some_iff.1 hz
  simp [zeroValue, typeInfo, hi, hz]

theorem look_run (B : MapT P kt vt ek ev z) {m : List (κ × ν)} {arr : Array MapEntry} {clock : Nat} (h : MapRep (m.map (entE ek ev)) arr clock) (M : MapOk P kt ek m) {x : κ} (hx : (keyOf P kt (valK (ek x))).isSome = true)
    {w : World} {b : Nat} (hb : w.heap[b]? = some (.map arr clock)) {t : TypeId} (ht : P.underlying t = some (.map kt vt)) (ok : Bool) :
    ∃ v, (Instr.lookup t (.map (some b)) (valK (ek x)) ok).run P w = .ok v w ∧ ∀ γ L, RV γ L (lookR ev z ok (getM m x)) v := by
  obtain ⟨lx, hlx⟩ := Option.isSome_iff_exists.1 hx
  have two : ∀ (y : ν) (f : Bool) γ L, RV γ L (.tup [ev y, .bool f]) (.tuple #[valK (ev y), .bool f]) := fun y f γ L =>
    .tup _ _ rfl (fun i x hx => by
      match i, hx with
      | 0, hx => simp at hx; subst hx; exact rv_valK (B.pv _)
      | 1, hx => simp at hx; subst hx; exact .bool _
      | i + 2, hx => simp at hx)
  rcases find_run B h M hx w with ⟨h1, h2⟩ | ⟨j, p, e, h1, h2, h3, rfl, h4, h5⟩
  · rw [getM_none h2]
    refine ⟨if ok then .tuple #[valK (ev z), .bool false] else valK (ev z), by simp [Instr.lookup, run_underlying ht, MapKept.run_getObj_map hb, B.keyed.check w _ hlx, h1, zero_run B.zero, Result.andThen], fun γ L => ?_⟩
    cases ok
    · exact rv_valK (B.pv _)
    · exact two z false γ L
  · rw [getM_at M.nd h2]
    refine ⟨if ok then .tuple #[valK (ev p.2), .bool true] else valK (ev p.2), by simp [Instr.lookup, run_underlying ht, MapKept.run_getObj_map hb, B.keyed.check w _ hlx, h1, h4, Result.andThen], fun γ L => ?_⟩
    cases ok
    · exact rv_valK (B.pv _)
    · exact two p.2 true γ L

theorem put_run (B : MapT P kt vt ek ev z) {m : List (κ × ν)} {arr : Array MapEntry} {clock : Nat} (h : MapRep (m.map (entE ek ev)) arr clock) (M : MapOk P kt ek m) {x : κ} (hx : (keyOf P kt (valK (ek x))).isSome = true)
    {w : World} {b : Nat} (hb : w.heap[b]? = some (.map arr clock)) {t : TypeId} (ht : P.underlying t = some (.map kt vt)) (y : ν) :
    ∃ arr' clock', (Instr.mapUpdate t (.map (some b)) (valK (ek x)) (valK (ev y))).run P w = .ok () (setBlock w b (.map arr' clock')) ∧ MapRep ((putM m x y).map (entE ek ev)) arr' clock' := by
  obtain ⟨lx, hlx⟩ := Option.isSome_iff_exists.1 hx
  obtain ⟨r1, r2, r3⟩ := h
  simp only [List.length_map] at r1
  rcases find_run B ⟨by simpa using r1, r2, r3⟩ M hx w with ⟨h1, h2⟩ | ⟨j, p, e, h1, h2, h3, rfl, h4, h5⟩
  · refine ⟨arr.push ⟨valK (ek x), valK (ev y), clock⟩, clock + 1, by simp [Instr.mapUpdate, run_underlying ht, MapKept.run_getObj_map hb, B.keyed.check w _ hlx, h1, MapKept.run_setObj_map _ hb, Result.andThen, setBlock], ?_⟩
    rw [putM_new h2]
    refine ⟨by simp [r1], fun i e he => ?_, fun q hq => ?_⟩
    · rw [List.map_append] at he
      by_cases hi : i < m.length
      · rw [List.getElem?_append_left (by simpa using hi)] at he
        obtain ⟨q, hq, k1, k2⟩ := r2 i e he
        exact ⟨q, by rw [Array.getElem?_push_lt (by omega)]; rw [← hq, Array.getElem?_eq_getElem (by omega)], k1, k2⟩
      · have hi2 : i = m.length := by
          have := (List.getElem?_eq_some_iff.1 he).1
          simp at this; omega
        subst hi2
        rw [List.getElem?_append_right (by simp)] at he
        simp at he
        subst he
        exact ⟨⟨valK (ek x), valK (ev y), clock⟩, by rw [← r1]; simp, rv_valK (B.pk x), rv_valK (B.pv y)⟩
    · rcases Array.mem_push.1 hq with hq | rfl
      · have := r3 q hq; omega
      · exact Nat.lt_succ_self _
  · have hj : arr[j]? = some e := by rw [← Array.getElem?_toList]; exact h3
    have hjl := (Array.getElem?_eq_some_iff.1 hj).1
    have hstay := B.keyed.stays w hlx
    refine ⟨arr.modify j (fun e' => { e' with key := valK (ek p.1), val := valK (ev y) }), clock, by simp [Instr.mapUpdate, run_underlying ht, MapKept.run_getObj_map hb, B.keyed.check w _ hlx, h1, hj, h5, hstay, MapKept.run_setObj_map _ hb, Result.andThen, setBlock], ?_⟩
    rw [putM_at M.nd h2]
    refine ⟨by simp [r1], fun i q hq => ?_, fun q hq => ?_⟩
    · rw [List.map_set] at hq
      by_cases hi : j = i
      · subst hi
        rw [List.getElem?_set_self (by simp; omega)] at hq
        cases hq
        refine ⟨{ e with key := valK (ek p.1), val := valK (ev y) }, ?_, rv_valK (B.pk _), rv_valK (B.pv _)⟩
        rw [Array.getElem?_modify, hj]; simp
      · rw [List.getElem?_set_ne hi] at hq
        obtain ⟨q', hq', k1, k2⟩ := r2 i q hq
        refine ⟨q', ?_, k1, k2⟩
        rw [Array.getElem?_modify, hq', if_neg hi]
    · obtain ⟨i, hi, rfl⟩ := Array.getElem_of_mem hq
      simp only [Array.size_modify] at hi
      rw [Array.getElem_modify]
      have := r3 _ (Array.getElem_mem (xs := arr) (i := i) hi)
      split <;> exact this

/-- Looking a key up in a map of the call's own. -/
theorem look_sound (B : MapT P kt vt ek ev z) {o : Oper} {s : St} {t : TypeId} {xm xi : Operand} {ok : Bool} {id : Nat} {m : List (κ × ν)} {x : κ} (ho : o.op = .lookup t xm xi ok) (hm : s.ev xm = .map id) (hi : s.ev xi = ek x)
    (hL : s.L[id]? = some (mapO kt vt ek ev m)) (ht : P.underlying t = some (.map kt vt)) (M : MapOk P kt ek m) (hx : (keyOf P kt (valK (ek x))).isSome = true) : OpS P o s (s.put o.dst (lookR ev z ok (getM m x))) := by
  refine OpS.pure fun γ a w hr => ?_
  have h1 := hr.ev xm
  have h2 := hr.ev xi
  rw [hm] at h1
  rw [hi] at h2
  generalize hvm : a.eval xm = vm at h1
  have e2 := valK_of h2 (B.pk x)
  cases h1 with
  | map _ b c kt' vt' es hL' hb =>
    obtain ⟨ob, hob, hrep⟩ := hr.inv.ow _ _ _ _ hb
    unfold BlockRep at hrep
    rw [hL] at hrep
    obtain ⟨_, arr, clock, rfl, hrep⟩ := hrep
    obtain ⟨v, hv, hrv⟩ := look_run B hrep M hx hob ht ok
    exact ⟨v, by simp [execOp, ho, hvm, e2, hv], hrv _ _⟩

/-- Laying an element under a key. -/
theorem put_sound (B : MapT P kt vt ek ev z) {o : Oper} {s : St} {t : TypeId} {xm xi xv : Operand} {id : Nat} {m : List (κ × ν)} {x : κ} {y : ν} (ho : o.op = .mapUpdate t xm xi xv) (hm : s.ev xm = .map id) (hi : s.ev xi = ek x) (hv : s.ev xv = ev y)
    (hL : s.L[id]? = some (mapO kt vt ek ev m)) (ht : P.underlying t = some (.map kt vt)) (M : MapOk P kt ek m) (hx : (keyOf P kt (valK (ek x))).isSome = true) : OpS P o s ({ s with L := s.L.set id (mapO kt vt ek ev (putM m x y)) }.put o.dst .junk) := by
  intro γ a w K Q hr hK
  refine .inl ?_
  have h1 := hr.ev xm
  have h2 := hr.ev xi
  have h3 := hr.ev xv
  rw [hm] at h1
  rw [hi] at h2
  rw [hv] at h3
  generalize hvm : a.eval xm = vm at h1
  have e2 := valK_of h2 (B.pk x)
  have e3 := valK_of h3 (B.pv y)
  cases h1 with
  | map _ b c kt' vt' es hL' hb =>
    obtain ⟨ob, hob, hrep⟩ := hr.inv.ow _ _ _ _ hb
    unfold BlockRep at hrep
    rw [hL] at hrep
    obtain ⟨_, arr, clock, rfl, hrep⟩ := hrep
    obtain ⟨arr', clock', hrun, hrep'⟩ := put_run B hrep M hx hob ht y
    have hlt := (List.getElem?_eq_some_iff.1 hL).1
    obtain ⟨E, hI, hS⟩ := hr.inv.write (x' := mapO kt vt ek ev (putM m x y)) (w' := setBlock w b (.map arr' clock')) (o' := .map arr' clock') hb hL ⟨rfl, rfl⟩
      ⟨fun _ _ h => (by cases h), fun _ _ _ _ => ⟨_, _, _, rfl⟩⟩ (fun k hk => heap_setBlock_other hob _ hk) (heap_setBlock_same hob _) (by simp [setBlock]) rfl rfl rfl
      (fun E => by
        unfold BlockRep
        rw [List.getElem?_set_self hlt]
        exact ⟨rfl, _, _, rfl, hrep'⟩)
      (fun E b2 p2 c2 o2 hne hb2 hr2 => by
        exfalso
        unfold BlockRep at hr2
        simp only [hL, mapO] at hr2
        obtain ⟨rfl, _⟩ := hr2
        exact hne (hr.inv.inj _ _ _ _ _ _ hb2 hb))
    unfold Oper.wp execOp
    rw [ho]
    simp only [hvm, e2, e3, Sem.run_bind, hrun, Result.andThen_ok, Sem.run_pure]
    refine hK _ _ _ ((hr.mono E hI).put o.dst (.junk _)) (by rw [St.put_L]; exact E) hS

/-- A new map. -/
theorem make_sound_map {o : Oper} {s : St} {t : TypeId} (kt vt : TypeId) (ho : o.op = .makeMap t none) : OpS P o s ({ s with L := s.L ++ [AObj.map kt vt []] }.put o.dst (.map s.L.length)) := by
  intro γ a w K Q hr hK
  refine .inl ?_
  have hA := hr.inv.allocObj (.map #[] 0) (AObj.map kt vt []) 0 (fun E => by
    unfold BlockRep
    simp only [List.getElem?_append_right (Nat.le_refl _), Nat.sub_self, List.getElem?_cons_zero]
    exact ⟨trivial, _, _, rfl, by simp, by simp, by simp⟩)
  obtain ⟨E, hI, hS⟩ := hA
  unfold Oper.wp execOp
  rw [ho]
  have hrun : (Instr.makeMap t none).run P w = .ok (.map (some w.heap.size)) (w.alloc (.map #[] 0)) := rfl
  simp only [Option.map_none, Sem.run_bind, hrun, Result.andThen_ok, Sem.run_pure]
  refine hK _ _ _ ((hr.mono E hI).put o.dst (.map _ w.heap.size 0 kt vt [] ?_ ?_)) (by rw [St.put_L]; exact E) hS
  · simp
  · simp [newG]

theorem RunL.look (B : MapT P kt vt ek ev z) {k : Oper → Knd} {ops : Array Oper} {K : St → Prop} {o : Oper} {rest : List Oper} {s : St} {t : TypeId} {xm xi : Operand} {ok : Bool} {id : Nat} (m : List (κ × ν)) (x : κ)
    (hg : guardA ops s o = some true) (ho : o.op = .lookup t xm xi ok) (hm : s.ev xm = .map id) (hi : s.ev xi = ek x)
    (hL : s.L[id]? = some (mapO kt vt ek ev m)) (ht : P.underlying t = some (.map kt vt)) (M : MapOk P kt ek m) (hx : (keyOf P kt (valK (ek x))).isSome = true) (hkd : Knd.le .C (k o) = true)
    (hk : R P k ops rest (s.put o.dst (lookR ev z ok (getM m x))) K) : RunL P k ops (o :: rest) s K := by
  refine .op ⟨.C, lookR ev z ok (getM m x), s.L⟩ hkd ⟨⟨fun h _ => ⟨[], by simp⟩, fun h => (nomatch h)⟩, fun s1 ha hL1 => ⟨by rw [agree_guard ha]; exact hg, ?_⟩⟩ (R.sound hk)
  have hL1 : s1.L = s.L := hL1
  have e1 : s1.ev xm = .map id := by rw [agree_ev ha (by rw [ho]; simp [Op.operands]), hm]
  have e2 : s1.ev xi = ek x := by rw [agree_ev ha (by rw [ho]; simp [Op.operands]), hi]
  have := look_sound (P := P) (s := s1) B ho e1 e2 (by rw [hL1]; exact hL) ht M hx
  simp only [Sd.app]
  rw [← hL1]
  exact this

theorem RunL.put (B : MapT P kt vt ek ev z) {k : Oper → Knd} {ops : Array Oper} {K : St → Prop} {o : Oper} {rest : List Oper} {s : St} {t : TypeId} {xm xi xv : Operand} {id : Nat} (m : List (κ × ν)) (x : κ) (y : ν)
    (hg : guardA ops s o = some true) (ho : o.op = .mapUpdate t xm xi xv) (hm : s.ev xm = .map id) (hi : s.ev xi = ek x) (hv : s.ev xv = ev y)
    (hL : s.L[id]? = some (mapO kt vt ek ev m)) (ht : P.underlying t = some (.map kt vt)) (M : MapOk P kt ek m) (hx : (keyOf P kt (valK (ek x))).isSome = true) (hkd : Knd.le .C (k o) = true)
    (hk : R P k ops rest ({ s with L := s.L.set id (mapO kt vt ek ev (putM m x y)) }.put o.dst .junk) K) : RunL P k ops (o :: rest) s K := by
  have hal : isAlloc k o = false := by unfold isAlloc; rw [ho]
  refine .op ⟨.C, .junk, s.L.set id (mapO kt vt ek ev (putM m x y))⟩ hkd ⟨⟨fun h _ => (by rw [hal] at h; cases h), fun h => (nomatch h)⟩, fun s1 ha hL1 => ⟨by rw [agree_guard ha]; exact hg, ?_⟩⟩ (R.sound hk)
  have hL1 : s1.L = s.L := hL1
  have e1 : s1.ev xm = .map id := by rw [agree_ev ha (by rw [ho]; simp [Op.operands]), hm]
  have e2 : s1.ev xi = ek x := by rw [agree_ev ha (by rw [ho]; simp [Op.operands]), hi]
  have e3 : s1.ev xv = ev y := by rw [agree_ev ha (by rw [ho]; simp [Op.operands]), hv]
  have := put_sound (P := P) (s := s1) B ho e1 e2 e3 (by rw [hL1]; exact hL) ht M hx
  simp only [Sd.app]
  rw [← hL1]
  exact this

theorem RunL.newMap {k : Oper → Knd} {ops : Array Oper} {K : St → Prop} {o : Oper} {rest : List Oper} {s : St} {t : TypeId} (kt vt : TypeId)
    (hg : guardA ops s o = some true) (ho : o.op = .makeMap t none) (hkd : Knd.le .C (k o) = true)
    (hk : R P k ops rest ({ s with L := s.L ++ [AObj.map kt vt []] }.put o.dst (.map s.L.length)) K) : RunL P k ops (o :: rest) s K := by
  refine .op ⟨.C, .map s.L.length, s.L ++ [AObj.map kt vt []]⟩ hkd ⟨⟨fun h _ => ⟨_, rfl⟩, fun h => (nomatch h)⟩, fun s1 ha hL1 => ⟨by rw [agree_guard ha]; exact hg, ?_⟩⟩ (R.sound hk)
  have hL1 : s1.L = s.L := hL1
  have := make_sound_map (P := P) (s := s1) kt vt ho
  simp only [Sd.app]
  rw [← hL1]
  exact this
end

/-! ### keys that are pairs of whole numbers, or whole numbers -/
def ekP (p : Int × Int) : AV := .agg [.int .i64 p.1, .int .i64 p.2]
def ekI (q : IntKind) (n : Int) : AV := .int q n
theorem ekP_inj (a b : Int × Int) (h : valK (ekP a) = valK (ekP b)) : a = b := by
  obtain ⟨a1, a2⟩ := a
  obtain ⟨b1, b2⟩ := b
  simp [valK, ekP, val1] at h
  exact Prod.ext h.1 h.2
theorem ekI_inj (q : IntKind) (a b : Int) (h : valK (ekI q a) = valK (ekI q b)) : a = b := by
  simpa [valK, ekI, val1] using h
theorem mapT_pair {P : Program} {kt vt e : TypeId} (A : WideMaps.ArrKey P kt e 2) {ν : Type} {ev : ν → AV} {z : ν} (hv : ∀ v, plainK (ev v) = true) (ho : ∀ v, (valK (ev v)).oneCell' = true) (hz : zeroOf P vt = some (valK (ev z))) : MapT P kt vt ekP ev z :=
  ⟨Keyed.of_law A.law, fun _ => rfl, hv, ho, ekP_inj, hz⟩
theorem mapT_int {P : Program} {kt vt : TypeId} {q : IntKind} (hk : P.underlying kt = some (.int q)) {ν : Type} {ev : ν → AV} {z : ν} (hv : ∀ v, plainK (ev v) = true) (ho : ∀ v, (valK (ev v)).oneCell' = true) (hz : zeroOf P vt = some (valK (ev z))) : MapT P kt vt (ekI q) ev z :=
  ⟨Maps.int_keyed hk, fun _ => rfl, hv, ho, ekI_inj q, hz⟩
end Go.Proofs.Ytllcljajlemmaaa.K
/-
  A logic of values for Go's functions (part 23): a nil slice in a variable, told as a slice without elements.
-/
namespace Go.Proofs.Ytllcljajlemmaaa.K
set_option linter.unusedVariables false
set_option linter.unusedSimpArgs false
open Go Go.RowKit

theorem AWp.nilS {P : Program} {c : Code} {Q : Exit → St → Prop} {s : St} (id j : Nat) {T0 : TypeId} {cs : List AV} (hL : s.L[id]? = some (.box T0 cs)) (hj : cs[j]? = some (.lit (.slice none 0 0)))
    (h : AWp P c Q ⟨s.t, s.L.set id (.box T0 (cs.set j (.sl false [])))⟩) : AWp P c Q s := by
  intro ro γ a w hp hr
  have hlt := (List.getElem?_eq_some_iff.1 hL).1
  have hE : Ext γ s.L γ (s.L.set id (.box T0 (cs.set j (.sl false [])))) := .set hL ⟨rfl, by simp⟩
  have hI : Inv γ (s.L.set id (.box T0 (cs.set j (.sl false [])))) w := by
    refine ⟨hr.inv.ro, fun b id1 p c hb => ?_, hr.inv.inj, fun id1 T1 cs1 hL1 => ?_, fun id1 kt vt es hL1 => ?_⟩
    · obtain ⟨o, ho, hrep⟩ := hr.inv.ow _ _ _ _ hb
      refine ⟨o, ho, ?_⟩
      by_cases hi : id1 = id
      · subst hi
        unfold BlockRep at hrep ⊢
        simp only [hL] at hrep
        simp only [List.getElem?_set_self hlt]
        obtain ⟨h1, arr, h2, h3, h4⟩ := hrep
        refine ⟨h1, arr, h2, by simpa using h3, fun k x hx => ?_⟩
        by_cases hjk : j = k
        · subst hjk
          have hjl := (List.getElem?_eq_some_iff.1 hj).1
          simp [hjl] at hx
          subst hx
          obtain ⟨v, a1, a2, a3⟩ := h4 j _ hj
          refine ⟨v, a1, a2, ?_⟩
          cases a3
          exact .sl _ _ _ 0 0 0 (fun _ _ => undef) rfl (Nat.le_refl _) (by simp) (by simp) (by simp) (by simp)
        · rw [List.getElem?_set_ne hjk] at hx
          obtain ⟨v, a1, a2, a3⟩ := h4 k x hx
          exact ⟨v, a1, a2, a3.mono hE⟩
      · exact hrep.upd hE (List.getElem?_set_ne (fun e => hi e.symm))
    · by_cases hi2 : id = id1
      · subst hi2; exact hr.inv.box _ _ _ hL
      · rw [List.getElem?_set_ne hi2] at hL1; exact hr.inv.box _ _ _ hL1
    · by_cases hi2 : id = id1
      · subst hi2; simp [hlt] at hL1
      · rw [List.getElem?_set_ne hi2] at hL1; exact hr.inv.map _ _ _ _ hL1
  have hr' := hr.mono hE hI
  refine wpIn_mono (h ro γ a w hp hr') ?_
  rintro e a' w' ⟨γ', s', h1, h2, h3, h4⟩
  exact ⟨γ', s', h1, hE.trans h2, h3, h4⟩

theorem RunL.callp_ex {P : Program} {k : Oper → Knd} {ops : Array Oper} {K : AV → List AObj → St → Prop} {Z : AV → List AObj → Prop} {o : Oper} {rest : List Oper} {s : St} {f : FuncId} {args : Array Operand} {ats : Array TypeId} {r : AV} {xs : List AV}
    (hg : guardA ops s o = some true) (ho : o.op = .call { callee := .value (.func f), args := args, argTypes := ats }) (hf : okFn P f = true)
    (h : Ct P f xs [] r []) (hp : pureL xs = true) (hx : args.toList.map s.ev = xs) (hk : ∃ q L', R P k ops rest (s.put o.dst r) (K q L') ∧ Z q L') : ∃ q L', RunL P k ops (o :: rest) s (K q L') ∧ Z q L' := by
  obtain ⟨q, L', h1, h2⟩ := hk
  exact ⟨q, L', .callp hg ho hf h hp hx h1, h2⟩
theorem AWp.nilS_ex {P : Program} {c : Code} {Kq : AV → List AObj → Exit → St → Prop} {Z : AV → List AObj → Prop} {s : St} (id j : Nat) {T0 : TypeId} {cs : List AV} (hL : s.L[id]? = some (.box T0 cs)) (hj : cs[j]? = some (.lit (.slice none 0 0)))
    (h : ∃ r L', AWp P c (Kq r L') ⟨s.t, s.L.set id (.box T0 (cs.set j (.sl false [])))⟩ ∧ Z r L') : ∃ r L', AWp P c (Kq r L') s ∧ Z r L' := by
  obtain ⟨r, L', h1, h2⟩ := h
  exact ⟨r, L', AWp.nilS id j hL hj h1, h2⟩

end Go.Proofs.Ytllcljajlemmaaa.K
/-
  Lists of whole numbers: their sizes, their copies, compared, marked, found again.
-/
namespace Go.Proofs.Ytllcljajlemmaaa
open Go K
set_option linter.unusedSimpArgs false
set_option linter.unusedVariables false
set_option maxHeartbeats 1600000
set_option maxRecDepth 8000

theorem ints_pure : ∀ l : List Int, pureL (ints l) = true
  | [] => rfl
  | x :: r => by
    have := ints_pure r
    simp only [ints, List.map_cons, pureL, pureB, Bool.true_and] at this ⊢
    exact this
theorem ints_get (d r : List Int) (x : Int) : (ints (d ++ x :: r))[d.length]? = some (.int .i64 x) := by simp
theorem i64_id {x : Int} (h1 : -9223372036854775808 ≤ x) (h2 : x < 9223372036854775808) : IntKind.i64.wrap x = x := w64_id h1 (by omega)

/-- The room that is left behind a list. -/
def szN (n : Nat) (l : Int) : Int := if l - n < 0 then -1 else l - n
theorem szIntS_ok (l : List Int) (k : Int) (hl : l.length ≤ 9223372036854775807) (h0 : 0 ≤ k) (h1 : k ≤ 1048576) : Ct Try.prog 89 [.sl false (ints l), .int .i64 k] [] (.int .i64 (szN l.length k)) [] := by
  have hw : IntKind.i64.wrap (k - (l.length : Int)) = k - l.length := i64_id (by omega) (by omega)
  refine Ct.by_ hmix [] Try.func89 rfl ?_
  simp only [run0, run1, run2, run3, run4, run5, run6, run7, run8, run9, run10, run11, run12, run13, run14, run15, run16, run17, run18, run19, run20, run21, run22, reduceCtorEq, Nat.reduceEqDiff, Nat.reduceAdd, Nat.reduceSub, Nat.reduceLeDiff, indexAddrA, indexRefA, appendA, strA, Nat.reduceMul, Nat.zero_mul, Nat.reduceMod, Int.reduceEq, Int.reduceLT, Int.reduceLE, Nat.reduceLT, Nat.lt_irrefl, Nat.reduceBEq, tys0, tys1, tys2, tys3, tys4, tys5, tys6, tys7, tys8, tys9, tys10, tys11, tys12, tys13, tys14, tys15, tys16, tys17, tys18, tys19, tys20, tys21, tys22, tys23, Try.ntmps89, Try.results89, hw, List.length_map]
  by_cases h2 : k - (l.length : Int) < 0
  · simp only [run0, run1, run2, run3, run4, run5, run6, run7, run8, run9, run10, run11, run12, run13, run14, run15, run16, run17, run18, run19, run20, run21, run22, reduceCtorEq, Nat.reduceEqDiff, Nat.reduceAdd, Nat.reduceSub, Nat.reduceLeDiff, indexAddrA, indexRefA, appendA, strA, Nat.reduceMul, Nat.zero_mul, Nat.reduceMod, Int.reduceEq, Int.reduceLT, Int.reduceLE, Nat.reduceLT, Nat.lt_irrefl, Nat.reduceBEq, tys0, tys1, tys2, tys3, tys4, tys5, tys6, tys7, tys8, tys9, tys10, tys11, tys12, tys13, tys14, tys15, tys16, tys17, tys18, tys19, tys20, tys21, tys22, tys23, Try.ntmps89, Try.results89, h2]
    exact Fin.eq (by simp [szN, h2]) rfl
  · simp only [run0, run1, run2, run3, run4, run5, run6, run7, run8, run9, run10, run11, run12, run13, run14, run15, run16, run17, run18, run19, run20, run21, run22, reduceCtorEq, Nat.reduceEqDiff, Nat.reduceAdd, Nat.reduceSub, Nat.reduceLeDiff, indexAddrA, indexRefA, appendA, strA, Nat.reduceMul, Nat.zero_mul, Nat.reduceMod, Int.reduceEq, Int.reduceLT, Int.reduceLE, Nat.reduceLT, Nat.lt_irrefl, Nat.reduceBEq, tys0, tys1, tys2, tys3, tys4, tys5, tys6, tys7, tys8, tys9, tys10, tys11, tys12, tys13, tys14, tys15, tys16, tys17, tys18, tys19, tys20, tys21, tys22, tys23, Try.ntmps89, Try.results89, h2]
    exact Fin.eq (by simp [szN, h2]) rfl

/-- A row of whole numbers, and zeros behind it. -/
abbrev intsZ (d : List Int) (n : Nat) : List AV := ints d ++ List.replicate n (.int .i64 0)
theorem intsZ_noOwn (d : List Int) (n : Nat) : noOwn (intsZ d n) = true := by
  refine List.all_eq_true.2 fun e he => ?_
  rcases List.mem_append.1 he with he | he
  · exact List.all_eq_true.1 (ints_noOwn d) e he
  · rw [(List.mem_replicate.1 he).2]; rfl
theorem Vw_intR {L : List AObj} {id g n : Nat} {T : TypeId} {es : List AV} {l : List Int} {o : Bool} (hL : L[id]? = some (.vec T 1 g es)) (he : es = ints l) (hn : n = l.length) : Vw L (.ref id [] g n) (.sl o (ints l)) := by
  subst he hn
  have := Vw.refPur (o := o) hL (n := l.length) (by simp) (fun e he c hc => by
    obtain ⟨y, _, rfl⟩ := List.mem_map.1 he
    simp only [AV.cells, List.mem_cons, List.not_mem_nil, or_false] at hc
    subst hc
    exact ⟨.int _ _, fun xs h => by cases h⟩)
  rwa [List.take_of_length_le (by simp)] at this

/-- A copy as a row of the call's own. -/
theorem toIntS_own (l : List Int) (hl : l.length ≤ 1048576) : Ct Try.prog 92 [.sl false (ints l)] [] (.ref 0 [] 0 l.length) [.vec 3 1 0 (ints l)] := by
  have b0 : (l.length : Int) ≤ 137438953472 := by omega
  have b1 : (l.length : Int) ≤ 17592186044416 := by omega
  refine Ct.by_ hmix [] Try.func92 rfl ?_
  simp only [run0, run1, run2, run3, run4, run5, run6, run7, run8, run9, run10, run11, run12, run13, run14, run15, run16, run17, run18, run19, run20, run21, run22, reduceCtorEq, Nat.reduceEqDiff, Nat.reduceAdd, Nat.reduceSub, Nat.reduceLeDiff, indexAddrA, indexRefA, appendA, strA, Nat.reduceMul, Nat.zero_mul, Nat.reduceMod, Int.reduceEq, Int.reduceLT, Int.reduceLE, Nat.reduceLT, Nat.lt_irrefl, Nat.reduceBEq, tys0, tys1, tys2, tys3, tys4, tys5, tys6, tys7, tys8, tys9, tys10, tys11, tys12, tys13, tys14, tys15, tys16, tys17, tys18, tys19, tys20, tys21, tys22, tys23, Try.ntmps92, Try.results92, b0, b1, List.length_map, Int.natCast_nonneg, Int.le_refl, Int.toNat_natCast]
  refine AWp.loop_inv (ι := List Int × List Int) (fun p => ⟨[.sl false (ints l), .junk, .junk, .ref 0 [] 0 l.length, .int .i64 p.1.length, .junk, .junk, .junk, .junk, .junk, .junk, .junk, .junk, .junk, .junk, .junk, .junk, .junk, .junk, .junk, .junk, .junk], [.vec 3 1 0 (intsZ p.1 p.2.length)]⟩)
    (fun p => l = p.1 ++ p.2) (fun p => p.2.length) ([], l) rfl ⟨by simp only [List.length_nil, Int.natCast_zero]; repeat constructor, rfl⟩ ?_
  rintro ⟨d, r⟩ ha
  refine W.sound hmix (E := []) ?_
  simp only at ha
  have hda : d.length + r.length = l.length := by rw [ha, List.length_append]
  cases r with
  | nil =>
    have e1 : ¬ ((d.length : Int) < (l.length : Int)) := by simp at hda; omega
    simp only [run0, run1, run2, run3, run4, run5, run6, run7, run8, run9, run10, run11, run12, run13, run14, run15, run16, run17, run18, run19, run20, run21, run22, reduceCtorEq, Nat.reduceEqDiff, Nat.reduceAdd, Nat.reduceSub, Nat.reduceLeDiff, indexAddrA, indexRefA, appendA, strA, Nat.reduceMul, Nat.zero_mul, Nat.reduceMod, Int.reduceEq, Int.reduceLT, Int.reduceLE, Nat.reduceLT, Nat.lt_irrefl, Nat.reduceBEq, tys0, tys1, tys2, tys3, tys4, tys5, tys6, tys7, tys8, tys9, tys10, tys11, tys12, tys13, tys14, tys15, tys16, tys17, tys18, tys19, tys20, tys21, tys22, tys23, Try.ntmps92, Try.results92, e1, List.length_map]
    have hd : d = l := by rw [ha, List.append_nil]
    subst hd
    exact Fin.own (by simp) rfl
  | cons e r =>
    simp only [List.length_cons] at hda
    have e1 : (d.length : Int) < (l.length : Int) := by omega
    have e2 : (ints l)[d.length]? = some (.int .i64 e) := by rw [ha]; exact ints_get d r e
    have e5 : IntKind.i64.wrap ((d.length : Int) + 1) = ((d ++ [e]).length : Int) := by rw [i64_id (by omega) (by omega)]; simp
    have hle : (ints d).length = d.length := by simp
    have e6 : (intsZ d (r.length + 1))[d.length]? = some (.int .i64 0) := by simp [intsZ, List.replicate_succ]
    have e7 : noOwn (intsZ d (r.length + 1)) = true := intsZ_noOwn d (r.length + 1)
    have e8 : (intsZ d (r.length + 1)).set d.length (.int .i64 e) = intsZ (d ++ [e]) r.length := by
      unfold intsZ
      rw [List.set_append_right _ _ (by simp)]; simp [List.replicate_succ]
    simp only [run0, run1, run2, run3, run4, run5, run6, run7, run8, run9, run10, run11, run12, run13, run14, run15, run16, run17, run18, run19, run20, run21, run22, reduceCtorEq, Nat.reduceEqDiff, Nat.reduceAdd, Nat.reduceSub, Nat.reduceLeDiff, indexAddrA, indexRefA, appendA, strA, Nat.reduceMul, Nat.zero_mul, Nat.reduceMod, Int.reduceEq, Int.reduceLT, Int.reduceLE, Nat.reduceLT, Nat.lt_irrefl, Nat.reduceBEq, tys0, tys1, tys2, tys3, tys4, tys5, tys6, tys7, tys8, tys9, tys10, tys11, tys12, tys13, tys14, tys15, tys16, tys17, tys18, tys19, tys20, tys21, tys22, tys23, Try.ntmps92, Try.results92, List.length_map, e1, e2, e5, e6, e7, e8, Int.toNat_natCast, Int.natCast_nonneg]
    exact ⟨(d ++ [e], r), by simp [ha], by simp, by simp only [List.length_append, List.length_cons, List.length_nil]; repeat constructor, rfl⟩
theorem toIntS_ok (l : List Int) (hl : l.length ≤ 1048576) : Ct Try.prog 92 [.sl false (ints l)] [] (.sl false (ints l)) [] := (toIntS_own l hl).toV (Vw_intR rfl rfl rfl)

theorem eqIntS_ok (l : List Int) (hl : l.length ≤ 1048576) : Ct Try.prog 97 [.sl false (ints l), .sl false (ints l)] [] (.bool true) [] := by
  refine Ct.by_ hmix [] Try.func97 rfl ?_
  simp only [run0, run1, run2, run3, run4, run5, run6, run7, run8, run9, run10, run11, run12, run13, run14, run15, run16, run17, run18, run19, run20, run21, run22, reduceCtorEq, Nat.reduceEqDiff, Nat.reduceAdd, Nat.reduceSub, Nat.reduceLeDiff, indexAddrA, indexRefA, appendA, strA, Nat.reduceMul, Nat.zero_mul, Nat.reduceMod, Int.reduceEq, Int.reduceLT, Int.reduceLE, Nat.reduceLT, Nat.lt_irrefl, Nat.reduceBEq, tys0, tys1, tys2, tys3, tys4, tys5, tys6, tys7, tys8, tys9, tys10, tys11, tys12, tys13, tys14, tys15, tys16, tys17, tys18, tys19, tys20, tys21, tys22, tys23, Try.ntmps97, Try.results97, bne_self_eq_false, List.length_map]
  refine AWp.loop_inv (ι := List Int × List Int) (fun p => ⟨[.sl false (ints l), .sl false (ints l), .junk, .junk, .bool false, .int .i64 p.1.length, .junk, .junk, .junk, .junk, .junk, .junk, .junk, .junk, .junk, .junk, .junk, .junk, .junk, .junk, .junk, .junk, .junk, .junk, .junk, .junk], []⟩)
    (fun p => l = p.1 ++ p.2) (fun p => p.2.length) ([], l) rfl ⟨by simp only [List.length_nil, Int.natCast_zero]; repeat constructor, rfl⟩ ?_
  rintro ⟨d, r⟩ ha
  refine W.sound hmix (E := []) ?_
  simp only at ha
  have hda : d.length + r.length = l.length := by rw [ha, List.length_append]
  cases r with
  | nil =>
    have e1 : ¬ ((d.length : Int) < (l.length : Int)) := by simp at hda; omega
    simp only [run0, run1, run2, run3, run4, run5, run6, run7, run8, run9, run10, run11, run12, run13, run14, run15, run16, run17, run18, run19, run20, run21, run22, reduceCtorEq, Nat.reduceEqDiff, Nat.reduceAdd, Nat.reduceSub, Nat.reduceLeDiff, indexAddrA, indexRefA, appendA, strA, Nat.reduceMul, Nat.zero_mul, Nat.reduceMod, Int.reduceEq, Int.reduceLT, Int.reduceLE, Nat.reduceLT, Nat.lt_irrefl, Nat.reduceBEq, tys0, tys1, tys2, tys3, tys4, tys5, tys6, tys7, tys8, tys9, tys10, tys11, tys12, tys13, tys14, tys15, tys16, tys17, tys18, tys19, tys20, tys21, tys22, tys23, Try.ntmps97, Try.results97, e1, List.length_map]
    exact Fin.eq rfl rfl
  | cons e r =>
    simp only [List.length_cons] at hda
    have e1 : (d.length : Int) < (l.length : Int) := by omega
    have e2 : (ints l)[d.length]? = some (.int .i64 e) := by rw [ha]; exact ints_get d r e
    have e5 : IntKind.i64.wrap ((d.length : Int) + 1) = ((d ++ [e]).length : Int) := by rw [i64_id (by omega) (by omega)]; simp
    simp only [run0, run1, run2, run3, run4, run5, run6, run7, run8, run9, run10, run11, run12, run13, run14, run15, run16, run17, run18, run19, run20, run21, run22, reduceCtorEq, Nat.reduceEqDiff, Nat.reduceAdd, Nat.reduceSub, Nat.reduceLeDiff, indexAddrA, indexRefA, appendA, strA, Nat.reduceMul, Nat.zero_mul, Nat.reduceMod, Int.reduceEq, Int.reduceLT, Int.reduceLE, Nat.reduceLT, Nat.lt_irrefl, Nat.reduceBEq, tys0, tys1, tys2, tys3, tys4, tys5, tys6, tys7, tys8, tys9, tys10, tys11, tys12, tys13, tys14, tys15, tys16, tys17, tys18, tys19, tys20, tys21, tys22, tys23, Try.ntmps97, Try.results97, List.length_map, e1, e2, Int.toNat_natCast, Int.natCast_nonneg, bne_self_eq_false]
    refine ⟨by kernel_rfl, ?_⟩
    simp only [run0, run1, run2, run3, run4, run5, run6, run7, run8, run9, run10, run11, run12, run13, run14, run15, run16, run17, run18, run19, run20, run21, run22, reduceCtorEq, Nat.reduceEqDiff, Nat.reduceAdd, Nat.reduceSub, Nat.reduceLeDiff, indexAddrA, indexRefA, appendA, strA, Nat.reduceMul, Nat.zero_mul, Nat.reduceMod, Int.reduceEq, Int.reduceLT, Int.reduceLE, Nat.reduceLT, Nat.lt_irrefl, Nat.reduceBEq, tys0, tys1, tys2, tys3, tys4, tys5, tys6, tys7, tys8, tys9, tys10, tys11, tys12, tys13, tys14, tys15, tys16, tys17, tys18, tys19, tys20, tys21, tys22, tys23, Try.ntmps97, Try.results97, e5]
    exact ⟨(d ++ [e], r), by simp [ha], by simp, by simp only [List.length_append, List.length_cons, List.length_nil]; repeat constructor⟩

/-- The marks from 'k' on. -/
def mkI : List Int → Int → List Int
  | [], _ => []
  | _ :: r, k => k :: mkI r (k + 1)
theorem mkI_len : ∀ (l : List Int) (k : Int), (mkI l k).length = l.length
  | [], _ => rfl
  | e :: r, k => by simp [mkI, mkI_len r]
theorem mkI_app : ∀ (d r : List Int) (k : Int), mkI (d ++ r) k = mkI d k ++ mkI r (k + d.length)
  | [], r, k => by simp [mkI]
  | e :: d, r, k => by
    simp only [mkI, List.cons_append, mkI_app d r, List.length_cons]
    rw [show k + 1 + (d.length : Int) = k + ((d.length + 1 : Nat) : Int) by omega]
theorem heldIntS_ok (l : List Int) (k : Int) (hl : l.length ≤ 1048576) (h0 : 0 ≤ k) (hk : k ≤ 4611686018427387904) : Ct Try.prog 54 [.sl false (ints (mkI l k)), .int .i64 k] [] (.int .i64 (k + l.length)) [] := by
  have hml := mkI_len l k
  refine Ct.by_ hmix [] Try.func54 rfl ?_
  simp only [run0, run1, run2, run3, run4, run5, run6, run7, run8, run9, run10, run11, run12, run13, run14, run15, run16, run17, run18, run19, run20, run21, run22, reduceCtorEq, Nat.reduceEqDiff, Nat.reduceAdd, Nat.reduceSub, Nat.reduceLeDiff, indexAddrA, indexRefA, appendA, strA, Nat.reduceMul, Nat.zero_mul, Nat.reduceMod, Int.reduceEq, Int.reduceLT, Int.reduceLE, Nat.reduceLT, Nat.lt_irrefl, Nat.reduceBEq, tys0, tys1, tys2, tys3, tys4, tys5, tys6, tys7, tys8, tys9, tys10, tys11, tys12, tys13, tys14, tys15, tys16, tys17, tys18, tys19, tys20, tys21, tys22, tys23, Try.ntmps54, Try.results54, hml, List.length_map]
  refine AWp.loop_inv (ι := List Int × List Int) (fun p => ⟨[.sl false (ints (mkI l k)), .int .i64 (k + p.1.length), .junk, .junk, .int .i64 0, .int .i64 p.1.length, .junk, .junk, .junk, .junk, .junk, .junk, .junk, .junk, .junk, .junk, .junk, .junk, .junk, .junk, .junk], []⟩)
    (fun p => l = p.1 ++ p.2) (fun p => p.2.length) ([], l) rfl ⟨by simp only [List.length_nil, Int.natCast_zero, Int.add_zero]; repeat constructor, rfl⟩ ?_
  rintro ⟨d, r⟩ ha
  refine W.sound hmix (E := []) ?_
  simp only at ha
  have hda : d.length + r.length = l.length := by rw [ha, List.length_append]
  cases r with
  | nil =>
    have e1 : ¬ ((d.length : Int) < (l.length : Int)) := by simp at hda; omega
    simp only [run0, run1, run2, run3, run4, run5, run6, run7, run8, run9, run10, run11, run12, run13, run14, run15, run16, run17, run18, run19, run20, run21, run22, reduceCtorEq, Nat.reduceEqDiff, Nat.reduceAdd, Nat.reduceSub, Nat.reduceLeDiff, indexAddrA, indexRefA, appendA, strA, Nat.reduceMul, Nat.zero_mul, Nat.reduceMod, Int.reduceEq, Int.reduceLT, Int.reduceLE, Nat.reduceLT, Nat.lt_irrefl, Nat.reduceBEq, tys0, tys1, tys2, tys3, tys4, tys5, tys6, tys7, tys8, tys9, tys10, tys11, tys12, tys13, tys14, tys15, tys16, tys17, tys18, tys19, tys20, tys21, tys22, tys23, Try.ntmps54, Try.results54, e1, hml, List.length_map]
    refine Fin.eq ?_ rfl
    rw [ha]; simp
  | cons e r =>
    simp only [List.length_cons] at hda
    have e1 : (d.length : Int) < (l.length : Int) := by omega
    have e2 : (ints (mkI l k))[d.length]? = some (.int .i64 (k + d.length)) := by
      rw [ha, mkI_app, mkI, ← mkI_len d k]; exact ints_get _ _ _
    have e5 : IntKind.i64.wrap ((d.length : Int) + 1) = ((d ++ [e]).length : Int) := by rw [i64_id (by omega) (by omega)]; simp
    have e7 : IntKind.i64.wrap (k + (d.length : Int) + 1) = k + ((d ++ [e]).length : Int) := by
      rw [i64_id (by omega) (by omega)]; simp; omega
    simp only [run0, run1, run2, run3, run4, run5, run6, run7, run8, run9, run10, run11, run12, run13, run14, run15, run16, run17, run18, run19, run20, run21, run22, reduceCtorEq, Nat.reduceEqDiff, Nat.reduceAdd, Nat.reduceSub, Nat.reduceLeDiff, indexAddrA, indexRefA, appendA, strA, Nat.reduceMul, Nat.zero_mul, Nat.reduceMod, Int.reduceEq, Int.reduceLT, Int.reduceLE, Nat.reduceLT, Nat.lt_irrefl, Nat.reduceBEq, tys0, tys1, tys2, tys3, tys4, tys5, tys6, tys7, tys8, tys9, tys10, tys11, tys12, tys13, tys14, tys15, tys16, tys17, tys18, tys19, tys20, tys21, tys22, tys23, Try.ntmps54, Try.results54, e1, e2, hml, List.length_map, Int.toNat_natCast, Int.natCast_nonneg, bne_self_eq_false, e5, e7]
    exact ⟨(d ++ [e], r), by simp [ha], by simp, by simp only [List.length_append, List.length_cons, List.length_nil]; repeat constructor⟩
theorem markIntS_ok (l : List Int) (id g : Nat) (L0 : List AObj) (k : Int) (hL : L0[id]? = some (.vec 3 1 g (ints l))) (hl : l.length ≤ 1048576) (h0 : 0 ≤ k) (hk : k ≤ 4611686018427387904) :
    Ct Try.prog 53 [.ref id [] g l.length, .int .i64 k] L0 (.int .i64 (k + l.length)) (L0.set id (.vec 3 1 g (ints (mkI l k)))) := by
  have hid := (List.getElem?_eq_some_iff.1 hL).1
  have hget : ∀ X, (L0.set id X)[id]? = some X := fun X => List.getElem?_set_self hid
  have hsame : L0 = L0.set id (.vec 3 1 g (ints l)) := by
    apply List.ext_getElem?
    intro i
    by_cases hi : id = i
    · subst hi; rw [hget, hL]
    · rw [List.getElem?_set_ne hi]
  refine Ct.by_ hmix [] Try.func53 rfl ?_
  simp only [run0, run1, run2, run3, run4, run5, run6, run7, run8, run9, run10, run11, run12, run13, run14, run15, run16, run17, run18, run19, run20, run21, run22, reduceCtorEq, Nat.reduceEqDiff, Nat.reduceAdd, Nat.reduceSub, Nat.reduceLeDiff, indexAddrA, indexRefA, appendA, strA, Nat.reduceMul, Nat.zero_mul, Nat.reduceMod, Int.reduceEq, Int.reduceLT, Int.reduceLE, Nat.reduceLT, Nat.lt_irrefl, Nat.reduceBEq, tys0, tys1, tys2, tys3, tys4, tys5, tys6, tys7, tys8, tys9, tys10, tys11, tys12, tys13, tys14, tys15, tys16, tys17, tys18, tys19, tys20, tys21, tys22, tys23, Try.ntmps53, Try.results53]
  refine AWp.loop_inv (ι := List Int × List Int) (fun p => ⟨[.ref id [] g l.length, .int .i64 (k + p.1.length), .junk, .junk, .int .i64 0, .int .i64 p.1.length, .junk, .junk, .junk, .junk, .junk, .junk, .junk, .junk, .junk, .junk, .junk, .junk, .junk], L0.set id (.vec 3 1 g (ints (mkI p.1 k) ++ ints p.2))⟩)
    (fun p => l = p.1 ++ p.2) (fun p => p.2.length) ([], l) rfl ⟨by simp only [List.length_nil, Int.natCast_zero, Int.add_zero]; repeat constructor, by simpa [mkI] using hsame⟩ ?_
  rintro ⟨d, r⟩ ha
  refine W.sound hmix (E := []) ?_
  simp only at ha
  have hda : d.length + r.length = l.length := by rw [ha, List.length_append]
  have hml := mkI_len d k
  cases r with
  | nil =>
    have e1 : ¬ ((d.length : Int) < (l.length : Int)) := by simp at hda; omega
    simp only [run0, run1, run2, run3, run4, run5, run6, run7, run8, run9, run10, run11, run12, run13, run14, run15, run16, run17, run18, run19, run20, run21, run22, reduceCtorEq, Nat.reduceEqDiff, Nat.reduceAdd, Nat.reduceSub, Nat.reduceLeDiff, indexAddrA, indexRefA, appendA, strA, Nat.reduceMul, Nat.zero_mul, Nat.reduceMod, Int.reduceEq, Int.reduceLT, Int.reduceLE, Nat.reduceLT, Nat.lt_irrefl, Nat.reduceBEq, tys0, tys1, tys2, tys3, tys4, tys5, tys6, tys7, tys8, tys9, tys10, tys11, tys12, tys13, tys14, tys15, tys16, tys17, tys18, tys19, tys20, tys21, tys22, tys23, Try.ntmps53, Try.results53, e1, hget]
    have hd : d = l := by rw [ha, List.append_nil]
    subst hd
    exact Fin.own (by simp) rfl
  | cons e r =>
    simp only [List.length_cons] at hda
    have e1 : (d.length : Int) < (l.length : Int) := by omega
    have e2 : (ints (mkI d k) ++ AV.int .i64 e :: ints r)[d.length]? = some (.int .i64 e) := by rw [← hml]; simp
    have e3 : noOwn (ints (mkI d k) ++ AV.int .i64 e :: ints r) = true := by
      have := ints_noOwn (mkI d k ++ e :: r)
      simpa using this
    have e4 : (ints (mkI d k) ++ AV.int .i64 e :: ints r).set d.length (.int .i64 (k + d.length)) = ints (mkI d k) ++ AV.int .i64 (k + d.length) :: ints r := by rw [← hml]; simp
    have e5 : IntKind.i64.wrap ((d.length : Int) + 1) = ((d ++ [e]).length : Int) := by rw [i64_id (by omega) (by omega)]; simp
    have e7 : IntKind.i64.wrap (k + (d.length : Int) + 1) = k + ((d ++ [e]).length : Int) := by
      rw [i64_id (by omega) (by omega)]; simp; omega
    simp only [run0, run1, run2, run3, run4, run5, run6, run7, run8, run9, run10, run11, run12, run13, run14, run15, run16, run17, run18, run19, run20, run21, run22, reduceCtorEq, Nat.reduceEqDiff, Nat.reduceAdd, Nat.reduceSub, Nat.reduceLeDiff, indexAddrA, indexRefA, appendA, strA, Nat.reduceMul, Nat.zero_mul, Nat.reduceMod, Int.reduceEq, Int.reduceLT, Int.reduceLE, Nat.reduceLT, Nat.lt_irrefl, Nat.reduceBEq, tys0, tys1, tys2, tys3, tys4, tys5, tys6, tys7, tys8, tys9, tys10, tys11, tys12, tys13, tys14, tys15, tys16, tys17, tys18, tys19, tys20, tys21, tys22, tys23, Try.ntmps53, Try.results53, List.map_cons, e1, hget, e2, e3, e4, e5, e7, List.set_set, Int.toNat_natCast, Int.natCast_nonneg, setE]
    exact ⟨(d ++ [e], r), by simp [ha], by simp, by simp only [List.length_append, List.length_cons, List.length_nil]; repeat constructor, by simp [mkI_app, mkI]⟩

end Go.Proofs.Ytllcljajlemmaaa
/-
  Lists of whole numbers that come in.
-/
namespace Go.Proofs.Ytllcljajlemmaaa
open Go K
set_option linter.unusedSimpArgs false
set_option linter.unusedVariables false

theorem ints_in : ∀ es : List AV, (∀ x ∈ es, IsOf Try.prog 3 x) → ∃ l : List Int, es = ints l
  | [], _ => ⟨[], rfl⟩
  | x :: es, hes => by
    obtain ⟨l, rfl⟩ := ints_in es fun y hy => hes y (List.mem_cons_of_mem _ hy)
    obtain ⟨_, h⟩ := (hes x (List.mem_cons_self ..)).one ty_a3
    obtain ⟨n, e, _⟩ := h.int Try.underlying3
    simp at e
    subst e
    exact ⟨n :: l, rfl⟩
theorem szN_spec (n : Nat) (k : Int) : (0 ≤ k - n ∧ szN n k = k - n) ∨ (k - n < 0 ∧ szN n k = -1) := by
  unfold szN
  by_cases h : k - n < 0
  · exact .inr ⟨h, if_pos h⟩
  · exact .inl ⟨by omega, if_neg h⟩
theorem mx_len : maxLen = 9223372036854775807 := by decide

end Go.Proofs.Ytllcljajlemmaaa
