/-
  Fractions: comparing two.
-/
import Derived.Test.YtminjhhabonjaaaF1
import Derived.Test.YtminjhhabonjaaaK15
namespace Go.Proofs.Ytminjhhabonjaaa
open Go K
set_option linter.unusedSimpArgs false
set_option linter.unusedVariables false
set_option maxHeartbeats 400000

theorem toFraction_ok (n d : Int) : Ct Try.prog 61 [fr n d] [] (fr n d) [] := by
  refine Ct.by_ hmix [] Try.func61 rfl ?_
  simp only [run0, run1, run2, run3, run4, run5, run6, run7, run8, run9, run10, run11, run12, run13, run14, run15, run16, run17, run18, run19, run20, run21, run22, reduceCtorEq, Nat.reduceEqDiff, Nat.reduceAdd, Nat.reduceSub, Nat.reduceLeDiff, indexAddrA, indexRefA, appendA, strA, Nat.reduceMul, Nat.zero_mul, Nat.reduceMod, Int.reduceEq, Int.reduceLT, Int.reduceLE, Nat.reduceLT, Nat.lt_irrefl, Nat.reduceBEq, tys0, tys1, tys2, tys3, tys4, tys5, tys6, tys7, tys8, tys9, tys10, tys11, tys12, tys13, tys14, tys15, tys16, tys17, tys18, tys19, tys20, tys21, tys22, tys23, Try.ntmps61, Try.results61, fr]
  exact Fin.eq (by simp [fr]) rfl

theorem inB_iff (n lo hi : Int) : inB n lo hi = true ↔ lo ≤ n ∧ n ≤ hi := by simp [inB]
theorem good_range {n d : Int} (h : goodB n d = true) : 1 ≤ d ∧ d ≤ 1000000 ∧ -1000000 ≤ n ∧ n ≤ 1000000 := by
  simp only [goodB, Bool.and_eq_true, inB_iff] at h
  exact ⟨h.1.1.1, h.1.1.2, h.1.2.1, h.1.2.2⟩
theorem mul_range {a b A B : Int} (hA : 0 ≤ A) (h1 : -A ≤ a) (h2 : a ≤ A) (h3 : -B ≤ b) (h4 : b ≤ B) : -(A * B) ≤ a * b ∧ a * b ≤ A * B := by
  have h : (a * b).natAbs ≤ (A * B).natAbs := by
    rw [Int.natAbs_mul, Int.natAbs_mul]
    exact Nat.mul_le_mul (by omega) (by omega)
  have h5 : 0 ≤ A * B := Int.mul_nonneg hA (by omega)
  omega
theorem w64_id {x : Int} (h1 : -9223372036854775808 ≤ x) (h2 : x ≤ 9223372036854775807) : w64 x = x := by
  show (let m := x % (2 ^ 64 : Int); if true && m ≥ (2 ^ 63 : Int) then m - (2 ^ 64 : Int) else m) = x
  simp only [Bool.true_and, decide_eq_true_eq]
  omega

theorem cmp_same {a b c d : Int} (h1 : goodB a b = true) (h2 : goodB c d = true) : cmpI (w64 (w64 (a * d) - w64 (c * b))) 0 = cmpI (w64 (a * d)) (w64 (c * b)) := by
  have r1 := good_range h1
  have r2 := good_range h2
  have m1 := mul_range (a := a) (b := d) (A := 1000000) (B := 1000000) (by omega) (by omega) (by omega) (by omega) (by omega)
  have m2 := mul_range (a := c) (b := b) (A := 1000000) (B := 1000000) (by omega) (by omega) (by omega) (by omega) (by omega)
  rw [w64_id (x := a * d) (by omega) (by omega), w64_id (x := c * b) (by omega) (by omega), w64_id (by omega) (by omega)]
  unfold cmpI
  split <;> split <;> (try omega) <;> split <;> (try split) <;> omega

theorem laws_isFr {a : AV} (h : IsOf Try.prog 81 a) : ∃ n d, a = fr n d ∧ (Lit.int .i64 n).wf = true ∧ (Lit.int .i64 d).wf = true := by
  obtain ⟨m, cs, rfl, hl, h⟩ := h.agg ty_a81
  rw [ty_c81] at hl
  match cs, hl with
  | [x, y], _ =>
    obtain ⟨_, h0⟩ := h.field ty_f81_0
    obtain ⟨_, h1⟩ := h.field ty_f81_1
    obtain ⟨n, e0, w0⟩ := h0.int Try.underlying3
    obtain ⟨d, e1, w1⟩ := h1.int Try.underlying3
    rw [ty_c3] at e0 e1
    simp at e0 e1
    subst e0 e1
    exact ⟨n, d, rfl, w0, w1⟩

end Go.Proofs.Ytminjhhabonjaaa
