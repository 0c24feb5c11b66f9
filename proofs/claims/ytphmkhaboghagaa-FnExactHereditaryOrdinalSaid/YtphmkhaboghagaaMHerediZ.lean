/-
  The statement 'FnExactHereditaryOrdinalSaid': from the contract of the law's function to the row.
-/
import Derived.Test.YtphmkhaboghagaaRows
import Derived.Test.YtphmkhaboghagaaMHerediD
import Derived.Test.YtphmkhaboghagaaMHerediB
namespace Go.Proofs.Ytphmkhaboghagaa
open Go.ChangeShapes Go.WideShapes Go.ChangeAt Go.RowKit K
set_option linter.unusedVariables false
theorem fnExactHereditaryOrdinalX_own : ownKnob Try.prog.godebug = none := by kernel_rfl
theorem fnExactHereditaryOrdinalX_laid : laidOutB Try.prog = true := by kernel_rfl
def fnExactHereditaryOrdinalX_S : List TypeId := [3]
theorem fnExactHereditaryOrdinalX_data : dataS Try.prog fnExactHereditaryOrdinalX_S = true := by kernel_rfl
set_option maxRecDepth 100000 in
theorem fnExactHereditaryOrdinalX_lifted (os : Os) (started : os.Started) (H : Type) (enc : TypeId × Value → H) :
    ReturnsInHanded {} Try.checked os 3 .any (Rows.fnExactHereditaryOrdinalSpec.pre6 enc Try.prog Try.f3 Rows.fnExactHereditaryOrdinalRow.domain false) (Rows.fnExactHereditaryOrdinalSpec.post enc Try.prog Try.f3 false true false false) := by
  refine returnsInHanded_of_change (C := Try.checked) fnExactHereditaryOrdinalX_own started (by kernel_rfl) Try.func3
    (ChangeSpec.witness6 (enc := enc) (C := Try.checked) false ⟨#[], #[.int .i64 0, .int .i64 0], []⟩ 8 (by kernel_rfl) (by kernel_rfl) (by kernel_rfl) (by kernel_rfl)) ?_
  intro W base args ds gs before hval0 hW hcnd _
  have hval : ∀ (j : Nat) t v, Try.f3.params[j]? = some t → args[j]? = some v → Value.okWide Try.prog W .any base t v := hval0
  have hW' := hW
  obtain ⟨p, q, hA0, hV, rfl, hfz, hnd⟩ := hW
  have hA : DataW.TrodAll enc Try.prog W 0 (fun _ => true) true Try.f3.params.toList args.toList ds p := hA0
  rw [Try.params3] at hA hval
  obtain ⟨v0, vs0, d0, ds0, p0, q0, hargs, rfl, rfl, h0, r0⟩ := trodAll_cons hA
  obtain ⟨v1, vs1, d1, ds1, p1, q1, rfl, rfl, rfl, h1, r1⟩ := trodAll_cons r0
  obtain ⟨rfl, rfl, rfl⟩ := trodAll_nil r1
  obtain rfl : args = #[v0, v1] := by cases args; simp_all
  obtain ⟨rfl, rfl⟩ := trodVars_none hV
  have lt0 : ∀ x ∈ p0, x.block < W.heap.size := by obtain ⟨m, hm⟩ := h0; exact DataW.trod_lt m _ _ _ hm
  obtain ⟨a0, ra0, ca0⟩ := arg_open fnExactHereditaryOrdinalX_data (S := fnExactHereditaryOrdinalX_S) (by decide) (hval 0 3 v0 rfl rfl) h0
  have lt1 : ∀ x ∈ p1, x.block < W.heap.size := by obtain ⟨m, hm⟩ := h1; exact DataW.trod_lt m _ _ _ hm
  obtain ⟨a1, ra1, ca1⟩ := arg_open fnExactHereditaryOrdinalX_data (S := fnExactHereditaryOrdinalX_S) (by decide) (hval 1 3 v1 rfl rfl) h1
  clear hA0 hval0
  refine (law_walk (FnExactHereditaryOrdinal_ok ca0 ca1) (argsR2 ra0 ra1)).mono fun e W' ⟨he, bel⟩ => ?_
  subst he
  exact ⟨_, rfl, _, _, _, [], _, [], hW', trodAll_mk1 (shut_bool Try.underlying4 _), (trodAll_cons_mk (Below.trod fnExactHereditaryOrdinalX_laid (by kernel_rfl) (of_decide_eq_true (by kernel_rfl)) h0 bel lt0) (trodAll_cons_mk (Below.trod fnExactHereditaryOrdinalX_laid (by kernel_rfl) (of_decide_eq_true (by kernel_rfl)) h1 bel lt1) trodAll_mk0)), rfl, bel.frame _, fun h => by cases h⟩

theorem fnExactHereditaryOrdinal_said : Rows.FnExactHereditaryOrdinalSaid :=
  OpenClaim.holds_of_wide 3 Try.f3 rfl rfl rfl rfl rfl rfl rfl ⟨rfl, rfl, rfl, rfl, rfl⟩ rfl rfl rfl rfl rfl (by kernel_rfl) Try.func3 (by kernel_rfl)
    (of_decide_eq_true (by kernel_rfl)) (by unfold Func.isWrapper; first | (rw [if_pos (by decide +kernel)]; kernel_rfl) | (rw [if_neg (by decide +kernel)]; exact ⟨rfl, rfl⟩))
    (fun os started H enc _ => fnExactHereditaryOrdinalX_lifted os started H enc)
#print axioms fnExactHereditaryOrdinal_said
end Go.Proofs.Ytphmkhaboghagaa
