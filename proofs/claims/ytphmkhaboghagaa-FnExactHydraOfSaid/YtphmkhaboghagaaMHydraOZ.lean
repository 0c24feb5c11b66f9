/-
  The statement 'FnExactHydraOfSaid': from the contract of the law's function to the row.
-/
import Derived.Test.YtphmkhaboghagaaRows
import Derived.Test.YtphmkhaboghagaaMHydraOE
import Derived.Test.YtphmkhaboghagaaMHydraOB
namespace Go.Proofs.Ytphmkhaboghagaa
open Go.ChangeShapes Go.WideShapes Go.ChangeAt Go.RowKit K
set_option linter.unusedVariables false
theorem fnExactHydraOfX_own : ownKnob Try.prog.godebug = none := by kernel_rfl
theorem fnExactHydraOfX_laid : laidOutB Try.prog = true := by kernel_rfl
def fnExactHydraOfX_S : List TypeId := [32, 30, 115, 3]
theorem fnExactHydraOfX_data : dataS Try.prog fnExactHydraOfX_S = true := by kernel_rfl
set_option maxRecDepth 100000 in
theorem fnExactHydraOfX_lifted (os : Os) (started : os.Started) (H : Type) (enc : TypeId × Value → H) :
    ReturnsInHanded {} Try.checked os 9 .any (Rows.fnExactHydraOfSpec.pre6 enc Try.prog Try.f9 Rows.fnExactHydraOfRow.domain false) (Rows.fnExactHydraOfSpec.post enc Try.prog Try.f9 false true false false) := by
  refine returnsInHanded_of_change (C := Try.checked) fnExactHydraOfX_own started (by kernel_rfl) Try.func9
    (ChangeSpec.witness6 (enc := enc) (C := Try.checked) false ⟨#[], #[.agg #[.slice none 0 0]], []⟩ 8 (by kernel_rfl) (by kernel_rfl) (by kernel_rfl) (by kernel_rfl)) ?_
  intro W base args ds gs before hval0 hW hcnd _
  have hval : ∀ (j : Nat) t v, Try.f9.params[j]? = some t → args[j]? = some v → Value.okWide Try.prog W .any base t v := hval0
  have hW' := hW
  obtain ⟨p, q, hA0, hV, rfl, hfz, hnd⟩ := hW
  have hA : DataW.TrodAll enc Try.prog W 0 (fun _ => true) true Try.f9.params.toList args.toList ds p := hA0
  rw [Try.params9] at hA hval
  obtain ⟨v0, vs0, d0, ds0, p0, q0, hargs, rfl, rfl, h0, r0⟩ := trodAll_cons hA
  obtain ⟨rfl, rfl, rfl⟩ := trodAll_nil r0
  obtain rfl : args = #[v0] := by cases args; simp_all
  obtain ⟨rfl, rfl⟩ := trodVars_none hV
  have lt0 : ∀ x ∈ p0, x.block < W.heap.size := by obtain ⟨m, hm⟩ := h0; exact DataW.trod_lt m _ _ _ hm
  obtain ⟨a0, ra0, ca0⟩ := arg_open fnExactHydraOfX_data (S := fnExactHydraOfX_S) (by decide) (hval 0 32 v0 rfl rfl) h0
  clear hA0 hval0
  refine (law_walk (FnExactHydraOf_ok ca0) (argsR1 ra0)).mono fun e W' ⟨he, bel⟩ => ?_
  subst he
  exact ⟨_, rfl, _, _, _, [], _, [], hW', trodAll_mk1 (shut_bool Try.underlying4 _), (trodAll_cons_mk (Below.trod fnExactHydraOfX_laid (by kernel_rfl) (of_decide_eq_true (by kernel_rfl)) h0 bel lt0) trodAll_mk0), rfl, bel.frame _, fun h => by cases h⟩

theorem fnExactHydraOf_said : Rows.FnExactHydraOfSaid :=
  OpenClaim.holds_of_wide 9 Try.f9 rfl rfl rfl rfl rfl rfl rfl ⟨rfl, rfl, rfl, rfl, rfl⟩ rfl rfl rfl rfl rfl (by kernel_rfl) Try.func9 (by kernel_rfl)
    (of_decide_eq_true (by kernel_rfl)) (by unfold Func.isWrapper; first | (rw [if_pos (by decide +kernel)]; kernel_rfl) | (rw [if_neg (by decide +kernel)]; exact ⟨rfl, rfl⟩))
    (fun os started H enc _ => fnExactHydraOfX_lifted os started H enc)
#print axioms fnExactHydraOf_said
end Go.Proofs.Ytphmkhaboghagaa
