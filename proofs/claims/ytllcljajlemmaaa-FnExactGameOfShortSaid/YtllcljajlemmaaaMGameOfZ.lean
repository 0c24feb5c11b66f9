/-
  The statement 'FnExactGameOfShortSaid': from the contract of the law's function to the row.
-/
import Derived.Test.YtllcljajlemmaaaRows
import Derived.Test.YtllcljajlemmaaaMGameOfE
import Derived.Test.YtllcljajlemmaaaMGameOfB
namespace Go.Proofs.Ytllcljajlemmaaa
open Go.ChangeShapes Go.WideShapes Go.ChangeAt Go.RowKit K
set_option linter.unusedVariables false
theorem fnExactGameOfShortX_own : ownKnob Try.prog.godebug = none := by kernel_rfl
theorem fnExactGameOfShortX_laid : laidOutB Try.prog = true := by kernel_rfl
def fnExactGameOfShortX_S : List TypeId := [40, 3]
theorem fnExactGameOfShortX_data : dataS Try.prog fnExactGameOfShortX_S = true := by kernel_rfl
set_option maxRecDepth 100000 in
theorem fnExactGameOfShortX_lifted (os : Os) (started : os.Started) (H : Type) (enc : TypeId × Value → H) :
    ReturnsInHanded {} Try.checked os 7 .any (Rows.fnExactGameOfShortSpec.pre6 enc Try.prog Try.f7 Rows.fnExactGameOfShortRow.domain false) (Rows.fnExactGameOfShortSpec.post enc Try.prog Try.f7 false true false false) := by
  refine returnsInHanded_of_change (C := Try.checked) fnExactGameOfShortX_own started (by kernel_rfl) Try.func7
    (ChangeSpec.witness6 (enc := enc) (C := Try.checked) false ⟨#[], #[.agg #[.int .i64 0, .int .i64 0]], []⟩ 8 (by kernel_rfl) (by kernel_rfl) (by kernel_rfl) (by kernel_rfl)) ?_
  intro W base args ds gs before hval0 hW hcnd _
  have hval : ∀ (j : Nat) t v, Try.f7.params[j]? = some t → args[j]? = some v → Value.okWide Try.prog W .any base t v := hval0
  have hW' := hW
  obtain ⟨p, q, hA0, hV, rfl, hfz, hnd⟩ := hW
  have hA : DataW.TrodAll enc Try.prog W 0 (fun _ => true) true Try.f7.params.toList args.toList ds p := hA0
  rw [Try.params7] at hA hval
  obtain ⟨v0, vs0, d0, ds0, p0, q0, hargs, rfl, rfl, h0, r0⟩ := trodAll_cons hA
  obtain ⟨rfl, rfl, rfl⟩ := trodAll_nil r0
  obtain rfl : args = #[v0] := by cases args; simp_all
  obtain ⟨rfl, rfl⟩ := trodVars_none hV
  have lt0 : ∀ x ∈ p0, x.block < W.heap.size := by obtain ⟨m, hm⟩ := h0; exact DataW.trod_lt m _ _ _ hm
  obtain ⟨a0, ra0, ca0⟩ := arg_open fnExactGameOfShortX_data (S := fnExactGameOfShortX_S) (by decide) (hval 0 40 v0 rfl rfl) h0
  clear hA0 hval0
  refine (law_walk (FnExactGameOfShort_ok ca0) (argsR1 ra0)).mono fun e W' ⟨he, bel⟩ => ?_
  subst he
  exact ⟨_, rfl, _, _, _, [], _, [], hW', trodAll_mk1 (shut_bool Try.underlying4 _), (trodAll_cons_mk (Below.trod fnExactGameOfShortX_laid (by kernel_rfl) (of_decide_eq_true (by kernel_rfl)) h0 bel lt0) trodAll_mk0), rfl, bel.frame _, fun h => by cases h⟩

theorem fnExactGameOfShort_said : Rows.FnExactGameOfShortSaid :=
  OpenClaim.holds_of_wide 7 Try.f7 rfl rfl rfl rfl rfl rfl rfl ⟨rfl, rfl, rfl, rfl, rfl⟩ rfl rfl rfl rfl rfl (by kernel_rfl) Try.func7 (by kernel_rfl)
    (of_decide_eq_true (by kernel_rfl)) (by unfold Func.isWrapper; first | (rw [if_pos (by decide +kernel)]; kernel_rfl) | (rw [if_neg (by decide +kernel)]; exact ⟨rfl, rfl⟩))
    (fun os started H enc _ => fnExactGameOfShortX_lifted os started H enc)
#print axioms fnExactGameOfShort_said
end Go.Proofs.Ytllcljajlemmaaa
