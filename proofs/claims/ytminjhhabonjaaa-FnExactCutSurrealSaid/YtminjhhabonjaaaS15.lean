/-
  Surreals: what is told as a number of its own; terms; negatives.
-/
import Derived.Test.YtminjhhabonjaaaS11
import Derived.Test.YtminjhhabonjaaaS14
namespace Go.Proofs.Ytminjhhabonjaaa
open Go K Su
set_option linter.unusedSimpArgs false
set_option linter.unusedVariables false
set_option maxHeartbeats 400000

theorem Own.shape {M : List AObj} {a : Su} {x : AV} (h : Own M a x) : okT x = true ∧ M.all okSO = true ∧ x.cells = [x] := by
  obtain ⟨S, h1, h2, h3⟩ := h
  exact ⟨h1.form.1, h3, h1.form.2.1⟩
theorem Own.nil : Own [] .nil nilV := ⟨[], .inl ⟨rfl, rfl, rfl⟩, List.nodup_nil, rfl⟩

/-- The end of a function that gives a tree of its own, got by one call that gave one. -/
theorem Own.end {M L1 : List AObj} {a : Su} {x : AV} {k : Nat} (hg : ∀ id, L1[id + k]? = (M[id]?).map (shO k)) {S : List Nat} (h : OwnR M 62 3 a x S) (hn : S.Nodup) : Own (keepS (S.map (· + k)) L1) a (shA k x) :=
  ⟨S.map (· + k), (OwnR.sh hg h).keep fun _ h => h, nodup_add k hn, keepS_okSO _ _⟩
theorem okT_sh {L : List AObj} {a : Su} {x : AV} {k : Nat} {S : List Nat} {T : TypeId} {z : Nat} (h : OwnR L T z a x S) : okT (shA k x) = true := by
  rcases h.shape with rfl | ⟨id, g, n, rfl⟩ <;> rfl

theorem own_v (a : Su) (hs : a.sz ≤ 1048576) : Ct Try.prog 26 [av a] [] (av a) [] := by
  obtain ⟨x, M, hc, S, ho, hn, hM⟩ := ownS_ok a hs
  exact hc.toV (Vw.agg (.cons (ho.view false) .nil))

/-! ### terms -/
def termT (a : Su) (c : Int × Int) : Su := if c.1 == 0 then .nil else .cons a c .nil
theorem termT_sz (a : Su) (c : Int × Int) : (termT a c).sz ≤ a.sz + 1 := by unfold termT; split <;> simp [sz]
end Go.Proofs.Ytminjhhabonjaaa
