/-
  A logic of values for Go's functions (part 10b): appending to a row of the call's own.
-/
import Derived.Test.YtolfjeedgedblaaKA
namespace Go.Proofs.Ytolfjeedgedblaa.K
set_option linter.unusedVariables false
set_option linter.unusedSimpArgs false
open Go Go.RowKit

theorem rowRep_append {γ γ2 : Nat → Gh} {L L2 : List AObj} (E : Ext γ L γ2 L2) {id sz : Nat} {es ys : List AV} {xs news : List Value} {cur' : Array Value}
    (hes : ∀ e ∈ es, e.cells.length = sz) (hys : ∀ e ∈ ys, e.cells.length = sz) (n1 : noOwn es = true) (n2 : noOwn ys = true) (hxl : xs.length = es.length * sz)
    (hx : ∀ (i : Nat) e (j : Nat) x, es[i]? = some e → e.cells[j]? = some x → ∃ v, xs[i * sz + j]? = some v ∧ v.oneCell' = true ∧ RV γ L x v)
    (hn : ∀ (i : Nat) e (j : Nat) x, ys[i]? = some e → e.cells[j]? = some x → ∃ v, news[i * sz + j]? = some v ∧ v.oneCell' = true ∧ RV γ L x v)
    (hcur : ∀ (q : Nat) u, (xs ++ news)[q]? = some u → cur'[q]? = some u) : RowRep γ2 L2 id [] sz (es ++ ys) cur' := by
  refine ⟨fun e he => ?_, fun i e j x he hx' => ?_⟩
  · rcases List.mem_append.1 he with h | h
    · exact hes e h
    · exact hys e h
  by_cases hi : i < es.length
  · rw [List.getElem?_append_left hi] at he
    obtain ⟨v, h1, h2, h3⟩ := hx i e j x he hx'
    refine ⟨v, hcur _ _ ?_, h2, (noOwn_CV n1 he hx').2 (h3.mono E)⟩
    rw [List.getElem?_append_left (List.getElem?_eq_some_iff.1 h1).1]; exact h1
  · rw [List.getElem?_append_right (by omega)] at he
    obtain ⟨v, h1, h2, h3⟩ := hn _ e j x he hx'
    refine ⟨v, hcur _ _ ?_, h2, (noOwn_CV n2 he hx').2 (h3.mono E)⟩
    have e1 : i * sz + j = xs.length + ((i - es.length) * sz + j) := by
      rw [hxl, ← Nat.add_assoc, ← Nat.add_mul]; congr 2; omega
    rw [e1, List.getElem?_append_right (by omega), Nat.add_sub_cancel_left]
    exact h1

end Go.Proofs.Ytolfjeedgedblaa.K
