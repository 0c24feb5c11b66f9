/-
  Ordinals as trees: zero, the limit part. No program in sight.
-/
import Derived.Test.YtminjhhabonjaaaO1
namespace Go.Proofs.Ytminjhhabonjaaa
open Go K Od
set_option linter.unusedSimpArgs false
set_option linter.unusedVariables false

def isZ : Od → Bool
  | .nil => true
  | .cons _ _ _ => false
theorem isZ_len (a : Od) : ((a.len : Int) == 0) = isZ a := by
  cases a <;> simp [isZ, len]; omega
theorem isZ_nil {a : Od} (h : isZ a = true) : a = .nil := by cases a <;> simp_all [isZ]
/-- A tree's last term. -/
theorem od_last : ∀ a : Od, a = Od.nil ∨ ∃ (d e : Od) (c : Int), a = d.app (Od.cons e c .nil)
  | .nil => .inl rfl
  | .cons e c r => by
    rcases od_last r with rfl | ⟨d, e', c', rfl⟩
    · exact .inr ⟨Od.nil, e, c, rfl⟩
    · exact .inr ⟨Od.cons e c d, e', c', rfl⟩
/-- The part that is a limit or 0, and what is left. -/
def partT : Od → Od × Int
  | .nil => (.nil, 0)
  | .cons e c .nil => if isZ e then (.nil, c) else (.cons e c .nil, 0)
  | .cons e c r => (.cons e c (partT r).1, (partT r).2)
theorem part_snoc : ∀ (d e : Od) (c : Int), partT (d.app (.cons e c .nil)) = if isZ e then (d, c) else (d.app (.cons e c .nil), 0)
  | .nil, e, c => rfl
  | .cons e' c' .nil, e, c => by
    show partT (.cons e' c' (.cons e c .nil)) = _
    rw [partT]
    · rw [partT]; split <;> rfl
    · intro h; cases h
  | .cons e' c' (.cons e2 c2 d), e, c => by
    show partT (.cons e' c' ((Od.cons e2 c2 d).app (.cons e c .nil))) = _
    rw [partT]
    · rw [part_snoc (.cons e2 c2 d) e c]; split <;> rfl
    · intro h; cases h
def limT (a : Od) : Bool := !isZ a && ((partT a).2 == 0)

theorem elems_take (d r : Od) : (elems (d.app r)).take d.len = elems d := by
  rw [elems_app, List.take_append_of_le_length (by rw [elems_length]; exact Nat.le_refl _), List.take_of_length_le (by rw [elems_length]; exact Nat.le_refl _)]
theorem elems_drop (d r : Od) : (elems (d.app r)).drop d.len = elems r := by
  rw [elems_app, List.drop_append_of_le_length (by rw [elems_length]; exact Nat.le_refl _), List.drop_of_length_le (by rw [elems_length]; exact Nat.le_refl _), List.nil_append]
theorem elems_cells_t (a : Od) : (∀ y ∈ elems a, y.cells.length = 2) = True := eq_true (fun y hy => elems_cells a y hy)

end Go.Proofs.Ytminjhhabonjaaa
