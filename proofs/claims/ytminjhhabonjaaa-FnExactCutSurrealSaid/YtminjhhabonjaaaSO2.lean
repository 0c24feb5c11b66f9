/-
  Surreals as trees: zero. No program in sight.
-/
import Derived.Test.YtminjhhabonjaaaSO1
namespace Go.Proofs.Ytminjhhabonjaaa
open Go K Su
set_option linter.unusedSimpArgs false
set_option linter.unusedVariables false

def isZ : Su → Bool
  | .nil => true
  | .cons _ _ _ => false
theorem isZ_len (a : Su) : ((a.len : Int) == 0) = isZ a := by
  cases a <;> simp [isZ, len]; omega
theorem isZ_nil {a : Su} (h : isZ a = true) : a = .nil := by cases a <;> simp_all [isZ]
theorem elems_take (d r : Su) : (elems (d.app r)).take d.len = elems d := by
  rw [elems_app, List.take_append_of_le_length (by rw [elems_length]; exact Nat.le_refl _), List.take_of_length_le (by rw [elems_length]; exact Nat.le_refl _)]
theorem elems_drop (d r : Su) : (elems (d.app r)).drop d.len = elems r := by
  rw [elems_app, List.drop_append_of_le_length (by rw [elems_length]; exact Nat.le_refl _), List.drop_of_length_le (by rw [elems_length]; exact Nat.le_refl _), List.nil_append]
theorem elems_cells_t (a : Su) : (∀ y ∈ elems a, y.cells.length = 3) = True := eq_true (fun y hy => elems_cells a y hy)
theorem take_all (a : Su) : (elems a).take a.len = elems a := List.take_of_length_le (by rw [elems_length]; exact Nat.le_refl _)
theorem elems_all (a : Su) : ((elems a).all fun y => y.cells.length == 3) = true := List.all_eq_true.2 fun y hy => by simp [elems_cells a y hy]

end Go.Proofs.Ytminjhhabonjaaa
