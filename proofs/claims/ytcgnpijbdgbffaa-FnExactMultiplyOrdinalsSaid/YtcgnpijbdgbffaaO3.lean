/-
  Ordinals as trees: differences. No program in sight.
-/
import Derived.Test.YtcgnpijbdgbffaaO2
namespace Go.Proofs.Ytcgnpijbdgbffaa
open Go K Od
set_option linter.unusedSimpArgs false
set_option linter.unusedVariables false

/-- What makes the second up to the first. -/
def lessS : Od → Od → Od
  | .nil, _ => .nil
  | .cons e c r, .nil => .cons e c r
  | .cons e c r, .cons e' c' r' => if cmpT e e' ≠ 0 then .cons e c r else if c ≠ c' then .cons e (c - c') r else lessS r r'
theorem lessS_cons (e e' : Od) (c c' : Int) (r r' : Od) : lessS (.cons e c r) (.cons e' c' r') = if cmpT e e' ≠ 0 then .cons e c r else if c ≠ c' then .cons e (c - c') r else lessS r r' := rfl
theorem lessS_nil (a : Od) : lessS a .nil = a := by cases a <;> rfl
theorem lessS_sz : ∀ a b : Od, (lessS a b).sz ≤ a.sz
  | .nil, _ => by simp [lessS, sz]
  | .cons e c r, .nil => by simp [lessS]
  | .cons e c r, .cons e' c' r' => by
    have := lessS_sz r r'
    unfold lessS
    split
    · exact Nat.le_refl _
    · split
      · simp [sz]
      · simp only [sz]; omega

end Go.Proofs.Ytcgnpijbdgbffaa
