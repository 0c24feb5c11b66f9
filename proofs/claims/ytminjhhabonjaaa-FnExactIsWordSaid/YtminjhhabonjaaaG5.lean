/-
  Ordinals: the laws' marks.
-/
import Derived.Test.YtminjhhabonjaaaG4
namespace Go.Proofs.Ytminjhhabonjaaa
open Go K Od
set_option linter.unusedSimpArgs false
set_option linter.unusedVariables false
set_option maxHeartbeats 400000

/-- A tree whose coefficients are the numbers from 'k' on. -/
def mk : Od → Int → Od
  | .nil, _ => .nil
  | .cons e _ r, k => .cons (mk e k) (k + e.sz) (mk r (k + e.sz + 1))
theorem mk_len : ∀ (a : Od) (k : Int), (mk a k).len = a.len
  | .nil, _ => rfl
  | .cons e c r, k => by simp [mk, len, mk_len r]
theorem mk_sz : ∀ (a : Od) (k : Int), (mk a k).sz = a.sz
  | .nil, _ => rfl
  | .cons e c r, k => by simp [mk, sz, mk_sz e, mk_sz r]
theorem mk_app : ∀ (d r : Od) (k : Int), mk (d.app r) k = (mk d k).app (mk r (k + d.sz))
  | .nil, r, k => by simp [mk, app, sz]
  | .cons e c d, r, k => by
    simp only [mk, app, sz, mk_app d r]
    rw [show k + (e.sz : Int) + 1 + (d.sz : Int) = k + ((e.sz + d.sz + 1 : Nat) : Int) by omega]

end Go.Proofs.Ytminjhhabonjaaa
