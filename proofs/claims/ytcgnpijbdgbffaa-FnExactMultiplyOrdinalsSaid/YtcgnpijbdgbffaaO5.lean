/-
  Ordinals as trees: natural sums. No program in sight.
-/
import Derived.Test.YtcgnpijbdgbffaaO4
namespace Go.Proofs.Ytcgnpijbdgbffaa
open Go K Od
set_option linter.unusedSimpArgs false
set_option linter.unusedVariables false

/-- A term is added naturally. -/
def meetT (e : Od) (c : Int) : Od → Od
  | .nil => .cons e c .nil
  | .cons x k r => if 0 < cmpT x e then .cons x k (meetT e c r) else if cmpT x e = 0 then .cons e (c + k) r else .cons e c (.cons x k r)
def joinT : Od → Od → Od
  | a, .nil => a
  | a, .cons e c r => joinT (meetT e c a) r
theorem joinT_cons (a e r : Od) (c : Int) : joinT a (.cons e c r) = joinT (meetT e c a) r := rfl
/-- Two are merged. -/
def mergeT : Od → Od → Od
  | .nil, b => b
  | .cons x k a, .nil => .cons x k a
  | .cons x k a, .cons e c b => if 0 < cmpT x e then .cons x k (mergeT a (.cons e c b)) else if cmpT x e = 0 then .cons e (k + c) (mergeT a b) else .cons e c (mergeT (.cons x k a) b)
termination_by a b => a.len + b.len
decreasing_by all_goals simp only [len]; omega
theorem merge_nil (a : Od) : mergeT a .nil = a := by cases a <;> simp [mergeT]
theorem merge_cons (x a e b : Od) (k c : Int) : mergeT (.cons x k a) (.cons e c b) = if 0 < cmpT x e then .cons x k (mergeT a (.cons e c b)) else if cmpT x e = 0 then .cons e (k + c) (mergeT a b) else .cons e c (mergeT (.cons x k a) b) := by
  rw [mergeT]
theorem join_head {x : Od} {k : Int} : ∀ {b a : Od}, (∀ q, desc q b → True) → desc (some x) b → joinT (.cons x k a) b = .cons x k (joinT a b)
  | .nil, _, _, _ => rfl
  | .cons e c b, a, h, hd => by
    have h1 : 0 < cmpT x e := by have := hd.1; simpa [below] using this
    have hb : desc (some x) b := by
      cases b with
      | nil => trivial
      | cons y k2 b2 =>
        have h2 := hd.2
        refine ⟨?_, h2.2⟩
        have h3 : 0 < cmpT e y := by have := h2.1; simpa [below] using this
        simp only [below, decide_eq_true_eq]
        exact cmpT_trans h1 h3
    rw [joinT_cons, joinT_cons]
    simp only [meetT]
    rw [if_pos h1, join_head (fun _ _ => trivial) hb]
theorem join_nil : ∀ {b : Od} {p : Option Od}, desc p b → joinT .nil b = b
  | .nil, _, _ => rfl
  | .cons e c b, p, h => by
    rw [joinT_cons]
    show joinT (.cons e c .nil) b = _
    rw [join_head (fun _ _ => trivial) h.2, join_nil h.2]
theorem join_merge : ∀ (a b : Od) {p : Option Od}, desc p b → joinT a b = mergeT a b
  | .nil, b, p, h => by rw [join_nil h, mergeT]
  | .cons x k a, .nil, p, h => by rw [merge_nil]; rfl
  | .cons x k a, .cons e c b, p, h => by
    rw [merge_cons]
    rcases Int.lt_trichotomy (cmpT x e) 0 with h1 | h1 | h1
    · rw [if_neg (by omega), if_neg (by omega), joinT_cons]
      simp only [meetT]
      rw [if_neg (by omega), if_neg (by omega), join_head (fun _ _ => trivial) h.2, join_merge (.cons x k a) b h.2]
    · rw [if_neg (by omega), if_pos h1, joinT_cons]
      simp only [meetT]
      rw [if_neg (by omega), if_pos h1, join_head (fun _ _ => trivial) h.2, join_merge a b h.2, Int.add_comm]
    · have hx : desc (some x) (.cons e c b) := ⟨by simpa [below] using h1, h.2⟩
      rw [if_pos h1, join_head (fun _ _ => trivial) hx, join_merge a (.cons e c b) hx]
termination_by a b => a.len + b.len
decreasing_by all_goals simp only [len]; omega

theorem mergeT_sz : ∀ a b : Od, (mergeT a b).sz ≤ a.sz + b.sz
  | .nil, b => by rw [mergeT]; simp [sz]
  | .cons x k a, .nil => by rw [merge_nil]; omega
  | .cons x k a, .cons e c b => by
    have h1 := mergeT_sz a (.cons e c b)
    have h2 := mergeT_sz a b
    have h3 := mergeT_sz (.cons x k a) b
    rw [merge_cons]
    simp only [sz] at h1 h2 h3 ⊢
    split
    · simp only [sz]; omega
    · split
      · simp only [sz]; omega
      · simp only [sz]; omega
termination_by a b => a.len + b.len
decreasing_by all_goals simp only [len]; omega

end Go.Proofs.Ytcgnpijbdgbffaa
