/-
  Ordinals as trees: their order, and which are right. No program in sight.
-/
import Derived.Test.YtminjhhabonjaaaT1
namespace Go.Proofs.Ytminjhhabonjaaa
open Go K Od
set_option linter.unusedSimpArgs false
set_option linter.unusedVariables false

def inB (n lo hi : Int) : Bool := decide (lo ≤ n) && decide (n ≤ hi)
def cmpI (a b : Int) : Int := if a < b then -1 else if b < a then 1 else 0
theorem cmpI_cases (a b : Int) : (a < b ∧ cmpI a b = -1) ∨ (a = b ∧ cmpI a b = 0) ∨ (b < a ∧ cmpI a b = 1) := by
  unfold cmpI; omega

/-- The order of two. -/
def cmpT : Od → Od → Int
  | .nil, .nil => 0
  | .nil, .cons _ _ _ => -1
  | .cons _ _ _, .nil => 1
  | .cons e c r, .cons e' c' r' => if cmpT e e' ≠ 0 then cmpT e e' else if c ≠ c' then cmpI c c' else cmpT r r'

theorem cmpT_cons (e e' : Od) (c c' : Int) (r r' : Od) : cmpT (.cons e c r) (.cons e' c' r') = if cmpT e e' ≠ 0 then cmpT e e' else if c ≠ c' then cmpI c c' else cmpT r r' := rfl
theorem cmpT_refl : ∀ a : Od, cmpT a a = 0
  | .nil => rfl
  | .cons e c r => by simp [cmpT, cmpT_refl e, cmpT_refl r]
theorem cmpT_range : ∀ a b : Od, cmpT a b = -1 ∨ cmpT a b = 0 ∨ cmpT a b = 1
  | .nil, .nil => .inr (.inl rfl)
  | .nil, .cons _ _ _ => .inl rfl
  | .cons _ _ _, .nil => .inr (.inr rfl)
  | .cons e c r, .cons e' c' r' => by
    unfold cmpT
    split
    · exact cmpT_range e e'
    · split
      · rcases cmpI_cases c c' with h | h | h <;> omega
      · exact cmpT_range r r'
theorem cmpT_zero : ∀ {a b : Od}, cmpT a b = 0 → a = b
  | .nil, .nil, _ => rfl
  | .nil, .cons _ _ _, h => by simp [cmpT] at h
  | .cons _ _ _, .nil, h => by simp [cmpT] at h
  | .cons e c r, .cons e' c' r', h => by
    unfold cmpT at h
    split at h
    · contradiction
    · rename_i h1
      split at h
      · rcases cmpI_cases c c' with h2 | h2 | h2 <;> omega
      · rename_i h2
        rw [cmpT_zero (a := e) (b := e') (by omega), cmpT_zero h, Decidable.not_not.1 h2]
theorem cmpT_anti : ∀ a b : Od, cmpT b a = - cmpT a b
  | .nil, .nil => rfl
  | .nil, .cons _ _ _ => rfl
  | .cons _ _ _, .nil => rfl
  | .cons e c r, .cons e' c' r' => by
    have h1 := cmpT_anti e e'
    have h2 := cmpT_anti r r'
    unfold cmpT
    by_cases h : cmpT e e' = 0
    · have e1 : cmpT e' e = 0 := by omega
      simp only [e1, h, ne_eq, not_true_eq_false, if_false]
      by_cases hc : c = c'
      · subst hc; simpa using h2
      · have hc' : ¬ c' = c := fun q => hc q.symm
        simp only [hc, hc', not_false_eq_true, if_true]
        rcases cmpI_cases c c' with h3 | h3 | h3 <;> rcases cmpI_cases c' c with h4 | h4 | h4 <;> omega
    · have e1 : ¬ cmpT e' e = 0 := by omega
      simp only [e1, h, ne_eq, not_false_eq_true, if_true]; exact h1
theorem cmpT_trans : ∀ {a b c : Od}, 0 < cmpT a b → 0 < cmpT b c → 0 < cmpT a c
  | .nil, .nil, _, h, _ => by simp [cmpT] at h
  | .nil, .cons _ _ _, _, h, _ => by simp [cmpT] at h
  | .cons _ _ _, .nil, .nil, _, h => by simp [cmpT] at h
  | .cons _ _ _, .nil, .cons _ _ _, _, h => by simp [cmpT] at h
  | .cons _ _ _, .cons _ _ _, .nil, _, _ => by simp [cmpT]
  | .cons e c r, .cons e1 c1 r1, .cons e2 c2 r2, h1, h2 => by
    unfold cmpT at h1 h2 ⊢
    by_cases q1 : cmpT e e1 = 0
    · have := cmpT_zero q1
      subst this
      rw [if_neg (by omega)] at h1
      by_cases q2 : cmpT e e2 = 0
      · rw [if_neg (by omega)] at h2 ⊢
        rcases cmpI_cases c c1 with k1 | k1 | k1 <;> rcases cmpI_cases c1 c2 with k2 | k2 | k2 <;> rcases cmpI_cases c c2 with k3 | k3 | k3 <;> (repeat' split at h1) <;> (repeat' split at h2) <;> (repeat' split) <;> (try omega)
        exact cmpT_trans h1 h2
      · rw [if_pos (by omega)] at h2 ⊢; exact h2
    · rw [if_pos (by omega)] at h1
      by_cases q2 : cmpT e1 e2 = 0
      · have := cmpT_zero q2
        subst this
        rw [if_pos (by omega)]; exact h1
      · rw [if_pos (by omega)] at h2
        have := cmpT_trans h1 h2
        rw [if_pos (by omega)]; exact this

/-- Terms fall, and coefficients are in their range, down to a depth; 'p': the exponent ahead. -/
def below (p : Option Od) (e : Od) : Bool := match p with | none => true | some q => decide (0 < cmpT q e)
def formG : Od → Nat → Option Od → Bool
  | .nil, _, _ => true
  | .cons e c r, n, p => inB c 1 1000000 && (match n with | 0 => false | n + 1 => formG e n none) && below p e && formG r n (some e)
def formP (e : Od) : Nat → Bool
  | 0 => false
  | n + 1 => formG e n none
theorem formG_cons (e r : Od) (c : Int) (n : Nat) (p : Option Od) : formG (.cons e c r) n p = (inB c 1 1000000 && formP e n && below p e && formG r n (some e)) := by
  cases n <;> rfl
/-- What is left of nodes. -/
def leftL : Od → Nat → Int → Int
  | .nil, _, l => l
  | .cons e _ r, n, l => if l < 0 ∨ n = 0 then -1 else leftL r n (leftL e (n - 1) (l - 2))
theorem leftL_cons (e r : Od) (c : Int) (n : Nat) (l : Int) : leftL (.cons e c r) n l = if l < 0 ∨ n = 0 then -1 else leftL r n (leftL e (n - 1) (l - 2)) := rfl
/-- A right ordinal. -/
def goodT (a : Od) : Bool := decide (2 * a.sz ≤ 59) && formG a 6 none
/-- How nodes are counted on the way. -/
def atL : Od → Nat → Int → Option Od → Bool × Int
  | .nil, _, k, _ => (true, k)
  | .cons e c r, d, k, p =>
    if 60 < k + 1 ∨ inB c 1 1000000 = false then (false, k + 1)
    else if 60 < k + 2 ∨ 6 < d + 1 then (false, k + 2)
    else if (atL e (d + 1) (k + 2) none).1 = false then (false, (atL e (d + 1) (k + 2) none).2)
    else if below p e = false then (false, (atL e (d + 1) (k + 2) none).2)
    else atL r d (atL e (d + 1) (k + 2) none).2 (some e)

theorem leftL_spec : ∀ (a : Od) (n : Nat) (l : Int), 0 ≤ leftL a n l → leftL a n l = l - 2 * a.sz
  | .nil, n, l => by simp [leftL, sz]
  | .cons e c r, n, l => by
    have h1 := leftL_spec e (n - 1) (l - 2)
    have h2 := leftL_spec r n (leftL e (n - 1) (l - 2))
    unfold leftL
    split
    · omega
    · simp only [sz]
      intro h
      have h3 := h2 h
      have h4 : 0 ≤ leftL e (n - 1) (l - 2) := by
        cases r with
        | nil => simpa [leftL] using h
        | cons e2 c2 r2 =>
          by_cases h5 : leftL e (n - 1) (l - 2) < 0
          · unfold leftL at h; rw [if_pos (.inl h5)] at h; omega
          · omega
      have h6 := h1 h4
      omega
theorem leftL_form : ∀ (a : Od) (n : Nat) (l : Int) (p : Option Od), formG a n p = true → 2 * (a.sz : Int) ≤ l → leftL a n l = l - 2 * a.sz
  | .nil, n, l, p, _, h => by simp [leftL, sz]
  | .cons e c r, 0, l, p, hf, h => by simp [formG] at hf
  | .cons e c r, n + 1, l, p, hf, h => by
    simp only [formG, Bool.and_eq_true] at hf
    simp only [sz] at h ⊢
    unfold leftL
    have hc : ¬ (l < 0 ∨ n + 1 = 0) := by omega
    have h1 := leftL_form e n (l - 2) none hf.1.1.2 (by omega)
    have h2 := leftL_form r (n + 1) (l - 2 - 2 * e.sz) (some e) hf.2 (by omega)
    rw [if_neg hc]
    simp only [Nat.add_sub_cancel]
    rw [h1, h2]
    omega
theorem left_good (a : Od) : (decide (0 ≤ leftL a 6 59) && formG a 6 none) = goodT a := by
  unfold goodT
  cases hf : formG a 6 none
  · simp
  · simp only [Bool.and_true]
    rw [Bool.eq_iff_iff, decide_eq_true_eq, decide_eq_true_eq]
    constructor
    · intro h; have := leftL_spec a 6 59 h; omega
    · intro h; have := leftL_form a 6 59 none hf (by omega); omega
theorem atL_spec : ∀ (a : Od) (d n : Nat) (k : Int) (p : Option Od), d + n = 6 → k ≤ 60 → (((atL a d k p).1 = true ↔ (formG a n p = true ∧ k + 2 * a.sz ≤ 60)) ∧ ((atL a d k p).1 = true → (atL a d k p).2 = k + 2 * a.sz))
  | .nil, d, n, k, p, _, h => by simp [atL, formG, sz]; omega
  | .cons e c r, d, 0, k, p, hd, h => by
    unfold atL
    split
    · simp [formG]
    · rw [if_pos (.inr (by omega))]; simp [formG]
  | .cons e c r, d, n + 1, k, p, hd, h => by
    have h1 := atL_spec e (d + 1) n (k + 2) none (by omega)
    unfold atL
    simp only [formG, sz, Bool.and_eq_true]
    split
    · rename_i hc
      rcases hc with hc | hc
      · simp; intros; omega
      · simp [hc]
    · rename_i hc
      simp only [not_or, Bool.not_eq_false] at hc
      split
      · simp; intros; omega
      · rename_i hk
        simp only [not_or] at hk
        have h1 := h1 (by omega)
        split
        · rename_i hb
          simp only [Bool.false_eq_true, false_iff, not_and, false_implies, and_true]
          intro q
          have h3 := h1.1
          rw [hb] at h3
          simp only [Bool.false_eq_true, false_iff, not_and] at h3
          have := h3 q.1.1.2
          omega
        · rename_i hb
          simp only [Bool.not_eq_false] at hb
          have h3 := h1.1.1 hb
          have h4 := h1.2 hb
          split
          · rename_i hbl
            simp [hbl]
          · rename_i hbl
            simp only [Bool.not_eq_false] at hbl
            rw [h4]
            have h5 := atL_spec r d (n + 1) (k + 2 + 2 * e.sz) (some e) hd (by omega)
            rw [h5.1]
            constructor
            · constructor
              · rintro ⟨q1, q2⟩; exact ⟨⟨⟨⟨hc.2, h3.1⟩, hbl⟩, q1⟩, by omega⟩
              · rintro ⟨⟨⟨⟨_, _⟩, _⟩, q1⟩, q2⟩; exact ⟨q1, by omega⟩
            · intro q
              rw [h5.2 (h5.1.2 q)]; omega

theorem at_good (a : Od) : (atL a 0 1 none).1 = goodT a := by
  have h := (atL_spec a 0 6 1 none rfl (by omega)).1
  unfold goodT
  rw [Bool.eq_iff_iff, h, Bool.and_eq_true, decide_eq_true_eq]
  constructor
  · rintro ⟨h1, h2⟩; exact ⟨by omega, h1⟩
  · rintro ⟨h1, h2⟩; exact ⟨h2, by omega⟩
theorem at_nodes {a : Od} (h : goodT a = true) : (atL a 0 1 none).2 = 1 + 2 * a.sz := (atL_spec a 0 6 1 none rfl (by omega)).2 (by rw [at_good]; exact h)

/-- Coefficients in their range, down to all depths. -/
def rng : Od → Prop
  | .nil => True
  | .cons e c r => 1 ≤ c ∧ c ≤ 1000000 ∧ rng e ∧ rng r
theorem formG_rng : ∀ {a : Od} {n : Nat} {p : Option Od}, formG a n p = true → rng a
  | .nil, _, _, _ => trivial
  | .cons e c r, 0, p, h => by simp [formG] at h
  | .cons e c r, n + 1, p, h => by
    simp only [formG, Bool.and_eq_true, inB, decide_eq_true_eq] at h
    exact ⟨h.1.1.1.1, h.1.1.1.2, formG_rng h.1.1.2, formG_rng h.2⟩
theorem goodT_rng {a : Od} (h : goodT a = true) : rng a := by
  simp only [goodT, Bool.and_eq_true] at h; exact formG_rng h.2

end Go.Proofs.Ytminjhhabonjaaa
