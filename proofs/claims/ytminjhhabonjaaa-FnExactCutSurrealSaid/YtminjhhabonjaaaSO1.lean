/-
  Surreals as trees: their order, and which are right. No program in sight.
-/
import Derived.Test.YtminjhhabonjaaaT1S
import Derived.Test.YtminjhhabonjaaaF2
namespace Go.Proofs.Ytminjhhabonjaaa
open Go K Su
set_option linter.unusedSimpArgs false
set_option linter.unusedVariables false

theorem wr_id {x : Int} (h1 : -9223372036854775808 ≤ x) (h2 : x ≤ 9223372036854775807) : IntKind.i64.wrap x = x := w64_id h1 h2
theorem cmpI_cases (a b : Int) : (a < b ∧ cmpI a b = -1) ∨ (a = b ∧ cmpI a b = 0) ∨ (b < a ∧ cmpI a b = 1) := by
  unfold cmpI; omega
theorem gcdL_size : ∀ (n : Nat) (a b : Int), b.natAbs < n → (gcdL n a b).natAbs ≤ max a.natAbs b.natAbs ∧ (b ≠ 0 → gcdL n a b ≠ 0) ∧ (b = 0 → gcdL n a b = a)
  | 0, a, b, h => by omega
  | n + 1, a, b, h => by
    by_cases hb : b = 0
    · subst hb; simp [gcdL]
    · have h1 := tmod_lt (a := a) hb
      obtain ⟨h2, h3, h4⟩ := gcdL_size n b (a.tmod b) (by omega)
      have e : gcdL (n + 1) a b = gcdL n b (a.tmod b) := by simp [gcdL, hb]
      rw [e]
      refine ⟨by omega, fun _ => ?_, fun h => absurd h hb⟩
      by_cases hz : a.tmod b = 0
      · rw [h4 hz]; exact hb
      · exact h3 hz
theorem absW_small {n : Int} (h : n.natAbs ≤ 9000000000000000000) : absW n = n.natAbs := by
  unfold absW
  have := w64_id (x := 0 - n) (by omega) (by omega)
  simp only [w64] at this
  rw [this]
  split <;> omega
theorem gcdL_gcd : ∀ (k : Nat) (a b : Int), b.natAbs < k → (gcdL k a b).natAbs = Nat.gcd a.natAbs b.natAbs
  | 0, a, b, h => by omega
  | k + 1, a, b, h => by
    by_cases hb : b = 0
    · subst hb; simp [gcdL]
    · have h1 := tmod_lt (a := a) hb
      rw [show gcdL (k + 1) a b = gcdL k b (a.tmod b) by simp [gcdL, hb], gcdL_gcd k b (a.tmod b) (by omega), Int.natAbs_tmod, Nat.gcd_comm, ← Nat.gcd_rec, Nat.gcd_comm]
theorem gcdI_gcd {n d : Int} (hd : d ≠ 0) (h1 : n.natAbs ≤ 9000000000000000) (h2 : d.natAbs ≤ 9000000000000000) : gcdI n d = (Nat.gcd n.natAbs d.natAbs : Nat) := by
  obtain ⟨h3, h4, _⟩ := gcdL_size (d.natAbs + 1) n d (by omega)
  unfold gcdI
  rw [absW_small (by omega), gcdL_gcd _ _ _ (by omega)]

/-- A right coefficient. -/
def okC (c : Int × Int) : Bool := goodB c.1 c.2 && !(c.1 == 0)
/-- How two fractions are ordered. -/
def frI (c c' : Int × Int) : Int := cmpI (c.1 * c'.2) (c'.1 * c.2)
theorem frI_refl (c : Int × Int) : frI c c = 0 := by simp [frI, cmpI]
theorem frI_zero {c c' : Int × Int} (h : goodB c.1 c.2 = true) (h' : goodB c'.1 c'.2 = true) (hz : frI c c' = 0) : c = c' := by
  obtain ⟨n, d⟩ := c
  obtain ⟨n', d'⟩ := c'
  simp only at h h'
  have r := good_range h
  have r' := good_range h'
  have g : gcdI n d = 1 := by simp only [goodB, Bool.and_eq_true, beq_iff_eq] at h; exact h.2
  have g' : gcdI n' d' = 1 := by simp only [goodB, Bool.and_eq_true, beq_iff_eq] at h'; exact h'.2
  rw [gcdI_gcd (by omega) (by omega) (by omega)] at g g'
  have g1 : Nat.gcd n.natAbs d.natAbs = 1 := by omega
  have g2 : Nat.gcd n'.natAbs d'.natAbs = 1 := by omega
  have e : n * d' = n' * d := by
    have hz' : cmpI (n * d') (n' * d) = 0 := hz
    rcases cmpI_cases (n * d') (n' * d) with h2 | h2 | h2 <;> omega
  have e2 : n.natAbs * d'.natAbs = n'.natAbs * d.natAbs := by rw [← Int.natAbs_mul, e, Int.natAbs_mul]
  have v1 : d.natAbs ∣ d'.natAbs := Nat.Coprime.dvd_of_dvd_mul_left (m := n.natAbs) (by rw [Nat.coprime_comm]; exact g1) ⟨n'.natAbs, by rw [e2, Nat.mul_comm]⟩
  have v2 : d'.natAbs ∣ d.natAbs := Nat.Coprime.dvd_of_dvd_mul_left (m := n'.natAbs) (by rw [Nat.coprime_comm]; exact g2) ⟨n.natAbs, by rw [← e2, Nat.mul_comm]⟩
  have v3 := Nat.dvd_antisymm v1 v2
  have hd : d = d' := by omega
  subst hd
  have hn : n = n' := Int.eq_of_mul_eq_mul_right (by omega) e
  subst hn; rfl
theorem frI_range {a b : Int × Int} : frI a b = -1 ∨ frI a b = 0 ∨ frI a b = 1 := by
  unfold frI; rcases cmpI_cases (a.1 * b.2) (b.1 * a.2) with h | h | h <;> omega

/-- The sign of a number's first coefficient. -/
def sgn (c : Int × Int) : Int := cmpI c.1 0
theorem sgn_range (c : Int × Int) : sgn c = -1 ∨ sgn c = 0 ∨ sgn c = 1 := by
  unfold sgn; rcases cmpI_cases c.1 0 with h | h | h <;> omega
/-- The order of two. -/
def cmpT : Su → Su → Int
  | .nil, .nil => 0
  | .nil, .cons _ c _ => - sgn c
  | .cons _ c _, .nil => sgn c
  | .cons e c r, .cons e' c' r' => if 0 < cmpT e e' then sgn c else if cmpT e e' < 0 then - sgn c' else if frI c c' ≠ 0 then frI c c' else cmpT r r'
theorem cmpT_cons (e e' : Su) (c c' : Int × Int) (r r' : Su) : cmpT (.cons e c r) (.cons e' c' r') = if 0 < cmpT e e' then sgn c else if cmpT e e' < 0 then - sgn c' else if frI c c' ≠ 0 then frI c c' else cmpT r r' := rfl
theorem cmpT_range : ∀ a b : Su, cmpT a b = -1 ∨ cmpT a b = 0 ∨ cmpT a b = 1
  | .nil, .nil => .inr (.inl rfl)
  | .nil, .cons _ c _ => by have := sgn_range c; simp only [cmpT]; omega
  | .cons _ c _, .nil => by have := sgn_range c; simp only [cmpT]; omega
  | .cons e c r, .cons e' c' r' => by
    have h1 := cmpT_range r r'
    have h2 := sgn_range c
    have h3 := sgn_range c'
    have h4 := @frI_range c c'
    rw [cmpT_cons]
    (repeat' split) <;> omega

/-- Terms fall, and coefficients are in their range, down to a depth; 'p': the exponent ahead. -/
def below (p : Option Su) (e : Su) : Bool := match p with | none => true | some q => decide (0 < cmpT q e)
def formG : Su → Nat → Option Su → Bool
  | .nil, _, _ => true
  | .cons e c r, n, p => okC c && (match n with | 0 => false | n + 1 => formG e n none) && below p e && formG r n (some e)
def formP (e : Su) : Nat → Bool
  | 0 => false
  | n + 1 => formG e n none
theorem formG_cons (e r : Su) (c : Int × Int) (n : Nat) (p : Option Su) : formG (.cons e c r) n p = (okC c && formP e n && below p e && formG r n (some e)) := by
  cases n <;> rfl
/-- What is left of nodes. -/
def leftL : Su → Nat → Int → Int
  | .nil, _, l => l
  | .cons e _ r, n, l => if l < 0 ∨ n = 0 then -1 else leftL r n (leftL e (n - 1) (l - 2))
theorem leftL_cons (e r : Su) (c : Int × Int) (n : Nat) (l : Int) : leftL (.cons e c r) n l = if l < 0 ∨ n = 0 then -1 else leftL r n (leftL e (n - 1) (l - 2)) := rfl
/-- A right ordinal. -/
def goodT (a : Su) : Bool := decide (2 * a.sz ≤ 59) && formG a 6 none
/-- How nodes are counted on the way. -/
def atL : Su → Nat → Int → Option Su → Bool × Int
  | .nil, _, k, _ => (true, k)
  | .cons e c r, d, k, p =>
    if 60 < k + 1 ∨ okC c = false then (false, k + 1)
    else if 60 < k + 2 ∨ 6 < d + 1 then (false, k + 2)
    else if (atL e (d + 1) (k + 2) none).1 = false then (false, (atL e (d + 1) (k + 2) none).2)
    else if below p e = false then (false, (atL e (d + 1) (k + 2) none).2)
    else atL r d (atL e (d + 1) (k + 2) none).2 (some e)

theorem leftL_spec : ∀ (a : Su) (n : Nat) (l : Int), 0 ≤ leftL a n l → leftL a n l = l - 2 * a.sz
  | .nil, n, l => by simp [leftL, sz]
  | .cons e c r, n, l => by
    have h1 := leftL_spec e (n - 1) (l - 2)
    have h2 := leftL_spec r n (leftL e (n - 1) (l - 2))
    unfold leftL
    split
    · omega
    · simp only [sz]
      intro h
      have h3 := h2 h
      have h4 : 0 ≤ leftL e (n - 1) (l - 2) := by
        cases r with
        | nil => simpa [leftL] using h
        | cons e2 c2 r2 =>
          by_cases h5 : leftL e (n - 1) (l - 2) < 0
          · unfold leftL at h; rw [if_pos (.inl h5)] at h; omega
          · omega
      have h6 := h1 h4
      omega
theorem leftL_form : ∀ (a : Su) (n : Nat) (l : Int) (p : Option Su), formG a n p = true → 2 * (a.sz : Int) ≤ l → leftL a n l = l - 2 * a.sz
  | .nil, n, l, p, _, h => by simp [leftL, sz]
  | .cons e c r, 0, l, p, hf, h => by simp [formG] at hf
  | .cons e c r, n + 1, l, p, hf, h => by
    simp only [formG, Bool.and_eq_true] at hf
    simp only [sz] at h ⊢
    unfold leftL
    have hc : ¬ (l < 0 ∨ n + 1 = 0) := by omega
    have h1 := leftL_form e n (l - 2) none hf.1.1.2 (by omega)
    have h2 := leftL_form r (n + 1) (l - 2 - 2 * e.sz) (some e) hf.2 (by omega)
    rw [if_neg hc]
    simp only [Nat.add_sub_cancel]
    rw [h1, h2]
    omega
theorem left_good (a : Su) : (decide (0 ≤ leftL a 6 59) && formG a 6 none) = goodT a := by
  unfold goodT
  cases hf : formG a 6 none
  · simp
  · simp only [Bool.and_true]
    rw [Bool.eq_iff_iff, decide_eq_true_eq, decide_eq_true_eq]
    constructor
    · intro h; have := leftL_spec a 6 59 h; omega
    · intro h; have := leftL_form a 6 59 none hf (by omega); omega
theorem atL_spec : ∀ (a : Su) (d n : Nat) (k : Int) (p : Option Su), d + n = 6 → k ≤ 60 → (((atL a d k p).1 = true ↔ (formG a n p = true ∧ k + 2 * a.sz ≤ 60)) ∧ ((atL a d k p).1 = true → (atL a d k p).2 = k + 2 * a.sz))
  | .nil, d, n, k, p, _, h => by simp [atL, formG, sz]; omega
  | .cons e c r, d, 0, k, p, hd, h => by
    unfold atL
    split
    · simp [formG]
    · rw [if_pos (.inr (by omega))]; simp [formG]
  | .cons e c r, d, n + 1, k, p, hd, h => by
    have h1 := atL_spec e (d + 1) n (k + 2) none (by omega)
    unfold atL
    simp only [formG, sz, Bool.and_eq_true]
    split
    · rename_i hc
      rcases hc with hc | hc
      · simp; intros; omega
      · simp [hc]
    · rename_i hc
      simp only [not_or, Bool.not_eq_false] at hc
      split
      · simp; intros; omega
      · rename_i hk
        simp only [not_or] at hk
        have h1 := h1 (by omega)
        split
        · rename_i hb
          simp only [Bool.false_eq_true, false_iff, not_and, false_implies, and_true]
          intro q
          have h3 := h1.1
          rw [hb] at h3
          simp only [Bool.false_eq_true, false_iff, not_and] at h3
          have := h3 q.1.1.2
          omega
        · rename_i hb
          simp only [Bool.not_eq_false] at hb
          have h3 := h1.1.1 hb
          have h4 := h1.2 hb
          split
          · rename_i hbl
            simp [hbl]
          · rename_i hbl
            simp only [Bool.not_eq_false] at hbl
            rw [h4]
            have h5 := atL_spec r d (n + 1) (k + 2 + 2 * e.sz) (some e) hd (by omega)
            rw [h5.1]
            constructor
            · constructor
              · rintro ⟨q1, q2⟩; exact ⟨⟨⟨⟨hc.2, h3.1⟩, hbl⟩, q1⟩, by omega⟩
              · rintro ⟨⟨⟨⟨_, _⟩, _⟩, q1⟩, q2⟩; exact ⟨q1, by omega⟩
            · intro q
              rw [h5.2 (h5.1.2 q)]; omega

theorem at_good (a : Su) : (atL a 0 1 none).1 = goodT a := by
  have h := (atL_spec a 0 6 1 none rfl (by omega)).1
  unfold goodT
  rw [Bool.eq_iff_iff, h, Bool.and_eq_true, decide_eq_true_eq]
  constructor
  · rintro ⟨h1, h2⟩; exact ⟨by omega, h1⟩
  · rintro ⟨h1, h2⟩; exact ⟨h2, by omega⟩
theorem at_nodes {a : Su} (h : goodT a = true) : (atL a 0 1 none).2 = 1 + 2 * a.sz := (atL_spec a 0 6 1 none rfl (by omega)).2 (by rw [at_good]; exact h)

/-- Coefficients are right, down to all depths. -/
def rng : Su → Prop
  | .nil => True
  | .cons e c r => okC c = true ∧ rng e ∧ rng r
theorem formG_rng : ∀ {a : Su} {n : Nat} {p : Option Su}, formG a n p = true → rng a
  | .nil, _, _, _ => trivial
  | .cons e c r, 0, p, h => by simp [formG] at h
  | .cons e c r, n + 1, p, h => by
    simp only [formG, Bool.and_eq_true] at h
    exact ⟨h.1.1.1, formG_rng h.1.1.2, formG_rng h.2⟩
theorem goodT_rng {a : Su} (h : goodT a = true) : rng a := by
  simp only [goodT, Bool.and_eq_true] at h; exact formG_rng h.2
theorem okC_good {c : Int × Int} (h : okC c = true) : goodB c.1 c.2 = true ∧ c.1 ≠ 0 := by
  simp only [okC, Bool.and_eq_true, Bool.not_eq_true', beq_eq_false_iff_ne] at h; exact h
/-- How the reference orders two. -/
theorem cmpT_spec {e e' r r' : Su} {c c' : Int × Int} (h : okC c = true) (h' : okC c' = true) : cmpT (.cons e c r) (.cons e' c' r') = if 0 < cmpT e e' then sgn c else if cmpT e e' < 0 then - sgn c' else if c ≠ c' then frI c c' else cmpT r r' := by
  rw [cmpT_cons]
  by_cases hc : c = c'
  · subst hc; simp [frI_refl]
  · have : frI c c' ≠ 0 := fun q => hc (frI_zero (okC_good h).1 (okC_good h').1 q)
    simp [hc, this]

end Go.Proofs.Ytminjhhabonjaaa
