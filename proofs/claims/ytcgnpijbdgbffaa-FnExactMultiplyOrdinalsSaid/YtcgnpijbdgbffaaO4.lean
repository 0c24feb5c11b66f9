/-
  Ordinals as trees: sums. No program in sight.
-/
import Derived.Test.YtcgnpijbdgbffaaO3
namespace Go.Proofs.Ytcgnpijbdgbffaa
open Go K Od
set_option linter.unusedSimpArgs false
set_option linter.unusedVariables false

/-- Exponents decrease. -/
def desc : Option Od → Od → Prop
  | _, .nil => True
  | p, .cons e c r => below p e = true ∧ desc (some e) r
theorem formG_desc : ∀ {a : Od} {n : Nat} {p : Option Od}, formG a n p = true → desc p a
  | .nil, _, _, _ => trivial
  | .cons e c r, n, p, h => by
    rw [formG_cons] at h
    simp only [Bool.and_eq_true] at h
    exact ⟨h.1.2, formG_desc h.2⟩
theorem goodT_desc {a : Od} (h : goodT a = true) : desc none a := by
  simp only [goodT, Bool.and_eq_true] at h; exact formG_desc h.2

/-- What a sum's second part does to the first. -/
def plusA (e : Od) (c : Int) (r : Od) : Od → Od
  | .nil => .cons e c r
  | .cons x k q => if 0 < cmpT x e then .cons x k (plusA e c r q) else if cmpT x e = 0 then .cons x (k + c) r else plusA e c r q
def plusT (a : Od) : Od → Od
  | .nil => a
  | .cons e c r => plusA e c r a
/-- Terms that are less vanish. -/
def pop (e : Od) : Od → Od
  | .nil => .nil
  | .cons x k r => match pop e r with | .nil => if cmpT x e < 0 then .nil else .cons x k .nil | .cons x' k' q => .cons x k (.cons x' k' q)
theorem pop_snoc (e : Od) (x : Od) (k : Int) : ∀ d : Od, pop e (d.app (.cons x k .nil)) = if cmpT x e < 0 then pop e d else d.app (.cons x k .nil)
  | .nil => by simp only [Od.app, pop]
  | .cons x' k' d => by
    simp only [Od.app, pop, pop_snoc e x k d]
    by_cases hx : cmpT x e < 0
    · simp only [if_pos hx]
    · simp only [if_neg hx]
      cases h : d.app (.cons x k .nil) with
      | nil => have := congrArg len h; simp [len_app, len] at this
      | cons _ _ _ => rfl
def addEnd (e : Od) (c : Int) : Od → Od
  | .nil => .cons e c .nil
  | .cons x k .nil => if cmpT x e = 0 then .cons x (k + c) .nil else .cons x k (.cons e c .nil)
  | .cons x k (.cons x' k' r) => .cons x k (addEnd e c (.cons x' k' r))
theorem addEnd_snoc (e : Od) (c : Int) (x : Od) (k : Int) : ∀ d : Od, addEnd e c (d.app (.cons x k .nil)) = if cmpT x e = 0 then d.app (.cons x (k + c) .nil) else d.app (.cons x k (.cons e c .nil))
  | .nil => by simp only [Od.app, addEnd]
  | .cons x' k' .nil => by simp only [Od.app, addEnd]; split <;> rfl
  | .cons x' k' (.cons x2 k2 d) => by
    have := addEnd_snoc e c x k (.cons x2 k2 d)
    simp only [Od.app] at this
    simp only [Od.app, addEnd, this]; split <;> rfl
def odPlusT : Od → Od → Od
  | a, .nil => a
  | a, .cons e c r => odPlusT (addEnd e c (pop e a)) r
theorem odPlusT_cons (a e r : Od) (c : Int) : odPlusT a (.cons e c r) = odPlusT (addEnd e c (pop e a)) r := rfl

theorem cmp_lt {y x e : Od} (h1 : below (some y) x = true) (h2 : cmpT y e ≤ 0) : cmpT x e < 0 := by
  simp only [below, decide_eq_true_eq] at h1
  by_cases h : cmpT y e = 0
  · have := cmpT_zero h; subst this
    have := cmpT_anti y x; omega
  · have h3 : 0 < cmpT e y := by have := cmpT_anti y e; omega
    have := cmpT_trans h3 h1
    have := cmpT_anti e x; omega
theorem pop_all {e : Od} : ∀ {q y : Od}, desc (some y) q → cmpT y e ≤ 0 → pop e q = .nil
  | .nil, _, _, _ => rfl
  | .cons x k q, y, h1, h2 => by
    have h3 := cmp_lt h1.1 h2
    simp only [pop, pop_all h1.2 (Int.le_of_lt h3), if_pos h3]
theorem plusA_all {e r : Od} {c : Int} : ∀ {q y : Od}, desc (some y) q → cmpT y e ≤ 0 → plusA e c r q = .cons e c r
  | .nil, _, _, _ => rfl
  | .cons x k q, y, h1, h2 => by
    have h3 := cmp_lt h1.1 h2
    simp only [plusA]
    rw [if_neg (by omega), if_neg (by omega), plusA_all h1.2 (Int.le_of_lt h3)]
theorem plus_step {e r : Od} {c : Int} : ∀ {a : Od} {p : Option Od}, desc p a → ∃ (d : Od) (k : Int), addEnd e c (pop e a) = d.app (.cons e k .nil) ∧ plusA e c r a = d.app (.cons e k r)
  | .nil, _, _ => ⟨.nil, c, rfl, rfl⟩
  | .cons x k q, p, h => by
    rcases Int.lt_trichotomy (cmpT x e) 0 with h1 | h1 | h1
    · refine ⟨.nil, c, ?_, ?_⟩
      · simp only [pop, pop_all h.2 (Int.le_of_lt h1), if_pos h1]; rfl
      · simp only [plusA]
        rw [if_neg (by omega), if_neg (by omega), plusA_all h.2 (Int.le_of_lt h1)]; rfl
    · have hx := cmpT_zero h1
      refine ⟨.nil, k + c, ?_, ?_⟩
      · simp only [pop, pop_all h.2 (Int.le_of_eq h1)]
        rw [if_neg (by omega)]
        simp only [addEnd, if_pos h1]; rw [hx]; rfl
      · simp only [plusA]
        rw [if_neg (by omega), if_pos h1, hx]; rfl
    · obtain ⟨d, k', e1, e2⟩ := plus_step (e := e) (r := r) (c := c) h.2
      refine ⟨.cons x k d, k', ?_, ?_⟩
      · have h2 : pop e (.cons x k q) = .cons x k (pop e q) := by
          simp only [pop]
          cases pop e q with
          | nil => simp only; rw [if_neg (by omega)]
          | cons _ _ _ => rfl
        rw [h2]
        have h3 : addEnd e c (.cons x k (pop e q)) = .cons x k (addEnd e c (pop e q)) := by
          cases pop e q with
          | nil => simp only [addEnd]; rw [if_neg (by omega)]
          | cons _ _ _ => rfl
        rw [h3, e1]; rfl
      · simp only [plusA]
        rw [if_pos h1, e2]; rfl
theorem odPlus_end {e : Od} : ∀ {r : Od} (d : Od) (k : Int), desc (some e) r → odPlusT (d.app (.cons e k .nil)) r = d.app (.cons e k r)
  | .nil, d, k, _ => rfl
  | .cons e2 c2 r2, d, k, h => by
    have h1 : 0 < cmpT e e2 := by have := h.1; simpa [below] using this
    have h2 := odPlus_end (e := e2) (r := r2) (d.app (.cons e k .nil)) c2 h.2
    rw [odPlusT_cons, pop_snoc, if_neg (by omega), addEnd_snoc, if_neg (by omega)]
    have e1 : d.app (.cons e k (.cons e2 c2 .nil)) = (d.app (.cons e k .nil)).app (.cons e2 c2 .nil) := by rw [app_assoc]; rfl
    rw [e1, h2, app_assoc]; rfl
theorem plus_eq {a b : Od} {p q : Option Od} (ha : desc p a) (hb : desc q b) : odPlusT a b = plusT a b := by
  cases b with
  | nil => rfl
  | cons e c r =>
    obtain ⟨d, k, e1, e2⟩ := plus_step (e := e) (r := r) (c := c) ha
    rw [odPlusT_cons, e1, odPlus_end d k hb.2]
    exact e2.symm

theorem plusA_sz (e r : Od) (c : Int) : ∀ a : Od, (plusA e c r a).sz ≤ a.sz + (e.sz + r.sz + 1)
  | .nil => by simp [plusA, sz]
  | .cons x k q => by
    have := plusA_sz e r c q
    unfold plusA
    split
    · simp only [sz]; omega
    · split
      · simp only [sz]; omega
      · simp only [sz]; omega
theorem plusT_sz (a b : Od) : (plusT a b).sz ≤ a.sz + b.sz := by
  cases b with
  | nil => simp [plusT]
  | cons e c r => exact plusA_sz e r c a

/-- What bounds the terms of a sum on its way. -/
def bnd (m : Int) : Od → Prop
  | .nil => True
  | .cons e c r => rng e ∧ e.sz ≤ 1048576 ∧ -m ≤ c ∧ c ≤ m ∧ bnd m r
theorem bnd_mono {m m' : Int} (hm : m ≤ m') : ∀ {a : Od}, bnd m a → bnd m' a
  | .nil, _ => trivial
  | .cons e c r, h => ⟨h.1, h.2.1, by have := h.2.2.1; omega, by have := h.2.2.2.1; omega, bnd_mono hm h.2.2.2.2⟩
theorem bnd_app {m : Int} {b : Od} : ∀ {a : Od}, bnd m (a.app b) ↔ bnd m a ∧ bnd m b
  | .nil => by simp [Od.app, bnd]
  | .cons e c r => by
    have := bnd_app (m := m) (b := b) (a := r)
    simp only [Od.app, bnd, this]
    constructor
    · rintro ⟨h1, h2, h3, h4, h5, h6⟩; exact ⟨⟨h1, h2, h3, h4, h5⟩, h6⟩
    · rintro ⟨⟨h1, h2, h3, h4, h5⟩, h6⟩; exact ⟨h1, h2, h3, h4, h5, h6⟩
theorem rng_bnd : ∀ {a : Od}, rng a → a.sz ≤ 1048576 → bnd 1000000 a
  | .nil, _, _ => trivial
  | .cons e c r, h, hs => by
    simp only [sz] at hs
    exact ⟨h.2.2.1, by omega, by have := h.1; omega, h.2.1, rng_bnd h.2.2.2 (by omega)⟩

end Go.Proofs.Ytcgnpijbdgbffaa
