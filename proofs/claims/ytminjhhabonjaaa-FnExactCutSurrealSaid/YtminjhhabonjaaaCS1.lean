/-
  Surreals as trees: their order is one. No program in sight.
-/
import Derived.Test.YtminjhhabonjaaaSO2
namespace Go.Proofs.Ytminjhhabonjaaa
open Go K Su
set_option linter.unusedSimpArgs false
set_option linter.unusedVariables false

theorem cmpI_anti (a b : Int) : cmpI b a = - cmpI a b := by
  rcases cmpI_cases a b with h | h | h <;> rcases cmpI_cases b a with k | k | k <;> omega
theorem frI_anti (c c' : Int × Int) : frI c' c = - frI c c' := cmpI_anti _ _
theorem cmpT_refl : ∀ a : Su, cmpT a a = 0
  | .nil => rfl
  | .cons e c r => by
    rw [cmpT_cons, cmpT_refl e, frI_refl, cmpT_refl r]; rfl
theorem cmpT_anti : ∀ a b : Su, cmpT b a = - cmpT a b
  | .nil, .nil => rfl
  | .nil, .cons _ _ _ => by simp [cmpT]
  | .cons _ _ _, .nil => by simp [cmpT]
  | .cons e c r, .cons e' c' r' => by
    have h1 := cmpT_anti e e'
    have h2 := cmpT_anti r r'
    have h3 := frI_anti c c'
    rw [cmpT_cons, cmpT_cons]
    (repeat' split) <;> omega
theorem sgn_ne {c : Int × Int} (h : okC c = true) : sgn c ≠ 0 := by
  have h2 := (okC_good h).2
  unfold sgn
  rcases cmpI_cases c.1 0 with k | k | k <;> omega
theorem cmpT_zero : ∀ {a b : Su}, rng a → rng b → cmpT a b = 0 → a = b
  | .nil, .nil, _, _, _ => rfl
  | .nil, .cons e c r, _, hb, h => by
    have := sgn_ne hb.1
    simp only [cmpT] at h; omega
  | .cons e c r, .nil, ha, _, h => by
    have := sgn_ne ha.1
    simp only [cmpT] at h; omega
  | .cons e c r, .cons e' c' r', ha, hb, h => by
    have k1 := sgn_ne ha.1
    have k2 := sgn_ne hb.1
    rw [cmpT_cons] at h
    split at h
    · omega
    · split at h
      · omega
      · split at h
        · omega
        · rename_i h1 h2 h3
          rw [cmpT_zero ha.2.1 hb.2.1 (by omega), cmpT_zero ha.2.2 hb.2.2 h, frI_zero (okC_good ha.1).1 (okC_good hb.1).1 (by omega)]
theorem sgn_pos {c : Int × Int} (h : 0 < sgn c) : 0 < c.1 := by
  unfold sgn at h
  rcases cmpI_cases c.1 0 with k | k | k <;> omega
theorem sgn_lt {c : Int × Int} (h : sgn c < 0) : c.1 < 0 := by
  unfold sgn at h
  rcases cmpI_cases c.1 0 with k | k | k <;> omega
theorem pos_sgn {c : Int × Int} (h : 0 < c.1) : sgn c = 1 := by
  unfold sgn
  rcases cmpI_cases c.1 0 with k | k | k <;> omega
theorem lt_sgn {c : Int × Int} (h : c.1 < 0) : sgn c = -1 := by
  unfold sgn
  rcases cmpI_cases c.1 0 with k | k | k <;> omega
theorem frI_pos {c c' : Int × Int} : 0 < frI c c' ↔ c'.1 * c.2 < c.1 * c'.2 := by
  unfold frI
  rcases cmpI_cases (c.1 * c'.2) (c'.1 * c.2) with k | k | k <;> omega
theorem frI_signs {c c' : Int × Int} (h : okC c = true) (h' : okC c' = true) (p : 0 < c.1) (q : c'.1 < 0) : 0 < frI c c' := by
  have r := good_range (okC_good h).1
  have r' := good_range (okC_good h').1
  rw [frI_pos]
  have h1 := Int.mul_pos p (show 0 < c'.2 by omega)
  have h2 := Int.mul_neg_of_neg_of_pos q (show 0 < c.2 by omega)
  omega
/-- A greater fraction than one above 0 is above 0; a less one than one below 0 is below 0. -/
theorem frI_up {c c' : Int × Int} (h : okC c = true) (h' : okC c' = true) (k : 0 < frI c c') (p : 0 < c'.1) : 0 < c.1 := by
  have r := good_range (okC_good h).1
  have r' := good_range (okC_good h').1
  rw [frI_pos] at k
  have h1 := Int.mul_pos p (show 0 < c.2 by omega)
  refine Decidable.byContradiction fun hn => ?_
  have h2 := Int.mul_nonpos_of_nonpos_of_nonneg (show c.1 ≤ 0 by omega) (show 0 ≤ c'.2 by omega)
  omega
theorem frI_down {c c' : Int × Int} (h : okC c = true) (h' : okC c' = true) (k : 0 < frI c c') (p : c.1 < 0) : c'.1 < 0 := by
  have r := good_range (okC_good h).1
  have r' := good_range (okC_good h').1
  rw [frI_pos] at k
  have h1 := Int.mul_neg_of_neg_of_pos p (show 0 < c'.2 by omega)
  refine Decidable.byContradiction fun hn => ?_
  have h2 := Int.mul_nonneg (show 0 ≤ c'.1 by omega) (show 0 ≤ c.2 by omega)
  omega
theorem frI_trans {c c' c2 : Int × Int} (h : okC c = true) (h' : okC c' = true) (h2 : okC c2 = true) (k : 0 < frI c c') (k2 : 0 < frI c' c2) : 0 < frI c c2 := by
  have r := good_range (okC_good h).1
  have r' := good_range (okC_good h').1
  have r2 := good_range (okC_good h2).1
  rw [frI_pos] at k k2 ⊢
  have a1 : c'.1 * c.2 * c2.2 < c.1 * c'.2 * c2.2 := Int.mul_lt_mul_of_pos_right k (by omega)
  have a2 : c2.1 * c'.2 * c.2 < c'.1 * c2.2 * c.2 := Int.mul_lt_mul_of_pos_right k2 (by omega)
  have e1 : c'.1 * c.2 * c2.2 = c'.1 * c2.2 * c.2 := by rw [Int.mul_assoc, Int.mul_comm c.2, ← Int.mul_assoc]
  have a3 : c2.1 * c.2 * c'.2 < c.1 * c2.2 * c'.2 := by
    have e2 : c2.1 * c.2 * c'.2 = c2.1 * c'.2 * c.2 := by rw [Int.mul_assoc, Int.mul_comm c.2, ← Int.mul_assoc]
    have e3 : c.1 * c2.2 * c'.2 = c.1 * c'.2 * c2.2 := by rw [Int.mul_assoc, Int.mul_comm c2.2, ← Int.mul_assoc]
    omega
  exact Int.lt_of_mul_lt_mul_right a3 (by omega)

theorem cmpT_trans : ∀ {a b c : Su}, rng a → rng b → rng c → 0 < cmpT a b → 0 < cmpT b c → 0 < cmpT a c
  | .nil, .nil, _, _, _, _, h, _ => by simp [cmpT] at h
  | .cons _ _ _, .nil, .nil, _, _, _, _, h => by simp [cmpT] at h
  | .nil, .cons e' c' r', .nil, _, _, _, h, h2 => by simp only [cmpT] at h h2; omega
  | .nil, .cons e' c' r', .cons e2 c2 r2, _, hb, hc, h, h2 => by
    simp only [cmpT] at h ⊢
    have k1 := sgn_lt (c := c') (by omega)
    rw [cmpT_cons] at h2
    have k2 := lt_sgn k1
    split at h2
    · omega
    · split at h2
      · omega
      · split at h2
        · have := lt_sgn (frI_down hb.1 hc.1 h2 k1); omega
        · rename_i h3
          have := frI_zero (okC_good hb.1).1 (okC_good hc.1).1 (by omega)
          subst this; omega
  | .cons e c r, .nil, .cons e2 c2 r2, ha, _, hc, h, h2 => by
    simp only [cmpT] at h h2
    have k1 := sgn_pos h
    have k2 := sgn_lt (c := c2) (by omega)
    have k3 := frI_signs ha.1 hc.1 k1 k2
    rw [cmpT_cons]
    (repeat' split) <;> omega
  | .cons e c r, .cons e' c' r', .nil, ha, hb, _, h, h2 => by
    simp only [cmpT] at h2 ⊢
    have k1 := sgn_pos h2
    rw [cmpT_cons] at h
    split at h
    · exact h
    · split at h
      · omega
      · split at h
        · rw [pos_sgn (frI_up ha.1 hb.1 h k1)]; omega
        · have := frI_zero (okC_good ha.1).1 (okC_good hb.1).1 (by omega)
          subst this; exact h2
  | .cons e c r, .cons e' c' r', .cons e2 c2 r2, ha, hb, hc, h, h2 => by
    have t1 : 0 < cmpT e e' → 0 < cmpT e' e2 → 0 < cmpT e e2 := cmpT_trans ha.2.1 hb.2.1 hc.2.1
    have t2 : 0 < cmpT e2 e' → 0 < cmpT e' e → 0 < cmpT e2 e := cmpT_trans hc.2.1 hb.2.1 ha.2.1
    have t3 : 0 < cmpT r r' → 0 < cmpT r' r2 → 0 < cmpT r r2 := cmpT_trans ha.2.2 hb.2.2 hc.2.2
    have a1 := cmpT_anti e e'
    have a2 := cmpT_anti e' e2
    have a3 := cmpT_anti e e2
    have z1 : cmpT e e' = 0 → e = e' := cmpT_zero ha.2.1 hb.2.1
    have z2 : cmpT e' e2 = 0 → e' = e2 := cmpT_zero hb.2.1 hc.2.1
    have f1 : frI c c' = 0 → c = c' := frI_zero (okC_good ha.1).1 (okC_good hb.1).1
    have f2 : frI c' c2 = 0 → c' = c2 := frI_zero (okC_good hb.1).1 (okC_good hc.1).1
    rw [cmpT_cons] at h h2 ⊢
    by_cases x1 : 0 < cmpT e e'
    · rw [if_pos x1] at h
      have p := sgn_pos h
      by_cases y1 : 0 < cmpT e' e2
      · rw [if_pos (t1 x1 y1)]; exact h
      · rw [if_neg y1] at h2
        by_cases y2 : cmpT e' e2 < 0
        · rw [if_pos y2] at h2
          have q := sgn_lt (c := c2) (by omega)
          have := frI_signs ha.1 hc.1 p q
          (repeat' split) <;> omega
        · have := z2 (by omega)
          subst this
          rw [if_pos x1]; exact h
    · rw [if_neg x1] at h
      by_cases x2 : cmpT e e' < 0
      · rw [if_pos x2] at h
        have q := sgn_lt (c := c') (by omega)
        have q2 := lt_sgn q
        by_cases y1 : 0 < cmpT e' e2
        · rw [if_pos y1] at h2; omega
        · rw [if_neg y1] at h2
          by_cases y2 : cmpT e' e2 < 0
          · rw [if_pos y2] at h2
            have := t2 (by omega) (by omega)
            rw [if_neg (by omega), if_pos (by omega)]; exact h2
          · rw [if_neg y2] at h2
            have := z2 (by omega)
            subst this
            rw [if_neg x1, if_pos x2]
            have q3 : c2.1 < 0 := by
              by_cases w : frI c' c2 = 0
              · rw [← f2 w]; exact q
              · rw [if_pos w] at h2
                exact frI_down hb.1 hc.1 h2 q
            have := lt_sgn q3
            omega
      · have := z1 (by omega)
        subst this
        rw [if_neg x2] at h
        by_cases y1 : 0 < cmpT e e2
        · rw [if_pos y1] at h2 ⊢
          have p := sgn_pos h2
          by_cases w : frI c c' = 0
          · rw [f1 w]; exact h2
          · rw [if_pos w] at h
            rw [pos_sgn (frI_up ha.1 hb.1 h p)]; omega
        · rw [if_neg y1] at h2 ⊢
          by_cases y2 : cmpT e e2 < 0
          · rw [if_pos y2] at h2 ⊢; exact h2
          · rw [if_neg y2] at h2 ⊢
            by_cases w : frI c c' = 0
            · have := f1 w
              subst this
              by_cases w2 : frI c c2 = 0
              · rw [if_neg (by omega)] at h h2 ⊢
                exact t3 h h2
              · rw [if_pos w2] at h2 ⊢; exact h2
            · rw [if_pos w] at h
              by_cases w2 : frI c' c2 = 0
              · have := f2 w2
                subst this
                rw [if_pos w]; exact h
              · rw [if_pos w2] at h2
                have := frI_trans ha.1 hb.1 hc.1 h h2
                rw [if_pos (by omega)]; exact this

/-! ### a number, cut off -/
def desc : Option Su → Su → Prop
  | _, .nil => True
  | p, .cons e c r => below p e = true ∧ desc (some e) r
theorem formG_desc : ∀ {a : Su} {n : Nat} {p : Option Su}, formG a n p = true → desc p a
  | .nil, _, _, _ => trivial
  | .cons e c r, n, p, h => by
    rw [formG_cons] at h
    simp only [Bool.and_eq_true] at h
    exact ⟨h.1.2, formG_desc h.2⟩
theorem goodT_desc {a : Su} (h : goodT a = true) : desc none a := by
  simp only [goodT, Bool.and_eq_true] at h; exact formG_desc h.2
/-- The terms above a power; those ahead of the first that is not. -/
def cutF (e : Su) : Su → Su
  | .nil => .nil
  | .cons x c r => if 0 < cmpT x e then .cons x c (cutF e r) else cutF e r
def cutP (e : Su) : Su → Su
  | .nil => .nil
  | .cons x c r => if 0 < cmpT x e then .cons x c (cutP e r) else .nil
theorem cut_none {e : Su} (he : rng e) : ∀ {q : Su} {y : Su}, rng y → rng q → desc (some y) q → ¬ 0 < cmpT y e → cutF e q = .nil
  | .nil, _, _, _, _, _ => rfl
  | .cons x c r, y, hy, hq, hd, hn => by
    have h1 : 0 < cmpT y x := by simpa [below] using hd.1
    have h2 : ¬ 0 < cmpT x e := fun h => hn (cmpT_trans hy hq.2.1 he h1 h)
    unfold cutF
    rw [if_neg h2]
    exact cut_none he hq.2.1 hq.2.2 hd.2 h2
theorem cut_eq {e : Su} (he : rng e) : ∀ {a : Su} {p : Option Su}, rng a → desc p a → cutF e a = cutP e a
  | .nil, _, _, _ => rfl
  | .cons x c r, p, ha, hd => by
    unfold cutF cutP
    split
    · rw [cut_eq he ha.2.2 hd.2]
    · rename_i h
      exact cut_none he ha.2.1 ha.2.2 hd.2 h
theorem cutP_sz (e : Su) : ∀ a : Su, (cutP e a).sz ≤ a.sz
  | .nil => Nat.le_refl _
  | .cons x c r => by
    have := cutP_sz e r
    unfold cutP
    split <;> simp only [sz] <;> omega
theorem cutF_sz (e : Su) : ∀ a : Su, (cutF e a).sz ≤ a.sz
  | .nil => Nat.le_refl _
  | .cons x c r => by
    have := cutF_sz e r
    unfold cutF
    split <;> simp only [sz] <;> omega
theorem cutF_app (e : Su) : ∀ d r : Su, cutF e (d.app r) = (cutF e d).app (cutF e r)
  | .nil, r => rfl
  | .cons x c d, r => by
    simp only [cutF, app, cutF_app e d r]
    split <;> rfl

end Go.Proofs.Ytminjhhabonjaaa
