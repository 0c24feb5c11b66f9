/-
  Hereditary forms: their values. No program in sight.
-/
import Derived.Test.YtphmkhaboghagaaO2
namespace Go.Proofs.Ytphmkhaboghagaa
open Go K Od
set_option linter.unusedSimpArgs false
set_option linter.unusedVariables false

/-- A power, cut off above 1000000. -/
def partL (b : Int) : Nat → Int → Int
  | 0, c => c
  | e + 1, c => if c ≤ 1000000 then partL b e (c * b) else c
theorem one_le_pow {b : Int} (hb : 1 ≤ b) : ∀ e : Nat, 1 ≤ b ^ e
  | 0 => by simp
  | e + 1 => by
    have h := one_le_pow hb e
    have h2 : 1 * 1 ≤ b ^ e * b := Int.mul_le_mul h hb (by omega) (by omega)
    rw [Int.pow_succ]; omega
theorem partL_spec {b : Int} (hb : 1 ≤ b) : ∀ (e : Nat) (c : Int), 1 ≤ c → (c * b ^ e ≤ 1000000 → partL b e c = c * b ^ e) ∧ (1000000 < c * b ^ e → 1000000 < partL b e c)
  | 0, c, _ => by simp [partL]
  | e + 1, c, hc => by
    have hp := one_le_pow hb e
    have hcb : 1 * 1 ≤ c * b := Int.mul_le_mul hc hb (by omega) (by omega)
    have ih := partL_spec hb e (c * b) (by omega)
    have e1 : c * b * b ^ e = c * b ^ (e + 1) := by rw [Int.pow_succ, Int.mul_assoc, Int.mul_comm b]
    rw [e1] at ih
    unfold partL
    split
    · exact ih
    · rename_i h
      have h1 : c * 1 ≤ c * b ^ (e + 1) := Int.mul_le_mul_of_nonneg_left (one_le_pow hb (e + 1)) (by omega)
      exact ⟨fun h2 => by omega, fun _ => by omega⟩
theorem partL_bound {b : Int} (hb : 1 ≤ b) (hb2 : b ≤ 1000) : ∀ (e : Nat) (c : Int), 1 ≤ c → c ≤ 1000000000 → 1 ≤ partL b e c ∧ partL b e c ≤ 1000000000
  | 0, c, h1, h2 => ⟨h1, h2⟩
  | e + 1, c, h1, h2 => by
    unfold partL
    split
    · rename_i h
      have l1 : 1 * 1 ≤ c * b := Int.mul_le_mul h1 hb (by omega) (by omega)
      have l2 : c * b ≤ 1000000 * 1000 := Int.mul_le_mul h hb2 (by omega) (by omega)
      exact partL_bound hb hb2 e (c * b) (by omega) (by omega)
    · exact ⟨h1, h2⟩
/-- How many rounds there are does not count where there are enough. -/
theorem partL_le {b : Int} (hb : 1 ≤ b) (e : Nat) (c : Int) (h : ¬ c ≤ 1000000) : partL b e c = c := by
  cases e with
  | zero => rfl
  | succ e => unfold partL; rw [if_neg h]

/-- The value of a form, cut off above 1000000; 's': the sum so far. -/
def valS (b : Int) : Od → Int → Int
  | .nil, s => s
  | .cons e c r, s => if 1000000 < s + c * b ^ (valS b e 0).toNat then 1000001 else valS b r (s + c * b ^ (valS b e 0).toNat)
def valT (b : Int) (a : Od) : Int := valS b a 0
theorem valS_cons (b : Int) (e r : Od) (c s : Int) : valS b (.cons e c r) s = if 1000000 < s + c * b ^ (valT b e).toNat then 1000001 else valS b r (s + c * b ^ (valT b e).toNat) := rfl
theorem valS_range {b : Int} (hb : 2 ≤ b) : ∀ {a : Od} {s : Int}, rng a → 0 ≤ s → s ≤ 1000000 → 0 ≤ valS b a s ∧ valS b a s ≤ 1000001
  | .nil, s, _, h1, h2 => by simp only [valS]; omega
  | .cons e c r, s, h, h1, h2 => by
    rw [valS_cons]
    split
    · omega
    · rename_i hn
      have hp := one_le_pow (b := b) (by omega) (valT b e).toNat
      have := Int.mul_le_mul h.1 hp (by omega) (by have := h.1; omega)
      exact valS_range hb h.2.2.2 (by omega) (by omega)
theorem lt_pow {b : Int} (hb : 2 ≤ b) : ∀ e : Nat, (e : Int) < b ^ e
  | 0 => by simp
  | e + 1 => by
    have h := lt_pow hb e
    have h2 := one_le_pow (b := b) (by omega) e
    have h3 : b ^ e * 2 ≤ b ^ e * b := Int.mul_le_mul_of_nonneg_left hb (by omega)
    rw [Int.pow_succ]; omega
/-- The reference's part of a sum. -/
theorem part_ref {b : Int} (hb : 2 ≤ b) {c : Int} (hc : 1 ≤ c) (e : Nat) : (c * b ^ e ≤ 1000000 → c * partL b e 1 = c * b ^ e) ∧ (1000000 < c * b ^ e → 1000000 < c * partL b e 1) := by
  have h := partL_spec (b := b) (by omega) e 1 (by omega)
  rw [Int.one_mul] at h
  have hp := one_le_pow (b := b) (by omega) e
  by_cases hl : b ^ e ≤ 1000000
  · rw [h.1 hl]; exact ⟨fun _ => rfl, fun h => h⟩
  · have h1 := h.2 (by omega)
    have h2 : c * 1 ≤ c * b ^ e := Int.mul_le_mul_of_nonneg_left hp (by omega)
    have h3 : 1 * b ^ e ≤ c * b ^ e := Int.mul_le_mul_of_nonneg_right hc (by omega)
    have h4 : 1 * partL b e 1 ≤ c * partL b e 1 := Int.mul_le_mul_of_nonneg_right hc (by omega)
    exact ⟨fun h5 => by omega, fun _ => by omega⟩

/-- All coefficients are less than the base. -/
def digT (b : Int) : Od → Bool
  | .nil => true
  | .cons e c r => !decide (b ≤ c) && digT b e && digT b r
theorem digT_app (b : Int) : ∀ d r : Od, digT b (d.app r) = (digT b d && digT b r)
  | .nil, r => rfl
  | .cons e c d, r => by simp only [app, digT, digT_app b d r, Bool.and_assoc]

end Go.Proofs.Ytphmkhaboghagaa
