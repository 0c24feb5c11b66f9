/-
  Fractions: sums and products are undone. No program in sight.
-/
import Derived.Test.YtolfjeedgedblaaF18
namespace Go.Proofs.Ytolfjeedgedblaa
open Go K
set_option linter.unusedSimpArgs false
set_option linter.unusedVariables false
set_option maxHeartbeats 400000

theorem good_prod {a b c d : Int} (h1 : goodB a b = true) (h2 : goodB c d = true) : w64 (b * d) = b * d ∧ 0 < b * d ∧ (b * d).natAbs ≤ 1000000000000 ∧ w64 (a * d) = a * d ∧ w64 (c * b) = c * b ∧ (a * d).natAbs ≤ 1000000000000 ∧ (c * b).natAbs ≤ 1000000000000 ∧ w64 (a * c) = a * c ∧ (a * c).natAbs ≤ 1000000000000 := by
  have r1 := good_range h1
  have r2 := good_range h2
  have q1 := mul_le (a := b) (b := d) (A := 1000000) (B := 1000000) (by omega) (by omega)
  have q2 := mul_le (a := a) (b := d) (A := 1000000) (B := 1000000) (by omega) (by omega)
  have q3 := mul_le (a := c) (b := b) (A := 1000000) (B := 1000000) (by omega) (by omega)
  have q4 := mul_le (a := a) (b := c) (A := 1000000) (B := 1000000) (by omega) (by omega)
  have q5 : 0 < b * d := Int.mul_pos (by omega) (by omega)
  exact ⟨w64_small (by omega), q5, by omega, w64_small (by omega), w64_small (by omega), by omega, by omega, w64_small (by omega), by omega⟩
theorem addN_eq {a b c d : Int} (h1 : goodB a b = true) (h2 : goodB c d = true) : addN a b c d = a * d + c * b := by
  obtain ⟨_, _, _, e1, e2, b1, b2, _, _⟩ := good_prod h1 h2
  unfold addN; rw [e1, e2, w64_small (by omega)]
theorem subN_eq {a b c d : Int} (h1 : goodB a b = true) (h2 : goodB c d = true) : subN a b c d = a * d - c * b := by
  obtain ⟨_, _, _, e1, e2, b1, b2, _, _⟩ := good_prod h1 h2
  unfold subN; rw [e1, e2, w64_small (by omega)]

/-- A sum, less the one, is the other. -/
theorem sum_back {a b c d : Int} (h1 : goodB a b = true) (h2 : goodB c d = true) (h3 : mkOk (addN a b c d) (w64 (b * d)) = true) :
    mkN (subN (mkN (addN a b c d) (w64 (b * d))) (mkD (addN a b c d) (w64 (b * d))) c d) (w64 (mkD (addN a b c d) (w64 (b * d)) * d)) = a ∧
    mkD (subN (mkN (addN a b c d) (w64 (b * d))) (mkD (addN a b c d) (w64 (b * d))) c d) (w64 (mkD (addN a b c d) (w64 (b * d)) * d)) = b := by
  have r1 := good_range h1
  obtain ⟨e1, p1, b1, e2, e3, b2, b3, _, _⟩ := good_prod h1 h2
  obtain ⟨g, hg, en, ed, hd, _, _, _⟩ := mk_spec (n := addN a b c d) (d := w64 (b * d)) (by rw [e1]; exact p1) ⟨by rw [addN_eq h1 h2]; omega, by rw [e1]; omega⟩
  unfold mkOk at h3
  generalize mkN (addN a b c d) (w64 (b * d)) = s at *
  generalize mkD (addN a b c d) (w64 (b * d)) = t at *
  rw [addN_eq h1 h2] at en
  rw [e1] at ed
  have hr := good_range h3
  obtain ⟨f1, q1, c1, f2, f3, c2, c3, _, _⟩ := good_prod h3 h2
  rw [subN_eq h3 h2, f1]
  obtain ⟨s1, s2⟩ := mk_self h1
  have := mk_ratio (n1 := s * d - c * t) (d1 := t * d) (n2 := a) (d2 := b) q1 (by omega) ⟨by omega, by omega⟩ ⟨by omega, by omega⟩ (by
    have hx : s * (b * d) = (a * d + c * b) * t := by rw [en, ed]; ac_rfl
    rw [Int.sub_mul]
    have h4 : s * d * b = s * (b * d) := by ac_rfl
    have h5 : (a * d + c * b) * t = a * (t * d) + c * t * b := by rw [Int.add_mul]; congr 1 <;> ac_rfl
    rw [h4, hx, h5]; omega)
  rw [s1, s2] at this
  exact this
/-- The sign of a difference. -/
theorem diff_sign {a b c d : Int} (h1 : goodB a b = true) (h2 : goodB c d = true) :
    (0 < cmpI (w64 (w64 (a * d) - w64 (c * b))) 0 → 0 < mkN (subN a b c d) (w64 (b * d))) ∧ (cmpI (w64 (w64 (a * d) - w64 (c * b))) 0 < 0 → mkN (subN a b c d) (w64 (b * d)) < 0) ∧ (cmpI (w64 (w64 (a * d) - w64 (c * b))) 0 = 0 → mkN (subN a b c d) (w64 (b * d)) = 0) := by
  obtain ⟨e1, p1, b1, e2, e3, b2, b3, _, _⟩ := good_prod h1 h2
  obtain ⟨g, hg, en, ed, hd, _, _, _⟩ := mk_spec (n := subN a b c d) (d := w64 (b * d)) (by rw [e1]; exact p1) ⟨by rw [subN_eq h1 h2]; omega, by rw [e1]; omega⟩
  have hs : w64 (w64 (a * d) - w64 (c * b)) = subN a b c d := rfl
  rw [hs]
  generalize subN a b c d = z at *
  generalize mkN z (w64 (b * d)) = s at *
  have hc : (0 < cmpI z 0 → 0 < z) ∧ (cmpI z 0 < 0 → z < 0) ∧ (cmpI z 0 = 0 → z = 0) := by
    unfold cmpI
    (repeat' split) <;> omega
  refine ⟨fun h => ?_, fun h => ?_, fun h => ?_⟩
  · have := hc.1 h
    refine Decidable.byContradiction fun hn => ?_
    have := Int.mul_nonpos_of_nonneg_of_nonpos (show 0 ≤ g by omega) (show s ≤ 0 by omega)
    omega
  · have := hc.2.1 h
    refine Decidable.byContradiction fun hn => ?_
    have := Int.mul_nonneg (show 0 ≤ g by omega) (show 0 ≤ s by omega)
    omega
  · have := hc.2.2 h
    rw [this] at en
    rcases Int.mul_eq_zero.1 en.symm with h | h
    · omega
    · exact h

/-- Parts with a divisor below 0. -/
theorem mk_neg {n d : Int} (hd : d < 0) (hs : small n d) : mkN n d = mkN (-n) (-d) ∧ mkD n d = mkD (-n) (-d) := by
  have h1 := gcdI_gcd (n := n) (d := d) (by omega) hs.1 hs.2
  have h2 := gcdI_gcd (n := -n) (d := -d) (by omega) (by have := hs.1; omega) (by have := hs.2; omega)
  rw [Int.natAbs_neg, Int.natAbs_neg] at h2
  have hp := gcdI_pos (n := n) (d := d) (by omega) hs.1 hs.2
  have hG : mkG n d = - gcdI n d := by
    unfold mkG; rw [if_pos hd]
    have := w64_id (x := 0 - gcdI n d) (by omega) (by omega)
    simp only [w64] at this
    rw [this]; omega
  have hG2 : mkG (-n) (-d) = gcdI n d := by unfold mkG; rw [if_neg (by omega), h2, h1]
  unfold mkN mkD
  rw [hG, hG2, Int.tdiv_neg, Int.tdiv_neg, Int.neg_tdiv, Int.neg_tdiv]
  exact ⟨rfl, rfl⟩
/-- A product over the one is the other. -/
theorem prod_back {a b c d : Int} (h1 : goodB a b = true) (h2 : goodB c d = true) (h0 : c ≠ 0) (h3 : mkOk (w64 (a * c)) (w64 (b * d)) = true) :
    mkN (w64 (mkN (w64 (a * c)) (w64 (b * d)) * d)) (w64 (mkD (w64 (a * c)) (w64 (b * d)) * c)) = a ∧
    mkD (w64 (mkN (w64 (a * c)) (w64 (b * d)) * d)) (w64 (mkD (w64 (a * c)) (w64 (b * d)) * c)) = b := by
  have r1 := good_range h1
  have r2 := good_range h2
  obtain ⟨e1, p1, b1, e2, e3, b2, b3, e4, b4⟩ := good_prod h1 h2
  obtain ⟨g, hg, en, ed, hd, _, _, _⟩ := mk_spec (n := w64 (a * c)) (d := w64 (b * d)) (by rw [e1]; exact p1) ⟨by rw [e4]; omega, by rw [e1]; omega⟩
  unfold mkOk at h3
  generalize mkN (w64 (a * c)) (w64 (b * d)) = s at *
  generalize mkD (w64 (a * c)) (w64 (b * d)) = t at *
  rw [e4] at en
  rw [e1] at ed
  have hr := good_range h3
  obtain ⟨f1, q1, c1, f2, f3, c2, c3, _, _⟩ := good_prod h3 h2
  rw [Int.mul_comm c t] at f3 c3
  rw [f2, f3]
  obtain ⟨s1, s2⟩ := mk_self h1
  have hx : s * d * b = a * (t * c) := by
    have : s * (b * d) = a * c * t := by rw [en, ed]; ac_rfl
    rw [show s * d * b = s * (b * d) by ac_rfl, this]; ac_rfl
  rcases Int.lt_trichotomy c 0 with hc | hc | hc
  · have hneg : t * c < 0 := Int.mul_neg_of_pos_of_neg (by omega) hc
    obtain ⟨m1, m2⟩ := mk_neg (n := s * d) (d := t * c) hneg ⟨by omega, by omega⟩
    rw [m1, m2]
    have := mk_ratio (n1 := -(s * d)) (d1 := -(t * c)) (n2 := a) (d2 := b) (by omega) (by omega) ⟨by omega, by omega⟩ ⟨by omega, by omega⟩ (by rw [Int.neg_mul, Int.mul_neg, hx])
    rw [s1, s2] at this
    exact this
  · exact absurd hc h0
  · have hpos : 0 < t * c := Int.mul_pos (by omega) hc
    have := mk_ratio (n1 := s * d) (d1 := t * c) (n2 := a) (d2 := b) hpos (by omega) ⟨by omega, by omega⟩ ⟨by omega, by omega⟩ hx
    rw [s1, s2] at this
    exact this

/-- The whole part. -/
def flF (a b : Int) : Int := if a < a.tdiv b * b then a.tdiv b - 1 else a.tdiv b
theorem flF_spec {a b : Int} (h : goodB a b = true) : w64 (a.tdiv b) = a.tdiv b ∧ w64 (a.tdiv b * b) = a.tdiv b * b ∧ w64 (a.tdiv b - 1) = a.tdiv b - 1 ∧ w64 (flF a b * b) = flF a b * b ∧ w64 (flF a b + 1) = flF a b + 1 ∧ w64 ((flF a b + 1) * b) = (flF a b + 1) * b ∧ flF a b * b ≤ a ∧ a < (flF a b + 1) * b := by
  have r := good_range h
  have h1 := Int.mul_tdiv_add_tmod a b
  have h2 := tmod_lt (a := a) (b := b) (by omega)
  have h3 : (a.tdiv b).natAbs ≤ a.natAbs := by rw [Int.natAbs_tdiv]; exact Nat.div_le_self _ _
  have hq : b * a.tdiv b = a.tdiv b * b := Int.mul_comm _ _
  rw [hq] at h1
  have hf : flF a b = if a < a.tdiv b * b then a.tdiv b - 1 else a.tdiv b := rfl
  generalize flF a b = f at *
  generalize a.tdiv b = q at *
  generalize a.tmod b = m at *
  have k1 : (q - 1) * b = q * b - b := by rw [Int.sub_mul, Int.one_mul]
  have k2 : (f + 1) * b = f * b + b := by rw [Int.add_mul, Int.one_mul]
  rw [k2]
  have hfb : f * b = if a < q * b then q * b - b else q * b := by
    rw [hf]; split
    · exact k1
    · rfl
  generalize q * b = z at *
  generalize f * b = y at *
  have hfr : f.natAbs ≤ 1000001 := by rw [hf]; split <;> omega
  have hyr : y.natAbs ≤ 4000000 := by rw [hfb]; split <;> omega
  refine ⟨w64_small (by omega), w64_small (by omega), w64_small (by omega), w64_small (by omega), w64_small (by omega), w64_small (by omega), ?_, ?_⟩
  · rw [hfb]; split <;> omega
  · rw [hfb]; split <;> omega

end Go.Proofs.Ytolfjeedgedblaa
