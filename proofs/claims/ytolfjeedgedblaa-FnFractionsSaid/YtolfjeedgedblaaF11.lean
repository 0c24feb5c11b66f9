/-
  Short numbers: the plain law of the two walks.
-/
import Derived.Test.YtolfjeedgedblaaF10
namespace Go.Proofs.Ytolfjeedgedblaa
open Go K
set_option linter.unusedSimpArgs false
set_option linter.unusedVariables false
set_option maxHeartbeats 400000

theorem gcdL_gcd : ∀ (k : Nat) (a b : Int), b.natAbs < k → (gcdL k a b).natAbs = Nat.gcd a.natAbs b.natAbs
  | 0, a, b, h => by omega
  | k + 1, a, b, h => by
    by_cases hb : b = 0
    · subst hb; simp [gcdL]
    · have h1 := tmod_lt (a := a) hb
      rw [show gcdL (k + 1) a b = gcdL k b (a.tmod b) by simp [gcdL, hb], gcdL_gcd k b (a.tmod b) (by omega), Int.natAbs_tmod, Nat.gcd_comm, ← Nat.gcd_rec, Nat.gcd_comm]
theorem gcdI_gcd {n d : Int} (hd : d ≠ 0) (h1 : n.natAbs ≤ 9000000000000000) (h2 : d.natAbs ≤ 9000000000000000) : gcdI n d = (Nat.gcd n.natAbs d.natAbs : Nat) := by
  obtain ⟨h3, h4, _⟩ := gcdL_size (d.natAbs + 1) n d (by omega)
  unfold gcdI
  rw [absW_small (by omega), gcdL_gcd _ _ _ (by omega)]

/-- A fraction's parts: what they are. -/
theorem mk_spec {n d : Int} (hd : 0 < d) (h : small n d) : ∃ g : Int, 0 < g ∧ n = g * mkN n d ∧ d = g * mkD n d ∧ 0 < mkD n d ∧ Nat.gcd (mkN n d).natAbs (mkD n d).natAbs = 1 ∧ (mkN n d).natAbs ≤ n.natAbs ∧ mkD n d ≤ d := by
  have hg := gcdI_gcd (n := n) (d := d) (by omega) h.1 h.2
  have hp := gcdI_pos (n := n) (d := d) (by omega) h.1 h.2
  have hG : mkG n d = gcdI n d := by unfold mkG; rw [if_neg (by omega)]
  obtain ⟨p, hp1⟩ : ∃ p : Int, n = gcdI n d * p := by
    have : (gcdI n d) ∣ n := by rw [hg]; exact Int.ofNat_dvd_left.2 (Nat.gcd_dvd_left _ _)
    exact this
  obtain ⟨q, hq1⟩ : ∃ q : Int, d = gcdI n d * q := by
    have : (gcdI n d) ∣ d := by rw [hg]; exact Int.ofNat_dvd_left.2 (Nat.gcd_dvd_right _ _)
    exact this
  have hpb : p.natAbs ≤ n.natAbs := by
    have : n.natAbs = (gcdI n d).natAbs * p.natAbs := by rw [← Int.natAbs_mul, ← hp1]
    rw [this]
    exact Nat.le_mul_of_pos_left _ (by omega)
  have hq0 : 0 < q := by
    rcases Int.lt_trichotomy q 0 with h | h | h
    · exfalso
      have := Int.mul_neg_of_pos_of_neg (show 0 < gcdI n d by omega) h
      omega
    · exfalso; rw [h] at hq1; simp at hq1; omega
    · exact h
  have hqb : q.natAbs ≤ d.natAbs := by
    have : d.natAbs = (gcdI n d).natAbs * q.natAbs := by rw [← Int.natAbs_mul, ← hq1]
    rw [this]
    exact Nat.le_mul_of_pos_left _ (by omega)
  have eN : mkN n d = p := by
    unfold mkN
    rw [hG]
    have : n.tdiv (gcdI n d) = p := by
      rw [show n.tdiv (gcdI n d) = (gcdI n d * p).tdiv (gcdI n d) by rw [← hp1]]
      exact Int.mul_tdiv_cancel_left p (by omega)
    rw [this]; exact w64_small (by have := h.1; omega)
  have eD : mkD n d = q := by
    unfold mkD
    rw [hG]
    have : d.tdiv (gcdI n d) = q := by
      rw [show d.tdiv (gcdI n d) = (gcdI n d * q).tdiv (gcdI n d) by rw [← hq1]]
      exact Int.mul_tdiv_cancel_left q (by omega)
    rw [this]; exact w64_small (by have := h.2; omega)
  refine ⟨gcdI n d, by omega, by rw [eN]; exact hp1, by rw [eD]; exact hq1, by rw [eD]; exact hq0, ?_, by rw [eN]; exact hpb, by rw [eD]; omega⟩
  rw [eN, eD]
  have e1 : n.natAbs = (gcdI n d).natAbs * p.natAbs := by rw [← Int.natAbs_mul, ← hp1]
  have e2 : d.natAbs = (gcdI n d).natAbs * q.natAbs := by rw [← Int.natAbs_mul, ← hq1]
  have e3 : (gcdI n d).natAbs = Nat.gcd n.natAbs d.natAbs := by rw [hg]; simp
  have e4 : Nat.gcd n.natAbs d.natAbs = (gcdI n d).natAbs * Nat.gcd p.natAbs q.natAbs := by rw [e1, e2, Nat.gcd_mul_left]
  have e5 : (gcdI n d).natAbs * Nat.gcd p.natAbs q.natAbs = (gcdI n d).natAbs * 1 := by rw [← e4, e3]; simp
  exact Nat.eq_of_mul_eq_mul_left (by omega) e5

/-- Fractions of one ratio have the same parts. -/
theorem mk_ratio {n1 d1 n2 d2 : Int} (h1 : 0 < d1) (h2 : 0 < d2) (s1 : small n1 d1) (s2 : small n2 d2) (h : n1 * d2 = n2 * d1) : mkN n1 d1 = mkN n2 d2 ∧ mkD n1 d1 = mkD n2 d2 := by
  obtain ⟨g1, hg1, a1, b1, c1, e1, _, _⟩ := mk_spec h1 s1
  obtain ⟨g2, hg2, a2, b2, c2, e2, _, _⟩ := mk_spec h2 s2
  generalize mkN n1 d1 = p1 at *
  generalize mkD n1 d1 = q1 at *
  generalize mkN n2 d2 = p2 at *
  generalize mkD n2 d2 = q2 at *
  have hx : p1 * q2 = p2 * q1 := by
    have hgg : g1 * g2 ≠ 0 := Int.mul_ne_zero (by omega) (by omega)
    apply Int.eq_of_mul_eq_mul_left hgg
    have : (g1 * p1) * (g2 * q2) = (g2 * p2) * (g1 * q1) := by rw [← a1, ← b2, ← a2, ← b1]; exact h
    calc g1 * g2 * (p1 * q2) = (g1 * p1) * (g2 * q2) := by ac_rfl
      _ = (g2 * p2) * (g1 * q1) := this
      _ = g1 * g2 * (p2 * q1) := by ac_rfl
  have hn : p1.natAbs * q2.natAbs = p2.natAbs * q1.natAbs := by rw [← Int.natAbs_mul, ← Int.natAbs_mul, hx]
  have d1' : q1.natAbs ∣ q2.natAbs := by
    have : q1.natAbs ∣ p1.natAbs * q2.natAbs := ⟨p2.natAbs, by rw [hn, Nat.mul_comm]⟩
    exact Nat.Coprime.dvd_of_dvd_mul_left (by rw [Nat.coprime_comm]; exact e1) this
  have d2' : q2.natAbs ∣ q1.natAbs := by
    have : q2.natAbs ∣ p2.natAbs * q1.natAbs := ⟨p1.natAbs, by rw [← hn, Nat.mul_comm]⟩
    exact Nat.Coprime.dvd_of_dvd_mul_left (by rw [Nat.coprime_comm]; exact e2) this
  have hq : q1 = q2 := by have := Nat.dvd_antisymm d1' d2'; omega
  subst hq
  exact ⟨Int.eq_of_mul_eq_mul_right (by omega) hx, rfl⟩

/-- 'p' over 'q' is 'x' parts of the unit, in lowest terms. -/
def At (x p q : Int) : Prop := p = mkN x 1048576 ∧ q = mkD x 1048576
theorem At.spec {x p q : Int} (h : At x p q) (hx : x.natAbs ≤ 100000000) : ∃ g : Int, 0 < g ∧ x = g * p ∧ 1048576 = g * q ∧ 0 < q ∧ q ≤ 1048576 ∧ p.natAbs ≤ x.natAbs := by
  obtain ⟨g, h1, h2, h3, h4, _, h5, h6⟩ := mk_spec (n := x) (d := 1048576) (by omega) ⟨by omega, by omega⟩
  rw [← h.1] at h2 h5
  rw [← h.2] at h3 h4 h6
  exact ⟨g, h1, h2, h3, h4, h6, h5⟩
theorem At.of {x n d : Int} (hd : 0 < d) (hs : small n d) (hx : x.natAbs ≤ 100000000) (h : n * 1048576 = x * d) : At x (mkN n d) (mkD n d) :=
  mk_ratio hd (by omega) hs ⟨by omega, by omega⟩ h
theorem at_one : At 1048576 1 1 := by
  have := At.of (x := 1048576) (n := 1) (d := 1) (by omega) ⟨by decide, by decide⟩ (by omega) (by omega)
  exact this
theorem at_minus : At (-1048576) (-1) 1 := by
  have := At.of (x := -1048576) (n := -1) (d := 1) (by omega) ⟨by decide, by decide⟩ (by omega) (by omega)
  exact this
theorem at_zero : At 0 0 1 := by
  have := At.of (x := 0) (n := 0) (d := 1) (by omega) ⟨by decide, by decide⟩ (by omega) (by omega)
  exact this

theorem mul_le {a b : Int} {A B : Nat} (h1 : a.natAbs ≤ A) (h2 : b.natAbs ≤ B) : (a * b).natAbs ≤ A * B := by
  rw [Int.natAbs_mul]; exact Nat.mul_le_mul h1 h2

theorem sum_at {x y a b c d : Int} (h1 : At x a b) (h2 : At y c d) (hx : x.natAbs ≤ 50000000) (hy : y.natAbs ≤ 50000000) : addOk a b c d ∧ At (x + y) (sumN a b c d) (sumD a b c d) := by
  obtain ⟨g1, p1, e1, f1, k1, l1, m1⟩ := h1.spec (by omega)
  obtain ⟨g2, p2, e2, f2, k2, l2, m2⟩ := h2.spec (by omega)
  have q1 := mul_le (a := b) (b := d) (A := 1048576) (B := 1048576) (by omega) (by omega)
  have q2 := mul_le (a := a) (b := d) (A := 50000000) (B := 1048576) (by omega) (by omega)
  have q3 := mul_le (a := c) (b := b) (A := 50000000) (B := 1048576) (by omega) (by omega)
  have q4 : 0 < b * d := Int.mul_pos k1 k2
  have w1 : w64 (b * d) = b * d := w64_small (by omega)
  have w2 : addN a b c d = a * d + c * b := by
    unfold addN
    rw [w64_small (x := a * d) (by omega), w64_small (x := c * b) (by omega), w64_small (by omega)]
  have hs : small (a * d + c * b) (b * d) := ⟨by omega, by omega⟩
  refine ⟨⟨by rw [w1]; omega, by rw [w1, w2]; exact hs⟩, ?_⟩
  unfold sumN sumD
  rw [w1, w2]
  refine At.of q4 hs (by omega) ?_
  have r1 : a * d * 1048576 = x * (b * d) := by
    rw [e1]; conv => lhs; rw [f1]
    ac_rfl
  have r2 : c * b * 1048576 = y * (b * d) := by
    rw [e2]; conv => lhs; rw [f2]
    ac_rfl
  rw [Int.add_mul, Int.add_mul, r1, r2]

theorem half_at {z a b : Int} (h : At (2 * z) a b) (hz : z.natAbs ≤ 50000000) : mulOk a b 1 2 ∧ At z (mulN a b 1 2) (mulD a b 1 2) := by
  obtain ⟨g, p, e, f, k, l, m⟩ := h.spec (by omega)
  have w1 : w64 (b * 2) = b * 2 := w64_small (by omega)
  have w2 : w64 (a * 1) = a := by rw [Int.mul_one]; exact w64_small (by omega)
  have hs : small a (b * 2) := ⟨by omega, by omega⟩
  refine ⟨⟨by rw [w1]; omega, by rw [w1, w2]; exact hs⟩, ?_⟩
  unfold mulN mulD
  rw [w1, w2]
  refine At.of (by omega) hs (by omega) ?_
  have r1 : a * 1048576 = (2 * z) * b := by
    rw [e]; conv => lhs; rw [f]
    ac_rfl
  rw [r1]; ac_rfl

theorem mid_at {x y z a b c d : Int} (h1 : At x a b) (h2 : At y c d) (hx : x.natAbs ≤ 25000000) (hy : y.natAbs ≤ 25000000) (hz : x + y = 2 * z) : midOk a b c d ∧ At z (midN a b c d) (midD a b c d) := by
  obtain ⟨k1, k2⟩ := sum_at h1 h2 (by omega) (by omega)
  rw [hz] at k2
  obtain ⟨k3, k4⟩ := half_at k2 (by omega)
  exact ⟨⟨k1, k3⟩, k4⟩

/-- Both walks look the same way. -/
theorem cmp_at {x a b n d : Int} (h : At x a b) (hx : x.natAbs ≤ 50000000) (hn : n.natAbs ≤ 1000000) (hd : 0 < d) (hd2 : d ≤ 1000000) :
    cmpI (w64 (w64 (a * d) - w64 (n * b))) 0 = - side n d x := by
  obtain ⟨g, p, e, f, k, l, m⟩ := h.spec (by omega)
  have q1 := mul_le (a := a) (b := d) (A := 50000000) (B := 1000000) (by omega) (by omega)
  have q2 := mul_le (a := n) (b := b) (A := 1000000) (B := 1048576) (by omega) (by omega)
  have q3 := mul_le (a := x) (b := d) (A := 50000000) (B := 1000000) (by omega) (by omega)
  unfold side
  rw [w64_small (x := a * d) (by omega), w64_small (x := n * b) (by omega), w64_small (x := a * d - n * b) (by omega), w64_small (x := n * 1048576) (by omega), w64_small (x := x * d) (by omega)]
  have r1 : n * 1048576 - x * d = g * (n * b - a * d) := by
    rw [e, Int.mul_sub]; conv => lhs; rw [f]
    congr 1 <;> ac_rfl
  have s1 : 0 < n * b - a * d → 0 < n * 1048576 - x * d := fun h => by rw [r1]; exact Int.mul_pos p h
  have s2 : n * b - a * d < 0 → n * 1048576 - x * d < 0 := fun h => by rw [r1]; exact Int.mul_neg_of_pos_of_neg p h
  have s3 : n * b - a * d = 0 → n * 1048576 - x * d = 0 := fun h => by rw [r1, h]; simp
  unfold cmpI
  rcases Int.lt_trichotomy (n * b - a * d) 0 with h | h | h
  · have := s2 h; split <;> (try omega) <;> split <;> (try omega) <;> split <;> (try omega) <;> simp
  · have := s3 h; split <;> (try omega) <;> split <;> (try omega) <;> split <;> (try omega) <;> simp
  · have := s1 h; split <;> (try omega) <;> split <;> (try omega) <;> simp

/-- A bound of the two walks. -/
def Bd (w : Nat) (l : List Int) (has : Bool) (bn bd : Int) : Prop :=
  match l.getLast? with
  | none => has = false
  | some y => has = true ∧ At y bn bd ∧ y.natAbs ≤ 1048576 * w ∧ ∃ m : Int, y = 2 ^ (20 - w) * m
structure Rl (i : Wk) (s : Sw) : Prop where
  at_ : At i.x s.an s.ad
  size : i.x.natAbs ≤ 1048576 * i.word.size
  div : ∃ m : Int, i.x = 2 ^ (20 - i.word.size) * m
  low : Bd i.word.size i.low s.hasL s.ln s.ld
  high : Bd i.word.size i.high s.hasH s.hn s.hd

theorem pow_half {w : Nat} (h : w < 20) : (2 : Int) ^ (20 - w) = 2 * 2 ^ (20 - (w + 1)) := by
  rw [show 20 - w = (20 - (w + 1)) + 1 by omega, Int.pow_succ, Int.mul_comm]
theorem Bd.next {w : Nat} {l : List Int} {has : Bool} {bn bd : Int} (h : Bd w l has bn bd) (hw : w < 20) : Bd (w + 1) l has bn bd := by
  unfold Bd at *
  split at h
  · exact h
  · obtain ⟨h1, h2, h3, m, h4⟩ := h
    refine ⟨h1, h2, by omega, 2 * m, ?_⟩
    rw [h4, pow_half hw]; ac_rfl

/-- The new place of a step. -/
theorem mid_step {w : Nat} (hw : w < 20) {x y a b c d : Int} (h1 : At x a b) (h2 : At y c d) (hx : x.natAbs ≤ 1048576 * w) (hy : y.natAbs ≤ 1048576 * w) (dx : ∃ m : Int, x = 2 ^ (20 - w) * m) (dy : ∃ m : Int, y = 2 ^ (20 - w) * m) :
    midOk a b c d ∧ At (w64 ((w64 (x + y)).tdiv 2)) (midN a b c d) (midD a b c d) ∧ (w64 ((w64 (x + y)).tdiv 2)).natAbs ≤ 1048576 * (w + 1) ∧ ∃ m : Int, w64 ((w64 (x + y)).tdiv 2) = 2 ^ (20 - (w + 1)) * m := by
  obtain ⟨m1, e1⟩ := dx
  obtain ⟨m2, e2⟩ := dy
  have e3 : x + y = 2 * (2 ^ (20 - (w + 1)) * (m1 + m2)) := by
    rw [e1, e2, pow_half hw, ← Int.mul_add]; ac_rfl
  generalize hz : (2 : Int) ^ (20 - (w + 1)) * (m1 + m2) = z at e3
  have ez : w64 ((w64 (x + y)).tdiv 2) = z := by
    rw [w64_small (x := x + y) (by omega), e3, Int.mul_tdiv_cancel_left z (by omega), w64_small (by omega)]
  rw [ez]
  obtain ⟨k1, k2⟩ := mid_at h1 h2 (by omega) (by omega) e3
  exact ⟨k1, k2, by omega, m1 + m2, hz.symm⟩
theorem mid_comm (a b c d : Int) : addN a b c d = addN c d a b := by unfold addN; congr 1; omega
theorem unit_step {w : Nat} (hw : w < 20) {x a b : Int} (h1 : At x a b) (hx : x.natAbs ≤ 1048576 * w) (dx : ∃ m : Int, x = 2 ^ (20 - w) * m) (u : Int) (hu : u = 1 ∨ u = -1) :
    addOk a b u 1 ∧ At (w64 (x + w64 (u * 1048576))) (sumN a b u 1) (sumD a b u 1) ∧ (w64 (x + w64 (u * 1048576))).natAbs ≤ 1048576 * (w + 1) ∧ ∃ m : Int, w64 (x + w64 (u * 1048576)) = 2 ^ (20 - (w + 1)) * m := by
  obtain ⟨m1, e1⟩ := dx
  have hat : At (u * 1048576) u 1 := by
    rcases hu with rfl | rfl
    · exact at_one
    · exact at_minus
  have ez : w64 (x + w64 (u * 1048576)) = x + u * 1048576 := by
    rw [w64_small (x := u * 1048576) (by omega), w64_small (by omega)]
  rw [ez]
  obtain ⟨k1, k2⟩ := sum_at h1 hat (by omega) (by omega)
  refine ⟨k1, k2, by omega, 2 * m1 + u * 2 ^ (w + 1), ?_⟩
  have hp : (2 : Int) ^ (20 - (w + 1)) * 2 ^ (w + 1) = 1048576 := by
    rw [← Int.pow_add, show 20 - (w + 1) + (w + 1) = 20 by omega]; rfl
  rw [Int.mul_add, e1, pow_half hw, ← hp]
  ac_rfl

theorem plus_rl {i : Wk} {s : Sw} (h : Rl i s) (hw : i.word.size < 20) : swOk s true ∧
    Rl ⟨i.nums ++ [i.x], i.word ++ plusB, i.low ++ [i.x], i.high, betw i.x 1 (i.low ++ [i.x]) i.high⟩ (swStep s true) := by
  obtain ⟨h1, h2, h3, h4, h5⟩ := h
  have hsz : (i.word ++ plusB).size = i.word.size + 1 := by simp [ByteArray.size_append, plusB]; rfl
  have hlow : Bd (i.word.size + 1) (i.low ++ [i.x]) true s.an s.ad := by
    have : Bd i.word.size (i.low ++ [i.x]) true s.an s.ad := by
      unfold Bd; simp only [List.getLast?_concat]
      exact ⟨trivial, h1, h2, h3⟩
    exact this.next hw
  have h6 := h5.next hw
  rw [betw_up (by omega)]
  unfold Bd at h5
  cases hl : i.high.getLast? with
  | none =>
    simp only [hl] at h5
    obtain ⟨k1, k2, k3, k4⟩ := unit_step hw h1 h2 h3 1 (.inl rfl)
    refine ⟨by simp only [swOk, h5]; exact k1, ?_⟩
    simp only [swStep, h5, Bool.false_eq_true, if_false]
    refine ⟨k2, by simp only [hsz]; exact k3, by simp only [hsz]; exact k4, by simp only [hsz]; exact hlow, by simp only [hsz]; rw [← h5]; exact h6⟩
  | some y =>
    simp only [hl] at h5
    obtain ⟨a1, a2, a3, a4⟩ := h5
    obtain ⟨k1, k2, k3, k4⟩ := mid_step hw h1 a2 h2 a3 h3 a4
    refine ⟨by simp only [swOk, a1, if_true]; exact k1, ?_⟩
    simp only [swStep, a1, if_true]
    refine ⟨k2, by simp only [hsz]; exact k3, by simp only [hsz]; exact k4, by simp only [hsz]; exact hlow, by simp only [hsz]; rw [← a1]; exact h6⟩

theorem minus_rl {i : Wk} {s : Sw} (h : Rl i s) (hw : i.word.size < 20) : swOk s false ∧
    Rl ⟨i.nums ++ [i.x], i.word ++ minusB, i.low, i.high ++ [i.x], betw i.x (-1) i.low (i.high ++ [i.x])⟩ (swStep s false) := by
  obtain ⟨h1, h2, h3, h4, h5⟩ := h
  have hsz : (i.word ++ minusB).size = i.word.size + 1 := by simp [ByteArray.size_append, minusB]; rfl
  have hhigh : Bd (i.word.size + 1) (i.high ++ [i.x]) true s.an s.ad := by
    have : Bd i.word.size (i.high ++ [i.x]) true s.an s.ad := by
      unfold Bd; simp only [List.getLast?_concat]
      exact ⟨trivial, h1, h2, h3⟩
    exact this.next hw
  have h6 := h4.next hw
  rw [betw_dn (by omega)]
  unfold Bd at h4
  cases hl : i.low.getLast? with
  | none =>
    simp only [hl] at h4
    obtain ⟨k1, k2, k3, k4⟩ := unit_step hw h1 h2 h3 (-1) (.inr rfl)
    refine ⟨by simp only [swOk, h4]; exact k1, ?_⟩
    simp only [swStep, h4, Bool.false_eq_true, if_false]
    refine ⟨k2, by simp only [hsz]; exact k3, by simp only [hsz]; exact k4, by simp only [hsz]; rw [← h4]; exact h6, by simp only [hsz]; exact hhigh⟩
  | some y =>
    simp only [hl] at h4
    obtain ⟨a1, a2, a3, a4⟩ := h4
    obtain ⟨k1, k2, k3, k4⟩ := mid_step hw a2 h1 a3 h2 a4 h3
    rw [Int.add_comm y i.x] at k2 k3 k4
    refine ⟨by simp only [swOk, a1, if_true]; exact k1, ?_⟩
    simp only [swStep, a1, if_true]
    refine ⟨k2, by simp only [hsz]; exact k3, by simp only [hsz]; exact k4, by simp only [hsz]; rw [← a1]; exact h6, by simp only [hsz]; exact hhigh⟩

theorem side_val (n d x : Int) : side n d x = 1 ∨ side n d x = 0 ∨ side n d x = -1 := by
  unfold side cmpI; split
  · simp
  · split <;> simp
theorem side_zero (n d x : Int) : (w64 (n * 1048576) == w64 (x * d)) = (side n d x == 0) := by
  unfold side cmpI
  rw [Bool.eq_iff_iff]; simp only [beq_iff_eq]
  split
  · constructor <;> intro h <;> omega
  · split
    · constructor <;> intro h <;> omega
    · constructor <;> intro h <;> omega

theorem walks_same {n d : Int} (hg : goodB n d = true) : ∀ (k : Nat) (i : Wk) (s : Sw), Rl i s → i.word.size + k = 21 → 0 < k →
    swGood n d k s i.word ∧ swRun n d k s i.word = (if (w64 (n * 1048576) == w64 ((wkRun (side n d) k i).nums.getLastD 0 * d)) then (wkRun (side n d) k i).word else ⟨#[]⟩, (w64 (n * 1048576) == w64 ((wkRun (side n d) k i).nums.getLastD 0 * d)))
  | 0, i, s, _, _, h => by omega
  | k + 1, i, s, hr, hk, _ => by
    have hgr := good_range hg
    have hc : swCmp n d s = - side n d i.x := cmp_at hr.at_ (by have := hr.size; omega) (by omega) (by omega) (by omega)
    by_cases hz : side n d i.x = 0
    · have e1 : wkRun (side n d) (k + 1) i = { i with nums := i.nums ++ [i.x] } := by simp [wkRun, hz]
      have e2 : (w64 (n * 1048576) == w64 (i.x * d)) = true := by rw [side_zero]; simp [hz]
      refine ⟨.inl (by omega), ?_⟩
      simp [swRun, hc, hz, e1, e2]
    · by_cases h20 : i.word.size = 20
      · have e1 : wkRun (side n d) (k + 1) i = { i with nums := i.nums ++ [i.x] } := by simp [wkRun, h20]
        have e2 : (w64 (n * 1048576) == w64 (i.x * d)) = false := by rw [side_zero]; simp [hz]
        refine ⟨.inr (.inl h20), ?_⟩
        simp [swRun, hc, hz, h20, e1, e2]
      · rcases side_val n d i.x with h | h | h
        · obtain ⟨o1, o2⟩ := plus_rl hr (by omega)
          have hsz : (i.word ++ plusB).size = i.word.size + 1 := by simp [ByteArray.size_append, plusB]; rfl
          obtain ⟨r1, r2⟩ := walks_same hg k _ _ o2 (by simp only [hsz]; omega) (by omega)
          have e1 : wkRun (side n d) (k + 1) i = wkRun (side n d) k ⟨i.nums ++ [i.x], i.word ++ plusB, i.low ++ [i.x], i.high, betw i.x 1 (i.low ++ [i.x]) i.high⟩ := by
            simp [wkRun, h, h20]
          rw [e1]
          refine ⟨.inr (.inr (.inl ⟨by omega, o1, r1⟩)), ?_⟩
          rw [← r2]
          simp only [swRun]
          rw [if_neg (by omega), if_neg h20, if_pos (by omega)]
        · exact absurd h hz
        · obtain ⟨o1, o2⟩ := minus_rl hr (by omega)
          have hsz : (i.word ++ minusB).size = i.word.size + 1 := by simp [ByteArray.size_append, minusB]; rfl
          obtain ⟨r1, r2⟩ := walks_same hg k _ _ o2 (by simp only [hsz]; omega) (by omega)
          have e1 : wkRun (side n d) (k + 1) i = wkRun (side n d) k ⟨i.nums ++ [i.x], i.word ++ minusB, i.low, i.high ++ [i.x], betw i.x (-1) i.low (i.high ++ [i.x])⟩ := by
            simp [wkRun, h, h20]
          rw [e1]
          refine ⟨.inr (.inr (.inr ⟨by omega, o1, r1⟩)), ?_⟩
          rw [← r2]
          simp only [swRun]
          rw [if_neg (by omega), if_neg h20, if_neg (by omega)]

end Go.Proofs.Ytolfjeedgedblaa
