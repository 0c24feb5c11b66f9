/-
  Short numbers: the numbers on the way of a word. No program in sight.
-/
import Derived.Test.YtolfjeedgedblaaF16
namespace Go.Proofs.Ytolfjeedgedblaa
open Go K
set_option linter.unusedSimpArgs false
set_option linter.unusedVariables false
set_option maxHeartbeats 400000

theorem mkOk_of {n d : Int} (hd : 0 < d) (hs : small n d) (hn : (mkN n d).natAbs ≤ 1000000) (hq : mkD n d ≤ 1000000) : mkOk n d = true := by
  obtain ⟨g, _, _, _, h0, h1, _, _⟩ := mk_spec hd hs
  have hg := gcdI_gcd (n := mkN n d) (d := mkD n d) (by omega) (by omega) (by omega)
  unfold mkOk goodB
  simp only [Bool.and_eq_true, inB_iff, beq_iff_eq]
  refine ⟨⟨⟨by omega, by omega⟩, by omega, by omega⟩, ?_⟩
  rw [hg, h1]; rfl
theorem mk_self {n d : Int} (hg : goodB n d = true) : mkN n d = n ∧ mkD n d = d := by
  have hr := good_range hg
  have h1 : gcdI n d = 1 := by
    simp only [goodB, Bool.and_eq_true, beq_iff_eq] at hg; exact hg.2
  unfold mkN mkD mkG
  rw [if_neg (by omega), h1, Int.tdiv_one, Int.tdiv_one]
  exact ⟨w64_small (by omega), w64_small (by omega)⟩

/-- A multiple of a part of the unit, not far out. -/
def Mh (j h : Nat) (x : Int) : Prop := (∃ m : Int, x = 2 ^ (20 - h) * m) ∧ x.natAbs ≤ 1048576 * j
theorem Mh.up {j h : Nat} {x : Int} (k : Mh j h x) : Mh (j + 1) h x := ⟨k.1, by have := k.2; omega⟩
theorem Mh.half {j h : Nat} {x : Int} (k : Mh j h x) (hh : h < 20) : Mh j (h + 1) x := by
  obtain ⟨⟨m, e⟩, b⟩ := k
  exact ⟨⟨2 * m, by rw [e, pow_half hh]; ac_rfl⟩, b⟩
theorem pw_num : ∀ h : Nat, h < 20 → 2 ^ h * (19 - h) ≤ 1000000 := by decide
theorem pw_den : ∀ h : Nat, h < 20 → 2 ^ h ≤ 1000000 := by decide
theorem pw_pos (h : Nat) : (0 : Int) < 2 ^ h := Int.pow_pos (by omega)
theorem Mh.ok {j h : Nat} {x : Int} (k : Mh j h x) (hw : j + h ≤ 19) : mkOk x 1048576 = true := by
  obtain ⟨⟨m, e⟩, b⟩ := k
  have hp : (2 : Int) ^ (20 - h) * 2 ^ h = 1048576 := by
    rw [← Int.pow_add, show 20 - h + h = 20 by omega]; rfl
  have n1 := pw_num h (by omega)
  have n2 := pw_den h (by omega)
  have p1 := pw_pos (20 - h)
  have p2 := pw_pos h
  have hpn : ((2 : Int) ^ h) = ((2 ^ h : Nat) : Int) := by simp
  have hm : m.natAbs ≤ 2 ^ h * j := by
    have h1 : x.natAbs = (2 ^ (20 - h) : Int).natAbs * m.natAbs := by rw [e, Int.natAbs_mul]
    have h2 : (1048576 : Nat) = (2 ^ (20 - h) : Int).natAbs * 2 ^ h := by
      have := congrArg Int.natAbs hp
      rw [Int.natAbs_mul] at this
      rw [show ((2 : Int) ^ h).natAbs = 2 ^ h by rw [hpn]; rfl] at this
      exact this.symm
    rw [h1, h2, Nat.mul_assoc] at b
    exact Nat.le_of_mul_le_mul_left b (by omega)
  have hj : 2 ^ h * j ≤ 2 ^ h * (19 - h) := Nat.mul_le_mul_left _ (by omega)
  have hsm : small m (2 ^ h) := ⟨by omega, by rw [hpn]; omega⟩
  have hx : x.natAbs ≤ 100000000 := by omega
  obtain ⟨r1, r2⟩ := mk_ratio (n1 := x) (d1 := 1048576) (n2 := m) (d2 := 2 ^ h) (by omega) p2 ⟨by omega, by omega⟩ hsm (by rw [e, ← hp]; ac_rfl)
  obtain ⟨_, _, _, _, _, _, k1, k2⟩ := mk_spec p2 hsm
  refine mkOk_of (by omega) ⟨by omega, by omega⟩ (by rw [r1]; omega) (by rw [r2]; rw [hpn] at k2 ⊢; omega)

def stepP (i : Wk) : Wk := ⟨i.nums ++ [i.x], i.word ++ plusB, i.low ++ [i.x], i.high, betw i.x 1 (i.low ++ [i.x]) i.high⟩
def stepM (i : Wk) : Wk := ⟨i.nums ++ [i.x], i.word ++ minusB, i.low, i.high ++ [i.x], betw i.x (-1) i.low (i.high ++ [i.x])⟩
theorem size_plus (b : ByteArray) : (b ++ plusB).size = b.size + 1 := by simp [ByteArray.size_append, plusB]; rfl
theorem size_minus (b : ByteArray) : (b ++ minusB).size = b.size + 1 := by simp [ByteArray.size_append, minusB]; rfl

/-- What holds on the way: halvings begin only between two bounds. -/
def Wi (i : Wk) : Prop := ∃ j h : Nat, j + h ≤ i.word.size ∧ Mh j h i.x ∧ (∀ y, i.low.getLast? = some y → Mh j h y) ∧ (∀ y, i.high.getLast? = some y → Mh j h y) ∧ (h = 0 ∨ (i.low ≠ [] ∧ i.high ≠ []))
theorem wi0 : Wi wk0 := ⟨0, 0, Nat.le_refl _, ⟨⟨0, rfl⟩, Nat.le_refl _⟩, fun y h => by simp [wk0] at h, fun y h => by simp [wk0] at h, .inl rfl⟩
theorem Mh.mid {j h : Nat} {x y : Int} (k : Mh j h x) (l : Mh j h y) (hh : h < 20) (hj : j ≤ 20) : Mh j (h + 1) (w64 ((w64 (x + y)).tdiv 2)) := by
  obtain ⟨⟨m1, e1⟩, b1⟩ := k
  obtain ⟨⟨m2, e2⟩, b2⟩ := l
  have e3 : x + y = 2 * (2 ^ (20 - (h + 1)) * (m1 + m2)) := by
    rw [e1, e2, pow_half hh, ← Int.mul_add]; ac_rfl
  generalize hz : (2 : Int) ^ (20 - (h + 1)) * (m1 + m2) = z at e3
  have ez : w64 ((w64 (x + y)).tdiv 2) = z := by
    rw [w64_small (x := x + y) (by omega), e3, Int.mul_tdiv_cancel_left z (by omega), w64_small (by omega)]
  rw [ez]
  exact ⟨⟨m1 + m2, hz.symm⟩, by omega⟩
theorem Mh.unit {j : Nat} {x u : Int} (k : Mh j 0 x) (hj : j ≤ 20) (hu : u = 1 ∨ u = -1) : Mh (j + 1) 0 (w64 (x + w64 (u * 1048576))) := by
  obtain ⟨⟨m, e⟩, b⟩ := k
  have ez : w64 (x + w64 (u * 1048576)) = x + u * 1048576 := by
    rw [w64_small (x := u * 1048576) (by omega), w64_small (by omega)]
  rw [ez]
  refine ⟨⟨m + u, ?_⟩, by omega⟩
  rw [Int.mul_add, e, show (2 : Int) ^ (20 - 0) = 1048576 from rfl, Int.mul_comm u]
theorem Wi.plus {i : Wk} (k : Wi i) (hw : i.word.size < 20) : Wi (stepP i) := by
  obtain ⟨j, h, h1, h2, h3, h4, h5⟩ := k
  have hb : ∀ s, betw i.x 1 s i.high = (match i.high.getLast? with | none => w64 (i.x + w64 (1 * 1048576)) | some y => w64 ((w64 (i.x + y)).tdiv 2)) := fun s => betw_up (by omega)
  unfold Wi stepP
  simp only [size_plus, hb, List.getLast?_concat]
  cases hl : i.high.getLast? with
  | none =>
    have hn : i.high = [] := List.getLast?_eq_none_iff.1 hl
    have h0 : h = 0 := by rcases h5 with h5 | h5; exact h5; exact absurd hn h5.2
    subst h0
    exact ⟨j + 1, 0, by omega, h2.unit (by omega) (.inl rfl), fun y e => by cases e; exact h2.up, fun y e => by simp at e, .inl rfl⟩
  | some y =>
    have h6 := h4 y hl
    refine ⟨j, h + 1, by omega, h2.mid h6 (by omega) (by omega), fun z e => by cases e; exact h2.half (by omega), fun z e => by cases e; exact h6.half (by omega), .inr ⟨by simp, fun e => by rw [e] at hl; simp at hl⟩⟩
theorem Wi.minus {i : Wk} (k : Wi i) (hw : i.word.size < 20) : Wi (stepM i) := by
  obtain ⟨j, h, h1, h2, h3, h4, h5⟩ := k
  have hb : ∀ s, betw i.x (-1) i.low s = (match i.low.getLast? with | none => w64 (i.x + w64 (-1 * 1048576)) | some y => w64 ((w64 (i.x + y)).tdiv 2)) := fun s => betw_dn (by omega)
  unfold Wi stepM
  simp only [size_minus, hb, List.getLast?_concat]
  cases hl : i.low.getLast? with
  | none =>
    have hn : i.low = [] := List.getLast?_eq_none_iff.1 hl
    have h0 : h = 0 := by rcases h5 with h5 | h5; exact h5; exact absurd hn h5.1
    subst h0
    exact ⟨j + 1, 0, by omega, h2.unit (by omega) (.inr rfl), fun y e => by simp at e, fun y e => by cases e; exact h2.up, .inl rfl⟩
  | some y =>
    have h6 := h3 y hl
    refine ⟨j, h + 1, by omega, h2.mid h6 (by omega) (by omega), fun z e => by cases e; exact h6.half (by omega), fun z e => by cases e; exact h2.half (by omega), .inr ⟨fun e => by rw [e] at hl; simp at hl, by simp⟩⟩

/-- The walk after so many letters of a word. -/
def atWk (s : ByteArray) : Nat → Wk
  | 0 => wk0
  | k + 1 => if isPlus s k then stepP (atWk s k) else stepM (atWk s k)
theorem atWk_size (s : ByteArray) : ∀ k, (atWk s k).word.size = k
  | 0 => rfl
  | k + 1 => by
    unfold atWk; split
    · simp only [stepP, size_plus, atWk_size s k]
    · simp only [stepM, size_minus, atWk_size s k]
theorem atWk_len (s : ByteArray) : ∀ k, (atWk s k).nums.length = k
  | 0 => rfl
  | k + 1 => by
    unfold atWk; split
    · simp [stepP, atWk_len s k]
    · simp [stepM, atWk_len s k]
theorem atWk_wi (s : ByteArray) : ∀ k, k ≤ 20 → Wi (atWk s k)
  | 0, _ => wi0
  | k + 1, h => by
    have := atWk_wi s k (by omega)
    have hz := atWk_size s k
    unfold atWk; split
    · exact this.plus (by omega)
    · exact this.minus (by omega)
theorem atWk_rl (s : ByteArray) : ∀ k, k ≤ 20 → Rl (atWk s k) (swAt s k)
  | 0, _ => ⟨at_zero, Nat.le_refl _, ⟨0, rfl⟩, rfl, rfl⟩
  | k + 1, h => by
    have := atWk_rl s k (by omega)
    have hz := atWk_size s k
    unfold atWk swAt
    cases isPlus s k
    · exact (minus_rl this (by omega)).2
    · exact (plus_rl this (by omega)).2
theorem swAt_ok (s : ByteArray) (k : Nat) (h : k < 20) : swOk (swAt s k) (isPlus s k) := by
  have := atWk_rl s k (by omega)
  have hz := atWk_size s k
  cases isPlus s k
  · exact (minus_rl this (by omega)).1
  · exact (plus_rl this (by omega)).1
theorem atWk_small (s : ByteArray) (k : Nat) (h : k ≤ 20) : (atWk s k).x.natAbs ≤ 50000000 := by
  have := (atWk_rl s k h).size
  have hz := atWk_size s k
  omega
/-- With fewer letters than 20 each number is a right fraction. -/
theorem atWk_ok (s : ByteArray) (k : Nat) (h : k ≤ 19) : mkOk (atWk s k).x 1048576 = true := by
  obtain ⟨j, h', h1, h2, _⟩ := atWk_wi s k (by omega)
  have hz := atWk_size s k
  exact h2.ok (by omega)
theorem swAt_fr (s : ByteArray) (k : Nat) (h : k ≤ 20) (hm : mkOk (atWk s k).x 1048576 = true) : (swAt s k).an = frN (atWk s k).x ∧ (swAt s k).ad = frD (atWk s k).x := by
  have := (atWk_rl s k h).at_
  unfold frN frD
  rw [if_pos hm, if_pos hm]
  exact this

/-- The program's walk along a word. -/
theorem ofRun_at (s : ByteArray) (hs : s.size ≤ 20) : ∀ (m k : Nat), k ≤ s.size → s.size - k < m → ofRun s m (atWk s k) = { atWk s s.size with nums := (atWk s s.size).nums ++ [(atWk s s.size).x] }
  | 0, k, _, h => by omega
  | m + 1, k, hk, h => by
    have hz := atWk_size s k
    unfold ofRun
    rw [hz]
    by_cases he : k = s.size
    · have : ofF s k = 0 := by simp [ofF, he]
      rw [if_pos (.inl this), he]
    · have ih := ofRun_at s hs m (k + 1) (by omega) (by omega)
      rw [← ih]
      by_cases hp : s.data.getD k 0 = 43
      · have e1 : ofF s k = 1 := by simp only [ofF, he, hp, if_false, if_true]
        have e2 : isPlus s k = true := by simp [isPlus, hp]
        rw [e1, if_neg (by omega), if_pos (by omega)]
        simp only [atWk, e2, if_true]; rfl
      · have e1 : ofF s k = -1 := by simp only [ofF, he, hp, if_false]
        have e2 : isPlus s k = false := by simpa [isPlus] using hp
        rw [e1, if_neg (by omega), if_neg (by omega)]
        simp only [atWk, e2, Bool.false_eq_true, if_false]; rfl
theorem ofRun_nums (s : ByteArray) (hs : s.size ≤ 20) : (ofRun s 21 wk0).nums = (atWk s s.size).nums ++ [(atWk s s.size).x] := by
  have := ofRun_at s hs 21 0 (Nat.zero_le _) (by omega)
  rw [show atWk s 0 = wk0 from rfl] at this
  rw [this]

/-! ### the word of a fraction -/
theorem getD_app1 (b c : ByteArray) (p : Nat) (h : p < b.size) : (b ++ c).data.getD p 0 = b.data.getD p 0 := by
  have h' : p < b.data.size := h
  simp [Array.getD_eq_getD_getElem?, ByteArray.data_append, Array.getElem?_append_left h']
theorem getD_end (b c : ByteArray) : (b ++ c).data.getD b.size 0 = c.data.getD 0 0 := by
  have h : (b.data ++ c.data)[b.size]? = c.data[b.size - b.data.size]? := Array.getElem?_append_right (Nat.le_refl _)
  rw [Array.getD_eq_getD_getElem?, ByteArray.data_append, h, Array.getD_eq_getD_getElem?, show b.size - b.data.size = 0 from Nat.sub_self _]
theorem getD_plus (b : ByteArray) : (b ++ plusB).data.getD b.size 0 = 43 := by rw [getD_end]; rfl
theorem getD_minus (b : ByteArray) : (b ++ minusB).data.getD b.size 0 = 45 := by rw [getD_end]; rfl
theorem wkRun_pre (f : Int → Int) : ∀ (m : Nat) (i : Wk) (p : Nat), p < i.word.size → (wkRun f m i).word.data.getD p 0 = i.word.data.getD p 0
  | 0, i, p, h => rfl
  | m + 1, i, p, h => by
    unfold wkRun
    split
    · rfl
    · split
      · rw [wkRun_pre f m _ p (by simp only [size_plus]; omega)]
        exact getD_app1 _ _ _ h
      · rw [wkRun_pre f m _ p (by simp only [size_minus]; omega)]
        exact getD_app1 _ _ _ h
theorem wkRun_at (f : Int → Int) (hf : ∀ x, f x = 1 ∨ f x = 0 ∨ f x = -1) (s : ByteArray) : ∀ (m k : Nat), m + k = 21 → k ≤ 20 → (wkRun f m (atWk s k)).word = s → wkRun f m (atWk s k) = { atWk s s.size with nums := (atWk s s.size).nums ++ [(atWk s s.size).x] }
  | 0, k, h1, h2, _ => by omega
  | m + 1, k, h1, h2, hw => by
    have hz := atWk_size s k
    unfold wkRun at hw ⊢
    by_cases hst : f (atWk s k).x = 0 ∨ (atWk s k).word.size = 20
    · rw [if_pos hst] at hw ⊢
      have : k = s.size := by rw [← hw]; exact hz.symm
      subst this; rfl
    · rw [if_neg hst] at hw ⊢
      have hst1 : f (atWk s k).x ≠ 0 := fun e => hst (.inl e)
      have hst2 : k ≠ 20 := fun e => hst (.inr (by omega))
      rcases hf (atWk s k).x with e | e | e
      · rw [if_pos (by omega), e] at hw ⊢
        have hp : isPlus s k = true := by
          have := wkRun_pre f m _ k (show k < (stepP (atWk s k)).word.size by simp only [stepP, size_plus]; omega)
          have hw' : (wkRun f m (stepP (atWk s k))).word = s := hw
          rw [hw'] at this
          have h3 := getD_plus (atWk s k).word
          rw [hz] at h3
          have h4 : (stepP (atWk s k)).word.data.getD k 0 = 43 := h3
          rw [h4] at this
          simp [isPlus, this]
        have := wkRun_at f hf s m (k + 1) (by omega) (by omega)
        simp only [atWk, hp, if_true] at this
        exact this hw
      · exact absurd e hst1
      · rw [if_neg (by omega), e] at hw ⊢
        have hp : isPlus s k = false := by
          have := wkRun_pre f m _ k (show k < (stepM (atWk s k)).word.size by simp only [stepM, size_minus]; omega)
          have hw' : (wkRun f m (stepM (atWk s k))).word = s := hw
          rw [hw'] at this
          have h3 := getD_minus (atWk s k).word
          rw [hz] at h3
          have h4 : (stepM (atWk s k)).word.data.getD k 0 = 45 := h3
          rw [h4] at this
          simp [isPlus, this]
        have := wkRun_at f hf s m (k + 1) (by omega) (by omega)
        simp only [atWk, hp, Bool.false_eq_true, if_false] at this
        exact this hw

/-- A short fraction's own walk is the walk along its word, and ends at it. -/
theorem wk_own {n d : Int} (h : shortB n d = true) : gWk n d = { atWk (gWk n d).word (gWk n d).word.size with nums := (atWk (gWk n d).word (gWk n d).word.size).nums ++ [(atWk (gWk n d).word (gWk n d).word.size).x] } := by
  have hg : goodB n d = true := by simp only [shortB, Bool.and_eq_true] at h; exact h.1
  have e : gWk n d = wkRun (side n d) 21 wk0 := by simp [gWk, hg, wkOf]
  rw [e]
  exact wkRun_at (side n d) (side_val n d) _ 21 0 rfl (by omega) rfl
theorem wk_size (n d : Int) : (gWk n d).word.size ≤ 20 := by
  have key : ∀ (f : Int → Int) (k : Nat) (i : Wk), i.word.size ≤ 20 → (wkRun f k i).word.size ≤ 20 := by
    intro f k
    induction k with
    | zero => intro i h; exact h
    | succ k ih =>
      intro i h
      unfold wkRun
      split
      · exact h
      · rename_i hn
        split
        · exact ih _ (by simp only [size_plus]; omega)
        · exact ih _ (by simp only [size_minus]; omega)
  unfold gWk
  split
  · exact key _ _ _ (by decide)
  · decide
theorem wk_end {n d : Int} (h : shortB n d = true) : mkOk (atWk (gWk n d).word (gWk n d).word.size).x 1048576 = true := by
  have hg : goodB n d = true := by simp only [shortB, Bool.and_eq_true] at h; exact h.1
  have hr := good_range hg
  have hw := wk_size n d
  have hx := atWk_small (gWk n d).word _ hw
  have e := wk_own h
  have e2 : wkOf n d = gWk n d := by simp [gWk, hg]
  have h2 : w64 (n * 1048576) = w64 ((atWk (gWk n d).word (gWk n d).word.size).x * d) := by
    simp only [shortB, Bool.and_eq_true, beq_iff_eq] at h
    have h3 := h.2
    rw [e2, e] at h3
    simpa using h3
  generalize (atWk (gWk n d).word (gWk n d).word.size).x = x at *
  have q := mul_le (a := x) (b := d) (A := 50000000) (B := 1000000) hx (by omega)
  rw [w64_small (by omega), w64_small (by omega)] at h2
  obtain ⟨r1, r2⟩ := mk_ratio (n1 := n) (d1 := d) (n2 := x) (d2 := 1048576) (by omega) (by omega) ⟨by omega, by omega⟩ ⟨by omega, by omega⟩ h2
  obtain ⟨s1, s2⟩ := mk_self hg
  unfold mkOk
  rw [← r1, ← r2, s1, s2]; exact hg
/-- Each number on the way of a short fraction is a right fraction. -/
theorem wk_ok {n d : Int} (h : shortB n d = true) (k : Nat) (hk : k ≤ (gWk n d).word.size) : mkOk (atWk (gWk n d).word k).x 1048576 = true := by
  have hw := wk_size n d
  by_cases h2 : k ≤ 19
  · exact atWk_ok _ _ h2
  · have : k = (gWk n d).word.size := by omega
    rw [this]; exact wk_end h

/-! ### the beginning of a word -/
theorem getD_ext (s : ByteArray) (k p : Nat) (h : p < k) : (s.extract 0 k).data.getD p 0 = s.data.getD p 0 := by
  simp only [Array.getD_eq_getD_getElem?, ByteArray.data_extract, Array.getElem?_extract]
  by_cases h2 : p < s.data.size
  · rw [if_pos (by omega)]; simp
  · rw [if_neg (by omega), Array.getElem?_eq_none (by omega)]
theorem atWk_ext (s : ByteArray) (k : Nat) : ∀ p, p ≤ k → atWk (s.extract 0 k) p = atWk s p
  | 0, _ => rfl
  | p + 1, h => by
    have := atWk_ext s k p (by omega)
    simp only [atWk, this, isPlus, getD_ext s k p (by omega)]
    rfl
theorem size_ext (s : ByteArray) (k : Nat) (h : k ≤ s.size) : (s.extract 0 k).size = k := by
  rw [ByteArray.size_extract]; omega

end Go.Proofs.Ytolfjeedgedblaa
