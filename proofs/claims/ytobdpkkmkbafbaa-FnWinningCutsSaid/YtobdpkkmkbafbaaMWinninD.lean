/-
  Texts joined in one: GF5, GF6, K30, K31, BR6, BR7, GF7, BR8, GD1, K32, GD2, BR9, BRA, K33, GD3, GP1, GP2, GP3, GD5.
-/
import Derived.Test.YtobdpkkmkbafbaaMWinninC
import Derived.Laws.BytesArg
import Derived.Below
/-
  Green pictures: the fused value is the least number that no cut leaves (plain law).
-/
namespace Go.Proofs.Ytobdpkkmkbafbaa
set_option linter.unusedSimpArgs false
set_option linter.unusedVariables false
open Classical

section
variable {g : GTw} {A S : Nat → Bool} {r : Nat}
/-- A colouring behind a cut of 'i', seen ahead of it. -/
theorem col_back {i k : Nat} {x : Nat → Bool} (hk : cn g (butK A i) r k) (hx : Col g (butK A i) r (· = k) x) :
    ∃ x', (∀ q, Rch g (butK A i) r q → x' q = x q) ∧ (Col g A r (· = k) x' ∨ Col g A r (fun m => m = k ∨ m = i) x') := by
  obtain ⟨X, hX⟩ : ∃ X : Nat → Bool, ∀ q, X q = (x q && decide (Rch g (butK A i) r q)) := ⟨_, fun _ => rfl⟩
  have xT : ∀ {q}, Rch g (butK A i) r q → X q = x q := fun {q} h => by simp [hX, h]
  have xF : ∀ {q}, ¬ Rch g (butK A i) r q → X q = false := fun {q} h => by simp [hX, h]
  have hki : k ≠ i := by
    obtain ⟨p, q, hT⟩ := hk
    exact (butK_ne.1 hT.2.1).2
  have gen : ∀ m p q, Tw g A r m p q → m ≠ i → (X p ≠ X q ↔ m = k) := fun m p q hM hne => by
    have e : Rch g (butK A i) r p ↔ Rch g (butK A i) r q := ⟨.fwd hM.1 (butK_ne.2 ⟨hM.2.1, hne⟩), .bwd hM.1 (butK_ne.2 ⟨hM.2.1, hne⟩)⟩
    by_cases hp : Rch g (butK A i) r p
    · rw [xT hp, xT (e.1 hp)]
      exact hx.2 m p q ⟨hM.1, butK_ne.2 ⟨hM.2.1, hne⟩, hp⟩
    · rw [xF hp, xF (fun h => hp (e.2 h))]
      simp only [ne_eq, not_true_eq_false, false_iff]
      rintro rfl
      obtain ⟨p', q', hT⟩ := hk
      have := hM.1.symm.trans hT.1
      cases this
      exact hp hT.2.2
  refine ⟨X, fun q hq => xT hq, ?_⟩
  by_cases hfl : ∃ p q, Tw g A r i p q ∧ X p ≠ X q
  · right
    obtain ⟨p, q, hI, hne⟩ := hfl
    refine ⟨by rw [hX, hx.1]; rfl, fun m p' q' hM => ?_⟩
    by_cases e : m = i
    · subst e
      obtain ⟨rfl, rfl⟩ := hI.ends hM
      simp [hne]
    · simp only [e, or_false]; exact gen m p' q' hM e
  · left
    refine ⟨by rw [hX, hx.1]; rfl, fun m p' q' hM => ?_⟩
    by_cases e : m = i
    · subst e
      have : ¬ X p' ≠ X q' := fun h => hfl ⟨p', q', hM, h⟩
      simp [this, Ne.symm hki]
    · exact gen m p' q' hM e
/-- Two twigs that part together, one of them outside the root's block. -/
theorem two_out {e i k ea eb : Nat} {x : Nat → Bool} (he : Nb g A S r e) (hE : Tw g A r e ea eb) (hsi : S i = true) (hci : cn g A r i) (hni : ¬ Nb g A S r i) (hck : cn g A r k) (hki : k ≠ i) (hx : Col g A r (fun m => m = k ∨ m = i) x) : k ≠ e ∧ (S k = true → x ea = false) := by
  obtain ⟨ia, ib, hI⟩ := hci
  obtain ⟨ka, kb, hK⟩ := hck
  have xK : x ka ≠ x kb := (hx.2 k ka kb hK).2 (.inl rfl)
  have xI : x ia ≠ x ib := (hx.2 i ia ib hI).2 (.inr rfl)
  by_cases hb : ∃ y, Col g A r (· = i) y
  · obtain ⟨y, hy⟩ := hb
    have yI : y ia ≠ y ib := (hy.2 i ia ib hI).2 rfl
    have hw : Col g A r (· = k) (fun q => xor (x q) (y q)) := ⟨by simp [hx.1, hy.1], fun m p q hM => by
      have m1 := hx.2 m p q hM
      have m2 := hy.2 m p q hM
      by_cases e1 : m = i
      · subst e1
        simp only [or_true, iff_true] at m1 m2
        simp only [Ne.symm hki, iff_false]
        revert m1 m2
        cases x p <;> cases x q <;> cases y p <;> cases y q <;> simp
      · simp only [e1, or_false, iff_false] at m1 m2
        show (xor (x p) (y p)) ≠ (xor (x q) (y q)) ↔ m = k
        rw [← m1]
        revert m2
        cases x p <;> cases x q <;> cases y p <;> cases y q <;> simp⟩
    have hke : k ≠ e := by
      rintro rfl
      exact he.2.2.1 _ hw
    refine ⟨hke, fun hsk => ?_⟩
    have h1 := (he.2.2.2 k _ hsk ⟨ka, kb, hK⟩ hw ea eb hE).1
    have h2 := (he.2.2.2 i y hsi ⟨ia, ib, hI⟩ hy ea eb hE).1
    rw [h2] at h1
    simpa using h1
  · have nbi : ∀ y, ¬ Col g A r (· = i) y := fun y hy => hb ⟨y, hy⟩
    obtain ⟨f, y, hsf, hcf, hy, hyi⟩ : ∃ f y, S f = true ∧ cn g A r f ∧ Col g A r (· = f) y ∧ ¬ (y ia = false ∧ y ib = false) := by
      refine Classical.byContradiction fun hno => hni ⟨hsi, ⟨ia, ib, hI⟩, nbi, fun f y h1 h2 h3 a b hT => ?_⟩
      obtain ⟨rfl, rfl⟩ := hI.ends hT
      exact Classical.not_not.1 fun h4 => hno ⟨f, y, h1, h2, h3, h4⟩
    have hfi : f ≠ i := by rintro rfl; exact nbi y hy
    have hfe : f ≠ e := by rintro rfl; exact he.2.2.1 y hy
    obtain ⟨fa, fb, hF⟩ := hcf
    have yF : y fa ≠ y fb := (hy.2 f fa fb hF).2 rfl
    have yII : y ia = y ib := Classical.not_not.1 fun q => hfi ((hy.2 i ia ib hI).1 q).symm
    have yI : y ia = true := by
      cases h : y ia
      · exact absurd ⟨h, by rw [← yII]; exact h⟩ hyi
      · rfl
    rw [yI] at yII
    have yE := he.2.2.2 f y hsf ⟨fa, fb, hF⟩ hy ea eb hE
    have hkf : k ≠ f := by
      rintro rfl
      refine nbi (fun q => xor (x q) (y q)) ⟨by simp [hx.1, hy.1], fun m p q hM => ?_⟩
      have m1 := hx.2 m p q hM
      have m2 := hy.2 m p q hM
      by_cases e1 : m = i
      · subst e1
        simp only [Ne.symm hki, or_true, iff_true, iff_false] at m1 m2 ⊢
        revert m1 m2
        cases x p <;> cases x q <;> cases y p <;> cases y q <;> simp
      · simp only [e1, or_false, iff_false] at m1 m2 ⊢
        have m3 := m1.trans m2.symm
        revert m3
        cases x p <;> cases x q <;> cases y p <;> cases y q <;> simp
    have yK : y ka = y kb := Classical.not_not.1 fun q => hkf ((hy.2 k ka kb hK).1 q)
    have xF : x fa = x fb := Classical.not_not.1 fun q => ((hx.2 f fa fb hF).1 q).elim (fun e => hkf e.symm) hfi
    have gen : ∀ m p q, Tw g A r m p q → m ≠ i → m ≠ k → m ≠ f → x p = x q ∧ y p = y q := fun m p q hM e1 e2 e3 =>
      ⟨Classical.not_not.1 fun q => ((hx.2 m p _ hM).1 q).elim e2 e1, Classical.not_not.1 fun q => e3 ((hy.2 m p _ hM).1 q)⟩
    cases hκ : y ka
    · exfalso
      rw [hκ] at yK
      cases hξ : x fa
      · rw [hξ] at xF
        refine nbi (fun q => x q && y q) ⟨by simp [hx.1], fun m p q hM => ?_⟩
        by_cases e1 : m = i
        · subst e1
          obtain ⟨rfl, rfl⟩ := hI.ends hM
          simp only [yI, ← yII, Bool.and_true, iff_true]; exact xI
        by_cases e2 : m = k
        · subst e2
          obtain ⟨rfl, rfl⟩ := hK.ends hM
          simp [hκ, ← yK, e1]
        by_cases e3 : m = f
        · subst e3
          obtain ⟨rfl, rfl⟩ := hF.ends hM
          simp [hξ, ← xF, e1]
        obtain ⟨g1, g2⟩ := gen m p q hM e1 e2 e3
        simp [g1, g2, e1]
      · rw [hξ] at xF
        refine nbi (fun q => !x q && y q) ⟨by simp [hx.1, hy.1], fun m p q hM => ?_⟩
        by_cases e1 : m = i
        · subst e1
          obtain ⟨rfl, rfl⟩ := hI.ends hM
          simp only [yI, ← yII, Bool.and_true, iff_true]
          intro e; exact xI (by revert e; cases x p <;> cases x q <;> simp)
        by_cases e2 : m = k
        · subst e2
          obtain ⟨rfl, rfl⟩ := hK.ends hM
          simp [hκ, ← yK, e1]
        by_cases e3 : m = f
        · subst e3
          obtain ⟨rfl, rfl⟩ := hF.ends hM
          simp [hξ, ← xF, e1]
        obtain ⟨g1, g2⟩ := gen m p q hM e1 e2 e3
        simp [g1, g2, e1]
    · rw [hκ] at yK
      have hke : k ≠ e := by
        rintro rfl
        obtain ⟨rfl, rfl⟩ := hK.ends hE
        rw [yE.1] at hκ; cases hκ
      refine ⟨hke, fun hsk => ?_⟩
      cases hξ : x fa
      · rw [hξ] at xF
        have hz : Col g A r (fun _ => False) (fun q => x q && !y q) := ⟨by simp [hx.1], fun m p q hM => by
          by_cases e1 : m = i
          · subst e1
            obtain ⟨rfl, rfl⟩ := hI.ends hM
            simp [yI, ← yII]
          by_cases e2 : m = k
          · subst e2
            obtain ⟨rfl, rfl⟩ := hK.ends hM
            simp [hκ, ← yK]
          by_cases e3 : m = f
          · subst e3
            obtain ⟨rfl, rfl⟩ := hF.ends hM
            simp [hξ, ← xF]
          obtain ⟨g1, g2⟩ := gen m p q hM e1 e2 e3
          simp [g1, g2]⟩
        have := hz.zero hE.2.2
        simpa [yE.1] using this
      · exfalso
        rw [hξ] at xF
        have hz : Col g A r (· = f) (fun q => x q && !y q) := ⟨by simp [hx.1], fun m p q hM => by
          by_cases e1 : m = i
          · subst e1
            obtain ⟨rfl, rfl⟩ := hI.ends hM
            simp [yI, ← yII, Ne.symm hfi]
          by_cases e2 : m = k
          · subst e2
            obtain ⟨rfl, rfl⟩ := hK.ends hM
            simp [hκ, ← yK, hkf]
          by_cases e3 : m = f
          · subst e3
            obtain ⟨rfl, rfl⟩ := hF.ends hM
            simp only [hξ, ← xF, Bool.true_and, iff_true]
            intro e; exact yF (by revert e; cases y p <;> cases y q <;> simp)
          obtain ⟨g1, g2⟩ := gen m p q hM e1 e2 e3
          simp [g1, g2, e3]⟩
        have := hz.uniq hy hI.2.2
        rw [yI] at this
        simp at this
/-- The root's block keeps its twigs where a cut goes beside it. -/
theorem Nb.keep {e i : Nat} (he : Nb g A S r e) (hsi : S i = true) (hci : cn g A r i) (hni : ¬ Nb g A S r i) : Nb g (butK A i) (butK S i) r e := by
  obtain ⟨ea, eb, hE⟩ := he.2.1
  have hei : e ≠ i := by rintro rfl; exact hni he
  obtain ⟨ia, ib, hI⟩ := hci
  have hr : Rch g (butK A i) r ea := by
    rcases cut_alt hI with h | h
    · have := (he.2.2.2 i _ hsi ⟨ia, ib, hI⟩ h ea eb hE).1
      simpa using this
    · exact h ea hE.2.2
  have hE' : Tw g (butK A i) r e ea eb := ⟨hE.1, butK_ne.2 ⟨hE.2.1, hei⟩, hr⟩
  have cnA : ∀ {k}, cn g (butK A i) r k → cn g A r k ∧ k ≠ i := fun {k} hk => by
    obtain ⟨p, q, hT⟩ := hk
    exact ⟨⟨p, q, hT.1, (butK_ne.1 hT.2.1).1, hT.2.2.mono fun j hj => (butK_ne.1 hj).1⟩, (butK_ne.1 hT.2.1).2⟩
  have nb : ∀ x, ¬ Col g (butK A i) r (· = e) x := fun x hx => by
    obtain ⟨x', hq, h | h⟩ := col_back ⟨ea, eb, hE'⟩ hx
    · exact he.2.2.1 x' h
    · exact (two_out he hE hsi ⟨ia, ib, hI⟩ hni ⟨ea, eb, hE⟩ hei h).1 rfl
  refine ⟨butK_ne.2 ⟨he.1, hei⟩, ⟨ea, eb, hE'⟩, nb, fun k x hsk hck hx a b hT => ?_⟩
  obtain ⟨rfl, rfl⟩ := hE'.ends hT
  have hke : k ≠ e := by rintro rfl; exact nb x hx
  have hsk' := (butK_ne.1 hsk).1
  have hxa : x a = false := by
    obtain ⟨x', hq, h | h⟩ := col_back hck hx
    · rw [← hq a hr]
      exact (he.2.2.2 k x' hsk' (cnA hck).1 h a b hE).1
    · rw [← hq a hr]
      exact (two_out he hE hsi ⟨ia, ib, hI⟩ hni (cnA hck).1 (cnA hck).2 h).2 hsk'
  have hab : x a = x b := Classical.not_not.1 fun q => hke ((hx.2 e a b hE').1 q).symm
  exact ⟨hxa, by rw [← hab]; exact hxa⟩
/-- Where a twig that counts is reached, one is reached by such as do not. -/
theorem adj {k : Nat} (hk : Rch g A r k) : Rch g (fun j => A j && !S j) r k ∨ ∃ f a b, S f = true ∧ A f = true ∧ (g[f]? = some (a, b) ∨ g[f]? = some (b, a)) ∧ Rch g (fun j => A j && !S j) r a := by
  induction hk with
  | refl => exact .inl .refl
  | @fwd i p q hg hA _ ih =>
    rcases ih with ih | ih
    · cases hs : S i
      · exact .inl (.fwd hg (by simp [hA, hs]) ih)
      · exact .inr ⟨i, p, q, hs, hA, .inl hg, ih⟩
    · exact .inr ih
  | @bwd i p q hg hA _ ih =>
    rcases ih with ih | ih
    · cases hs : S i
      · exact .inl (.bwd hg (by simp [hA, hs]) ih)
      · exact .inr ⟨i, q, p, hs, hA, .inr hg, ih⟩
    · exact .inr ih
theorem butK_comm (A : Nat → Bool) (i f : Nat) : butK (butK A i) f = butK (butK A f) i := by
  funext j; simp only [butK]; rw [Bool.and_assoc, Bool.and_assoc, Bool.and_comm (j != i)]
end

/-- The fused value is what play makes it: no cut leaves it, and each less value is left by a cut. -/
theorem fV_play {g : GTw} : ∀ (n : Nat) {A S : Nat → Bool} {r : Nat}, sz g A S r ≤ n →
    (∀ i, S i = true → cn g A r i → fV g (butK A i) (butK S i) r ≠ fV g A S r) ∧ ∀ v, v < fV g A S r → ∃ i, S i = true ∧ cn g A r i ∧ fV g (butK A i) (butK S i) r = v := by
  intro n
  induction n with
  | zero =>
    intro A S r h0
    have h00 : sz g A S r = 0 := by omega
    refine ⟨fun i hs hc => ?_, fun v hv => ?_⟩
    · have := cnt_zero h00 i (cn_lt hc)
      rw [hs, hgB_iff.2 hc] at this; cases this
    · rw [fV_zero h00] at hv; omega
  | succ n ih =>
    intro A S r hn
    by_cases hz : sz g A S r = 0
    · refine ⟨fun i hs hc => ?_, fun v hv => ?_⟩
      · have := cnt_zero hz i (cn_lt hc)
        rw [hs, hgB_iff.2 hc] at this; cases this
      · rw [fV_zero hz] at hv; omega
    by_cases hNe : ∃ e, Nb g A S r e
    · obtain ⟨e0, he0⟩ := hNe
      have hC : ∀ j, NbB g A S r j = true → Nb g A S r j := fun j hj => NbB_iff.1 hj
      have hlt : sz g A (fun j => S j && !NbB g A S r j) r < sz g A S r := cnt_lt (e := e0) (fun k _ hk => by
        simp only [Bool.and_eq_true] at hk ⊢
        exact ⟨hk.1.1, hk.2⟩) (cn_lt he0.2.1) (by simp [NbB_iff.2 he0]) (by rw [he0.1, hgB_iff.2 he0.2.1]; rfl)
      obtain ⟨ih1, ih2⟩ := ih (A := A) (S := fun j => S j && !NbB g A S r j) (r := r) (by omega)
      have hblk := fV_block (C := NbB g A S r) hC
      have hopt : ∀ i, S i = true → cn g A r i → ¬ Nb g A S r i → fV g (butK A i) (butK S i) r = (pr g.length (NbB g A S r)).toNat ^^^ fV g (butK A i) (butK (fun j => S j && !NbB g A S r j) i) r := fun i hs hc hni => by
        rw [fV_block (C := NbB g A S r) (fun j hj => (hC j hj).keep hs hc hni)]
        have : (fun j => butK S i j && !NbB g A S r j) = butK (fun j => S j && !NbB g A S r j) i := by
          funext j
          simp only [butK]
          rw [Bool.and_assoc, Bool.and_assoc, Bool.and_comm (j != i)]
        rw [this]
      refine ⟨fun i hs hc => ?_, fun v hv => ?_⟩
      · by_cases hni : Nb g A S r i
        · rw [fV_eq g (butK A i) (butK S i) r, fV_eq g A S r]
          have p2 : (pr g.length fun k => butK S i k && hgB g (butK A i) r k) = !(pr g.length fun k => S k && hgB g A r k) := by
            rw [← pr_but (e := i) (cn_lt hni.2.1) (by rw [hni.1, hgB_iff.2 hni.2.1]; rfl)]
            refine pr_congr fun k _ => ?_
            rw [hni.hg]
            by_cases hk : k = i
            · subst hk; simp [butK]
            · rw [butK_at hk]; simp [hk]
          rw [p2]
          cases (pr g.length fun k => S k && hgB g A r k) <;> simp <;> omega
        · rw [hopt i hs hc hni, hblk]
          have := ih1 i (by simp only [hs, Bool.true_and, Bool.not_eq_true']; cases hq : NbB g A S r i; rfl; exact absurd (hC i hq) hni) hc
          intro e
          have e := congrArg (fun z => (pr g.length (NbB g A S r)).toNat ^^^ z) e
          simp only [← Nat.xor_assoc, Nat.xor_self, Nat.zero_xor] at e
          exact this e
      · have key : ∀ w, w < fV g A (fun j => S j && !NbB g A S r j) r → ∃ i, S i = true ∧ cn g A r i ∧ fV g (butK A i) (butK S i) r = (pr g.length (NbB g A S r)).toNat ^^^ w := fun w hw => by
          obtain ⟨i, h1, h2, h3⟩ := ih2 w hw
          simp only [Bool.and_eq_true, Bool.not_eq_true'] at h1
          have hni : ¬ Nb g A S r i := fun h => by rw [NbB_iff.2 h] at h1; exact absurd h1.2 (by simp)
          exact ⟨i, h1.1, h2, by rw [hopt i h1.1 h2 hni, h3]⟩
        rw [hblk] at hv
        cases hp : pr g.length (NbB g A S r)
        · rw [hp] at hv key
          have hv : v < fV g A (fun j => S j && !NbB g A S r j) r := by simpa using hv
          obtain ⟨i, h1, h2, h3⟩ := key v hv
          exact ⟨i, h1, h2, by rw [h3]; simp⟩
        · rw [hp] at hv key
          rw [show true.toNat = 1 from rfl] at hv key
          rcases nim_lt _ _ _ _ (Nat.le_refl _) hv with h | h
          · obtain ⟨e, he, hval⟩ := block_cut _ (Nat.le_refl _) hp
            refine ⟨e, he.1, he.2.1, ?_⟩
            rw [hval]
            have : v ^^^ fV g A (fun j => S j && !NbB g A S r j) r = 0 := by omega
            have e2 := congrArg (fun z => z ^^^ fV g A (fun j => S j && !NbB g A S r j) r) this
            simp only [Nat.xor_assoc, Nat.xor_self, Nat.xor_zero, Nat.zero_xor] at e2
            exact e2.symm
          · obtain ⟨i, h1, h2, h3⟩ := key _ h
            exact ⟨i, h1, h2, by rw [h3, Nat.xor_comm v 1, ← Nat.xor_assoc, Nat.xor_self, Nat.zero_xor]⟩
    · -- no twig of a block at the root: a bridge at the root
      have hnn : ∀ e, ¬ Nb g A S r e := fun e he => hNe ⟨e, he⟩
      obtain ⟨j, hjs, p, q, hJ⟩ : ∃ j, S j = true ∧ cn g A r j := by
        refine Classical.byContradiction fun hno => hz ?_
        have h1 : ∀ j, (S j && hgB g A r j) = false := fun j => by
          cases hq : (S j && hgB g A r j)
          · rfl
          · simp only [Bool.and_eq_true] at hq
            exact absurd ⟨j, hq.1, hgB_iff.1 hq.2⟩ hno
        have h2 : sz g A S r = cnt g.length (fun _ => false) := cnt_congr fun j _ => h1 j
        rw [h2]
        have : ∀ n, cnt n (fun _ => false) = 0 := fun n => by induction n with
          | zero => rfl
          | succ n ih => simp [cnt, ih]
        exact this _
      obtain ⟨f, a, b, hsf, hAf, hgf, hway⟩ : ∃ f a b, S f = true ∧ A f = true ∧ (g[f]? = some (a, b) ∨ g[f]? = some (b, a)) ∧ Rch g (fun j => A j && !S j) r a := by
        rcases adj (S := S) hJ.2.2 with h | h
        · exact ⟨j, p, q, hjs, hJ.2.1, .inl hJ.1, h⟩
        · exact h
      have hRa : Rch g A r a := hway.mono fun j hj => by simp only [Bool.and_eq_true] at hj; exact hj.1
      have hcf : cn g A r f := by
        rcases hgf with h | h
        · exact ⟨a, b, h, hAf, hRa⟩
        · exact ⟨b, a, h, hAf, .bwd h hAf hRa⟩
      have xa : ∀ i x, S i = true → Col g A r (· = i) x → x a = false := fun i x hi hx => by
        rw [hx.way (B := fun j => A j && !S j) (fun j hj => ?_) .refl hway, hx.1]
        simp only [Bool.and_eq_true, Bool.not_eq_true'] at hj
        refine ⟨hj.1, ?_⟩
        rintro rfl
        rw [hi] at hj; exact absurd hj.2 (by simp)
      obtain ⟨x, hx⟩ : ∃ x, Col g A r (· = f) x := by
        refine Classical.byContradiction fun hno => hnn f ⟨hsf, hcf, fun x hx => hno ⟨x, hx⟩, fun i x hi hc hx a' b' hT => ?_⟩
        have hif : f ≠ i := by rintro rfl; exact hno ⟨x, hx⟩
        have h1 := xa i x hi hx
        have h2 : x a' = x b' := Classical.not_not.1 fun q => hif ((hx.2 f a' b' hT).1 q)
        rcases hgf with h | h <;> (have := h.symm.trans hT.1; cases this)
        · exact ⟨h1, by rw [← h2]; exact h1⟩
        · exact ⟨by rw [h2]; exact h1, h1⟩
      have hbr : ¬ Rch g (butK A f) a b := fun hr => by
        have hab : x b = x a := hx.way (B := butK A f) (fun j hj => ⟨(butK_ne.1 hj).1, (butK_ne.1 hj).2⟩) hRa hr
        rcases hgf with h | h
        · exact (hx.2 f a b ⟨h, hAf, hRa⟩).2 rfl hab.symm
        · exact (hx.2 f b a ⟨h, hAf, .bwd h hAf hRa⟩).2 rfl hab
      have hway' : ∀ B T : Nat → Bool, (∀ j, A j = true → S j = false → B j = true ∧ T j = false) → Rch g (fun j => B j && !T j && decide (j ≠ f)) r a := fun B T hBT => hway.mono fun j hj => by
        simp only [Bool.and_eq_true, Bool.not_eq_true', decide_eq_true_eq] at hj ⊢
        obtain ⟨h1, h2⟩ := hBT j hj.1 hj.2
        refine ⟨⟨h1, h2⟩, ?_⟩
        rintro rfl
        rw [hsf] at hj; exact absurd hj.2 (by simp)
      have P : Peel g A S r f a b := ⟨hgf, hAf, hway' A S fun j h1 h2 => ⟨h1, h2⟩, hbr⟩
      have hpe := fV_peel _ (Nat.le_refl _) P
      rw [if_pos hsf] at hpe
      have l1 := P.szr_lt hsf
      have l2 := P.szb_lt hsf
      obtain ⟨n1, n2⟩ := ih (A := butK A f) (S := butK S f) (r := r) (by omega)
      obtain ⟨f1, f2⟩ := ih (A := butK A f) (S := butK S f) (r := b) (by omega)
      -- a cut elsewhere
      have Pi : ∀ i, i ≠ f → S i = true → Peel g (butK A i) (butK S i) r f a b := fun i hi hsi => ⟨hgf, butK_ne.2 ⟨hAf, Ne.symm hi⟩, hway' (butK A i) (butK S i) fun j h1 h2 => by
          have hji : j ≠ i := by rintro rfl; rw [hsi] at h2; cases h2
          exact ⟨butK_ne.2 ⟨h1, hji⟩, by rw [butK_at hji]; exact h2⟩, fun hr => hbr (hr.mono fun j hj => by
          simp only [butK_ne] at hj ⊢
          exact ⟨hj.1.1, hj.2⟩)⟩
      have near : ∀ i, S i = true → cn g (butK A f) r i → fV g (butK A i) (butK S i) r = fV g (butK (butK A f) i) (butK (butK S f) i) r ^^^ (1 + fV g (butK A f) (butK S f) b) := fun i hsi hci => by
        have hif := (P.cnr hci).2
        have hp := fV_peel _ (Nat.le_refl _) (Pi i hif hsi)
        rw [if_pos (butK_ne.2 ⟨hsf, Ne.symm hif⟩)] at hp
        rw [hp, butK_comm A i f, butK_comm S i f]
        congr 2
        refine fV_local (fun j p q => ?_) (fun j hj => ?_)
        · constructor
          · exact fun hT => ⟨hT.1, (butK_ne.1 hT.2.1).1, hT.2.2.mono fun j hj => (butK_ne.1 hj).1⟩
          · rintro ⟨h1, h2, h3⟩
            have far : ∀ {k}, Rch g (butK A f) b k → Rch g (butK (butK A f) i) b k := fun {k} hk => by
              induction hk with
              | refl => exact .refl
              | @fwd m u v hg hm hr ih =>
                have hmi : m ≠ i := by rintro rfl; exact P.not_both hci ⟨u, v, hg, hm, hr⟩
                exact .fwd hg (butK_ne.2 ⟨hm, hmi⟩) ih
              | @bwd m u v hg hm hr ih =>
                have hmi : m ≠ i := by rintro rfl; exact P.not_both hci ⟨u, v, hg, hm, .bwd hg hm hr⟩
                exact .bwd hg (butK_ne.2 ⟨hm, hmi⟩) ih
            have hji : j ≠ i := by rintro rfl; exact P.not_both hci ⟨p, q, h1, h2, h3⟩
            exact ⟨h1, butK_ne.2 ⟨h2, hji⟩, far h3⟩
        · obtain ⟨p, q, hT⟩ := hj
          exact butK_at (butK_ne.1 hT.2.1).2
      have far : ∀ i, S i = true → cn g (butK A f) b i → fV g (butK A i) (butK S i) r = fV g (butK A f) (butK S f) r ^^^ (1 + fV g (butK (butK A f) i) (butK (butK S f) i) b) := fun i hsi hci => by
        have hif := (P.cnb hci).2
        have hp := fV_peel _ (Nat.le_refl _) (Pi i hif hsi)
        rw [if_pos (butK_ne.2 ⟨hsf, Ne.symm hif⟩)] at hp
        rw [hp, butK_comm A i f, butK_comm S i f]
        congr 1
        refine fV_local (fun j p q => ?_) (fun j hj => ?_)
        · constructor
          · exact fun hT => ⟨hT.1, (butK_ne.1 hT.2.1).1, hT.2.2.mono fun j hj => (butK_ne.1 hj).1⟩
          · rintro ⟨h1, h2, h3⟩
            have far : ∀ {k}, Rch g (butK A f) r k → Rch g (butK (butK A f) i) r k := fun {k} hk => by
              induction hk with
              | refl => exact .refl
              | @fwd m u v hg hm hr ih =>
                have hmi : m ≠ i := by rintro rfl; exact P.not_both ⟨u, v, hg, hm, hr⟩ hci
                exact .fwd hg (butK_ne.2 ⟨hm, hmi⟩) ih
              | @bwd m u v hg hm hr ih =>
                have hmi : m ≠ i := by rintro rfl; exact P.not_both ⟨u, v, hg, hm, .bwd hg hm hr⟩ hci
                exact .bwd hg (butK_ne.2 ⟨hm, hmi⟩) ih
            have hji : j ≠ i := by rintro rfl; exact P.not_both ⟨p, q, h1, h2, h3⟩ hci
            exact ⟨h1, butK_ne.2 ⟨h2, hji⟩, far h3⟩
        · obtain ⟨p, q, hT⟩ := hj
          exact butK_at (butK_ne.1 hT.2.1).2
      rw [hpe]
      refine ⟨fun i hs hc => ?_, fun v hv => ?_⟩
      · rcases (P.cn_iff i).1 hc with rfl | hci | hci
        · intro e
          have e := congrArg (fun z => fV g (butK A i) (butK S i) r ^^^ z) e
          simp only [← Nat.xor_assoc, Nat.xor_self, Nat.zero_xor] at e
          omega
        · rw [near i hs hci]
          have := n1 i (butK_ne.2 ⟨hs, (P.cnr hci).2⟩) hci
          intro e
          have e := congrArg (fun z => z ^^^ (1 + fV g (butK A f) (butK S f) b)) e
          simp only [Nat.xor_assoc, Nat.xor_self, Nat.xor_zero] at e
          exact this e
        · rw [far i hs hci]
          have := f1 i (butK_ne.2 ⟨hs, (P.cnb hci).2⟩) hci
          intro e
          have e := congrArg (fun z => fV g (butK A f) (butK S f) r ^^^ z) e
          simp only [← Nat.xor_assoc, Nat.xor_self, Nat.zero_xor] at e
          exact this (by omega)
      · rcases nim_lt _ _ _ _ (Nat.le_refl _) hv with h | h
        · obtain ⟨i, h1, h2, h3⟩ := n2 _ h
          have hs := (butK_ne.1 h1).1
          exact ⟨i, hs, (P.cnr h2).1, by rw [near i hs h2, h3, Nat.xor_assoc, Nat.xor_self, Nat.xor_zero]⟩
        · cases hw : v ^^^ fV g (butK A f) (butK S f) r with
          | zero =>
            refine ⟨f, hsf, hcf, ?_⟩
            have e2 := congrArg (fun z => z ^^^ fV g (butK A f) (butK S f) r) hw
            simp only [Nat.xor_assoc, Nat.xor_self, Nat.xor_zero, Nat.zero_xor] at e2
            exact e2.symm
          | succ w =>
            obtain ⟨i, h1, h2, h3⟩ := f2 w (by omega)
            have hs := (butK_ne.1 h1).1
            refine ⟨i, hs, (P.cnb h2).1, ?_⟩
            rw [far i hs h2, h3, Nat.add_comm 1 w, ← hw, Nat.xor_comm v, ← Nat.xor_assoc, Nat.xor_self, Nat.zero_xor]

end Go.Proofs.Ytobdpkkmkbafbaa
/-
  Green pictures: bounds of the value, pictures renamed, pictures side by side (plain law).
-/
namespace Go.Proofs.Ytobdpkkmkbafbaa
set_option linter.unusedSimpArgs false
set_option linter.unusedVariables false
open Classical

theorem sz_cut {g : GTw} {A S : Nat → Bool} {r i : Nat} (hs : S i = true) (hc : cn g A r i) : sz g (butK A i) (butK S i) r < sz g A S r := by
  refine cnt_lt (e := i) (fun k _ hk => ?_) (cn_lt hc) (by simp [butK]) (by rw [hs, hgB_iff.2 hc]; rfl)
  simp only [Bool.and_eq_true, hgB_iff] at hk ⊢
  obtain ⟨h1, p, q, hT⟩ := hk
  exact ⟨(butK_ne.1 h1).1, p, q, hT.1, (butK_ne.1 hT.2.1).1, hT.2.2.mono fun j hj => (butK_ne.1 hj).1⟩
/-- The value is at most the number of twigs. -/
theorem fV_le {g : GTw} : ∀ (n : Nat) {A S : Nat → Bool} {r : Nat}, sz g A S r ≤ n → fV g A S r ≤ sz g A S r := by
  intro n
  induction n with
  | zero => intro A S r h; rw [fV_zero (by omega)]; omega
  | succ n ih =>
    intro A S r h
    cases hv : fV g A S r with
    | zero => omega
    | succ v =>
      obtain ⟨i, h1, h2, h3⟩ := (fV_play _ (Nat.le_refl _) (g := g) (A := A) (S := S) (r := r)).2 v (by omega)
      have := sz_cut h1 h2
      have := ih (A := butK A i) (S := butK S i) (r := r) (by omega)
      omega
theorem cnt_len (n : Nat) (p : Nat → Bool) : cnt n p ≤ n := by
  induction n with
  | zero => exact Nat.le_refl _
  | succ n ih => simp only [cnt]; cases p n <;> simp <;> omega
theorem fV_len (g : GTw) (A S : Nat → Bool) (r : Nat) : fV g A S r ≤ g.length := Nat.le_trans (fV_le _ (Nat.le_refl _)) (cnt_len _ _)
/-- The value of all twigs of a set. -/
noncomputable def vS (g : GTw) (A : Nat → Bool) (r : Nat) : Nat := fV g A A r
theorem vS_ne {g : GTw} {A : Nat → Bool} {r i : Nat} (hc : cn g A r i) : vS g (butK A i) r ≠ vS g A r := by
  obtain ⟨a, b, hT⟩ := hc
  exact (fV_play _ (Nat.le_refl _)).1 i hT.2.1 ⟨a, b, hT⟩
theorem vS_lt {g : GTw} {A : Nat → Bool} {r v : Nat} (h : v < vS g A r) : ∃ i, cn g A r i ∧ vS g (butK A i) r = v := by
  obtain ⟨i, _, h2, h3⟩ := (fV_play _ (Nat.le_refl _)).2 v h
  exact ⟨i, h2, h3⟩
/-- The least number that is no option's value. -/
theorem vS_mex {g : GTw} {A : Nat → Bool} {r m : Nat} (h1 : ∀ i, cn g A r i → vS g (butK A i) r ≠ m) (h2 : ∀ v, v < m → ∃ i, cn g A r i ∧ vS g (butK A i) r = v) : vS g A r = m := by
  rcases Nat.lt_trichotomy (vS g A r) m with h | h | h
  · obtain ⟨i, hc, hv⟩ := h2 _ h
    exact absurd hv (vS_ne hc)
  · exact h
  · obtain ⟨i, hc, hv⟩ := vS_lt h
    exact absurd hv (h1 i hc)
theorem vS_local {g : GTw} {A A' : Nat → Bool} {r : Nat} (hT : ∀ j a b, Tw g A r j a b ↔ Tw g A' r j a b) : vS g A r = vS g A' r :=
  fV_local hT fun j ⟨a, b, h⟩ => by rw [h.2.1, ((hT j a b).1 h).2.1]
/-- The grounded twigs of a set are all that counts. -/
theorem vS_grd {g : GTw} {A B : Nat → Bool} (h : ∀ j, j < g.length → (B j = true ↔ Grd g A j)) : vS g A 0 = vS g B 0 := by
  refine vS_local fun j a b => ?_
  have mono : ∀ {k}, Rch g B 0 k → Rch g A 0 k := fun {k} hk => by
    induction hk with
    | refl => exact .refl
    | fwd hg hb _ ih =>
      obtain ⟨_, _, _, hA, _⟩ := (h _ (List.getElem?_eq_some_iff.1 hg).1).1 hb
      exact .fwd hg hA ih
    | bwd hg hb _ ih =>
      obtain ⟨_, _, _, hA, _⟩ := (h _ (List.getElem?_eq_some_iff.1 hg).1).1 hb
      exact .bwd hg hA ih
  have up : ∀ {k}, Rch g A 0 k → Rch g B 0 k := fun {k} hk => by
    induction hk with
    | refl => exact .refl
    | fwd hg hA hr ih => exact .fwd hg ((h _ (List.getElem?_eq_some_iff.1 hg).1).2 ⟨_, _, hg, hA, hr⟩) ih
    | bwd hg hA hr ih => exact .bwd hg ((h _ (List.getElem?_eq_some_iff.1 hg).1).2 ⟨_, _, hg, hA, .bwd hg hA hr⟩) ih
  constructor
  · rintro ⟨hg, hA, hr⟩
    exact ⟨hg, (h j (List.getElem?_eq_some_iff.1 hg).1).2 ⟨a, b, hg, hA, hr⟩, up hr⟩
  · rintro ⟨hg, hB, hr⟩
    obtain ⟨_, _, _, hA, _⟩ := (h j (List.getElem?_eq_some_iff.1 hg).1).1 hB
    exact ⟨hg, hA, mono hr⟩

/-! ### renamed -/
/-- 'g2' has the twigs of 'g' that hang on the root, under other numbers, with knots renamed. -/
structure Iso (g g2 : GTw) (A A2 : Nat → Bool) (φ ψ : Nat → Nat) (r : Nat) : Prop where
  inj : ∀ i j, φ i = φ j → i = j
  injk : ∀ a b, ψ a = ψ b → a = b
  tw : ∀ j a b, g2[j]? = some (a, b) → ∃ a' b', g[φ j]? = some (a', b') ∧ a = ψ a' ∧ b = ψ b'
  keep : ∀ j, j < g2.length → A2 j = A (φ j)
  onto : ∀ i, cn g A r i → ∃ j, j < g2.length ∧ φ j = i
section
variable {g g2 : GTw} {A A2 : Nat → Bool} {φ ψ : Nat → Nat} {r : Nat}
theorem Iso.up (I : Iso g g2 A A2 φ ψ r) {k : Nat} (hk : Rch g A r k) : Rch g2 A2 (ψ r) (ψ k) := by
  have one : ∀ {i a b}, Tw g A r i a b → ∃ j, g2[j]? = some (ψ a, ψ b) ∧ A2 j = true := fun {i a b} hT => by
    obtain ⟨j, hj, rfl⟩ := I.onto i ⟨a, b, hT⟩
    obtain ⟨⟨p, q⟩, hpq⟩ : ∃ t, g2[j] = t := ⟨_, rfl⟩
    have hg2 : g2[j]? = some (p, q) := by rw [List.getElem?_eq_getElem hj, hpq]
    obtain ⟨a', b', h1, h2, h3⟩ := I.tw j p q hg2
    have := h1.symm.trans hT.1
    cases this
    exact ⟨j, by rw [hg2, h2, h3], by rw [I.keep j hj]; exact hT.2.1⟩
  induction hk with
  | refl => exact .refl
  | @fwd i a b hg hA hr ih =>
    obtain ⟨j, h1, h2⟩ := one ⟨hg, hA, hr⟩
    exact .fwd h1 h2 ih
  | @bwd i a b hg hA hr ih =>
    obtain ⟨j, h1, h2⟩ := one ⟨hg, hA, .bwd hg hA hr⟩
    exact .bwd h1 h2 ih
theorem Iso.down (I : Iso g g2 A A2 φ ψ r) {k : Nat} (hk : Rch g2 A2 (ψ r) k) : ∃ k', k = ψ k' ∧ Rch g A r k' := by
  induction hk with
  | refl => exact ⟨r, rfl, .refl⟩
  | @fwd i a b hg hA hr ih =>
    obtain ⟨k', hk, hr'⟩ := ih
    obtain ⟨a', b', h1, h2, h3⟩ := I.tw i a b hg
    have : a' = k' := I.injk _ _ (by rw [← h2, hk])
    subst this
    exact ⟨b', h3, .fwd h1 (by rw [← I.keep i (List.getElem?_eq_some_iff.1 hg).1]; exact hA) hr'⟩
  | @bwd i a b hg hA hr ih =>
    obtain ⟨k', hk, hr'⟩ := ih
    obtain ⟨a', b', h1, h2, h3⟩ := I.tw i a b hg
    have : b' = k' := I.injk _ _ (by rw [← h3, hk])
    subst this
    exact ⟨a', h2, .bwd h1 (by rw [← I.keep i (List.getElem?_eq_some_iff.1 hg).1]; exact hA) hr'⟩
theorem Iso.cnu (I : Iso g g2 A A2 φ ψ r) {i : Nat} (hc : cn g A r i) : ∃ j, φ j = i ∧ cn g2 A2 (ψ r) j := by
  obtain ⟨a, b, hT⟩ := hc
  obtain ⟨j, hj, rfl⟩ := I.onto i ⟨a, b, hT⟩
  obtain ⟨⟨p, q⟩, hpq⟩ : ∃ t, g2[j] = t := ⟨_, rfl⟩
  have hg2 : g2[j]? = some (p, q) := by rw [List.getElem?_eq_getElem hj, hpq]
  obtain ⟨a', b', h1, h2, h3⟩ := I.tw j p q hg2
  have := h1.symm.trans hT.1
  cases this
  exact ⟨j, rfl, p, q, hg2, by rw [I.keep j hj]; exact hT.2.1, by rw [h2]; exact I.up hT.2.2⟩
theorem Iso.cnd (I : Iso g g2 A A2 φ ψ r) {j : Nat} (hc : cn g2 A2 (ψ r) j) : cn g A r (φ j) := by
  obtain ⟨p, q, hT⟩ := hc
  obtain ⟨a', b', h1, h2, h3⟩ := I.tw j p q hT.1
  obtain ⟨k', hk, hr⟩ := I.down hT.2.2
  have : a' = k' := I.injk _ _ (by rw [← h2, hk])
  subst this
  exact ⟨a', b', h1, by rw [← I.keep j (List.getElem?_eq_some_iff.1 hT.1).1]; exact hT.2.1, hr⟩
theorem Iso.cut (I : Iso g g2 A A2 φ ψ r) (j : Nat) : Iso g g2 (butK A (φ j)) (butK A2 j) φ ψ r := by
  refine ⟨I.inj, I.injk, I.tw, fun i hi => ?_, fun i hc => ?_⟩
  · simp only [butK, I.keep i hi]
    congr 1
    by_cases e : i = j
    · subst e; simp
    · have : φ i ≠ φ j := fun h => e (I.inj _ _ h)
      have e1 : (i != j) = true := by simp [e]
      have e2 : (φ i != φ j) = true := by simp [this]
      rw [e1, e2]
  · obtain ⟨p, q, hT⟩ := hc
    exact I.onto i ⟨p, q, hT.1, (butK_ne.1 hT.2.1).1, hT.2.2.mono fun j hj => (butK_ne.1 hj).1⟩
end
theorem vS_iso {g g2 : GTw} {φ ψ : Nat → Nat} {r : Nat} : ∀ (n : Nat) {A A2 : Nat → Bool}, sz g A A r ≤ n → Iso g g2 A A2 φ ψ r → vS g2 A2 (ψ r) = vS g A r := by
  intro n
  induction n with
  | zero =>
    intro A A2 h0 I
    refine vS_mex (fun j hc => ?_) (fun v hv => ?_)
    · have := I.cnd hc
      obtain ⟨a, b, hT⟩ := this
      have := sz_cut hT.2.1 ⟨a, b, hT⟩
      omega
    · unfold vS at hv; rw [fV_zero (by omega)] at hv; omega
  | succ n ih =>
    intro A A2 h0 I
    refine vS_mex (fun j hc => ?_) (fun v hv => ?_)
    · have hc' := I.cnd hc
      obtain ⟨a, b, hT⟩ := hc'
      have := sz_cut hT.2.1 ⟨a, b, hT⟩
      rw [ih (by omega) (I.cut j)]
      exact vS_ne ⟨a, b, hT⟩
    · obtain ⟨i, hc, hval⟩ := vS_lt hv
      obtain ⟨j, rfl, hc2⟩ := I.cnu hc
      obtain ⟨a, b, hT⟩ := hc
      have := sz_cut hT.2.1 ⟨a, b, hT⟩
      exact ⟨j, hc2, by rw [ih (by omega) (I.cut j)]; exact hval⟩

/-! ### side by side -/
/-- Both parts meet in the root alone; 'P': the knots of the first. -/
structure Apart (g : GTw) (A B : Nat → Bool) (r : Nat) (P : Nat → Prop) : Prop where
  dis : ∀ j, A j = true → B j = true → False
  pr : P r
  pa : ∀ j a b, g[j]? = some (a, b) → A j = true → P a ∧ P b
  pb : ∀ j a b, g[j]? = some (a, b) → B j = true → (a = r ∨ ¬ P a) ∧ (b = r ∨ ¬ P b)
def unK (A B : Nat → Bool) : Nat → Bool := fun j => A j || B j
section
variable {g : GTw} {A B : Nat → Bool} {r : Nat} {P : Nat → Prop}
theorem Apart.split (h : Apart g A B r P) {k : Nat} (hk : Rch g (unK A B) r k) : (P k ∧ Rch g A r k) ∨ ((k = r ∨ ¬ P k) ∧ Rch g B r k) := by
  have step : ∀ {i a b}, (g[i]? = some (a, b) ∨ g[i]? = some (b, a)) → unK A B i = true → (P a ∧ Rch g A r a) ∨ ((a = r ∨ ¬ P a) ∧ Rch g B r a) → (P b ∧ Rch g A r b) ∨ ((b = r ∨ ¬ P b) ∧ Rch g B r b) := fun {i a b} hg hAB hr => by
    have pA : A i = true → P a ∧ P b := fun hA => by
      rcases hg with hg | hg
      · exact h.pa i a b hg hA
      · exact (h.pa i b a hg hA).symm
    have pB : B i = true → (a = r ∨ ¬ P a) ∧ (b = r ∨ ¬ P b) := fun hB => by
      rcases hg with hg | hg
      · exact h.pb i a b hg hB
      · exact (h.pb i b a hg hB).symm
    have sA : A i = true → Rch g A r a → Rch g A r b := fun hA hr => by
      rcases hg with hg | hg
      · exact .fwd hg hA hr
      · exact .bwd hg hA hr
    have sB : B i = true → Rch g B r a → Rch g B r b := fun hA hr => by
      rcases hg with hg | hg
      · exact .fwd hg hA hr
      · exact .bwd hg hA hr
    have hAB : A i = true ∨ B i = true := by simpa [unK] using hAB
    rcases hAB with hA | hB
    · left
      refine ⟨(pA hA).2, sA hA ?_⟩
      rcases hr with hr | ⟨hr | hr, _⟩
      · exact hr.2
      · rw [hr]; exact .refl
      · exact absurd (pA hA).1 hr
    · right
      refine ⟨(pB hB).2, sB hB ?_⟩
      rcases hr with hr | hr
      · rcases (pB hB).1 with e | e
        · rw [e]; exact .refl
        · exact absurd hr.1 e
      · exact hr.2
  induction hk with
  | refl => exact .inl ⟨h.pr, .refl⟩
  | fwd hg hA _ ih => exact step (.inl hg) hA ih
  | bwd hg hA _ ih => exact step (.inr hg) hA ih
theorem Apart.cn_iff (h : Apart g A B r P) (j : Nat) : cn g (unK A B) r j ↔ cn g A r j ∨ cn g B r j := by
  constructor
  · rintro ⟨a, b, hg, hAB, hr⟩
    have hAB : A j = true ∨ B j = true := by simpa [unK] using hAB
    rcases hAB with hA | hB
    · left
      refine ⟨a, b, hg, hA, ?_⟩
      rcases h.split hr with hr | ⟨hr | hr, _⟩
      · exact hr.2
      · rw [hr]; exact .refl
      · exact absurd (h.pa j a b hg hA).1 hr
    · right
      refine ⟨a, b, hg, hB, ?_⟩
      rcases h.split hr with hr | hr
      · rcases (h.pb j a b hg hB).1 with e | e
        · rw [e]; exact .refl
        · exact absurd hr.1 e
      · exact hr.2
  · rintro (⟨a, b, hg, hA, hr⟩ | ⟨a, b, hg, hA, hr⟩)
    · exact ⟨a, b, hg, by simp [unK, hA], hr.mono fun j hj => by simp [unK, hj]⟩
    · exact ⟨a, b, hg, by simp [unK, hA], hr.mono fun j hj => by simp [unK, hj]⟩
theorem Apart.cutA (h : Apart g A B r P) (i : Nat) : Apart g (butK A i) B r P :=
  ⟨fun j h1 h2 => h.dis j (butK_ne.1 h1).1 h2, h.pr, fun j a b hg hA => h.pa j a b hg (butK_ne.1 hA).1, h.pb⟩
theorem Apart.cutB (h : Apart g A B r P) (i : Nat) : Apart g A (butK B i) r P :=
  ⟨fun j h1 h2 => h.dis j h1 (butK_ne.1 h2).1, h.pr, h.pa, fun j a b hg hA => h.pb j a b hg (butK_ne.1 hA).1⟩
theorem unK_butA {i : Nat} (h : B i = false) : butK (unK A B) i = unK (butK A i) B := by
  funext j
  by_cases e : j = i
  · subst e; simp [butK, unK, h]
  · have e1 : (j != i) = true := by simp [e]
    simp [butK, unK, e1]
theorem unK_butB {i : Nat} (h : A i = false) : butK (unK A B) i = unK A (butK B i) := by
  funext j
  by_cases e : j = i
  · subst e; simp [butK, unK, h]
  · have e1 : (j != i) = true := by simp [e]
    simp [butK, unK, e1]
end
/-- The value of two pictures side by side is the nim sum of theirs. -/
theorem vS_sum {g : GTw} {r : Nat} {P : Nat → Prop} : ∀ (n : Nat) {A B : Nat → Bool}, sz g (unK A B) (unK A B) r ≤ n → Apart g A B r P → vS g (unK A B) r = vS g A r ^^^ vS g B r := by
  intro n
  induction n with
  | zero =>
    intro A B h0 h
    have none : ∀ j, ¬ cn g (unK A B) r j := fun j hc => by
      obtain ⟨a, b, hT⟩ := hc
      have := sz_cut hT.2.1 ⟨a, b, hT⟩
      omega
    have zA : vS g A r = 0 := vS_mex (fun i hc => absurd ((h.cn_iff i).2 (.inl hc)) (none i)) (fun v hv => by omega)
    have zB : vS g B r = 0 := vS_mex (fun i hc => absurd ((h.cn_iff i).2 (.inr hc)) (none i)) (fun v hv => by omega)
    have zU : vS g (unK A B) r = 0 := vS_mex (fun i hc => absurd hc (none i)) (fun v hv => by omega)
    rw [zA, zB, zU]; rfl
  | succ n ih =>
    intro A B h0 h
    have oA : ∀ i, cn g A r i → vS g (butK (unK A B) i) r = vS g (butK A i) r ^^^ vS g B r := fun i hc => by
      obtain ⟨a, b, hT⟩ := hc
      have hBi : B i = false := by
        cases hB : B i
        · rfl
        · exact (h.dis i hT.2.1 hB).elim
      have hU := (h.cn_iff i).2 (.inl ⟨a, b, hT⟩)
      have hlt := sz_cut (S := unK A B) (by simp [unK, hT.2.1]) hU
      rw [unK_butA hBi] at hlt ⊢
      exact ih (by omega) (h.cutA i)
    have oB : ∀ i, cn g B r i → vS g (butK (unK A B) i) r = vS g A r ^^^ vS g (butK B i) r := fun i hc => by
      obtain ⟨a, b, hT⟩ := hc
      have hAi : A i = false := by
        cases hA : A i
        · rfl
        · exact (h.dis i hA hT.2.1).elim
      have hU := (h.cn_iff i).2 (.inr ⟨a, b, hT⟩)
      have hlt := sz_cut (S := unK A B) (by simp [unK, hT.2.1]) hU
      rw [unK_butB hAi] at hlt ⊢
      exact ih (by omega) (h.cutB i)
    refine vS_mex (fun i hc => ?_) (fun v hv => ?_)
    · rcases (h.cn_iff i).1 hc with hc | hc
      · rw [oA i hc]
        intro e
        have e := congrArg (fun z => z ^^^ vS g B r) e
        simp only [Nat.xor_assoc, Nat.xor_self, Nat.xor_zero] at e
        exact vS_ne hc e
      · rw [oB i hc]
        intro e
        have e := congrArg (fun z => vS g A r ^^^ z) e
        simp only [← Nat.xor_assoc, Nat.xor_self, Nat.zero_xor] at e
        exact vS_ne hc e
    · rcases nim_lt _ _ _ _ (Nat.le_refl _) hv with h1 | h1
      · obtain ⟨i, hc, hval⟩ := vS_lt h1
        exact ⟨i, (h.cn_iff i).2 (.inl hc), by rw [oA i hc, hval, Nat.xor_assoc, Nat.xor_self, Nat.xor_zero]⟩
      · obtain ⟨i, hc, hval⟩ := vS_lt h1
        exact ⟨i, (h.cn_iff i).2 (.inr hc), by rw [oB i hc, hval, Nat.xor_comm v, ← Nat.xor_assoc, Nat.xor_self, Nat.zero_xor]⟩

end Go.Proofs.Ytobdpkkmkbafbaa
/-
  Bytes as a text; calls that only add memory, told by the kit's own words.
-/
namespace Go.Proofs.Ytobdpkkmkbafbaa.K
set_option linter.unusedVariables false
set_option linter.unusedSimpArgs false
open Go Go.RowKit
set_option maxRecDepth 8000

theorem strOf_sound {P : Program} {o : Oper} {s : St} {src dst e : TypeId} {x : Operand} {own : Bool} {n : Int} {ns : List Int} (ho : o.op = .convert src dst x) (hs : P.underlying src = some (.slice e)) (he : P.underlying e = some (.int .u8))
    (hd : P.underlying dst = some .string) (hx : s.ev x = .sl own ((n :: ns).map (.int .u8))) : OpS P o s (s.put o.dst (.str (strOfNums (n :: ns)))) := by
  refine OpS.pure fun γ a w hr => ?_
  have e1 := hr.ev x
  rw [hx] at e1
  unfold execOp
  rw [ho]
  generalize hu : a.eval x = u at e1
  cases e1 with
  | sl _ _ A m c sz vals hn hc hsz h2 h1 h3 =>
    have hsz1 : sz = 1 := by have := hsz (.int .u8 n) (by simp); simpa [AV.cells] using this.symm
    subst hsz1
    obtain ⟨b, off, rfl⟩ := roCell_addr (h2 0 (.int .u8 n) 0 (.int .u8 n) rfl rfl)
    have hm : m = (n :: ns).length := by rw [hn]; simp
    subst hm
    have hrun := run_convert_bytes_arg (P := P) w src e hs he b off (n :: ns).length c (n :: ns) rfl (fun i hi => by
      have hi' : ((n :: ns).map (AV.int .u8))[i]? = some (.int .u8 ((n :: ns).getD i 0)) := by
        rw [List.getElem?_map, List.getElem?_eq_getElem hi, List.getD_eq_getElem?_getD, List.getElem?_eq_getElem hi]; rfl
      have k2 := roCell_cell hr.inv (h2 i _ 0 _ hi' rfl)
      have k3 := h3 i _ 0 _ hi' rfl
      simp only [Nat.mul_one, Nat.add_zero] at k2
      rw [k2]
      generalize vals i 0 = q at k3
      cases k3
      rfl) dst hd
    simp only [List.length_cons] at hrun
    exact ⟨_, by simp [hu, hrun], .str _⟩
/-- Bytes as a text. -/
theorem RunL.strOf {P : Program} {k : Oper → Knd} {ops : Array Oper} {K : St → Prop} {o : Oper} {rest : List Oper} {s : St} {src dst e : TypeId} {x : Operand} {own : Bool} {n : Int} {ns : List Int}
    (hg : guardA ops s o = some true) (ho : o.op = .convert src dst x) (hs : P.underlying src = some (.slice e)) (he : P.underlying e = some (.int .u8)) (hd : P.underlying dst = some .string) (hx : s.ev x = .sl own ((n :: ns).map (.int .u8)))
    (h : R P k ops rest (s.put o.dst (.str (strOfNums (n :: ns)))) K) : RunL P k ops (o :: rest) s K := by
  refine .op ⟨.A, .str (strOfNums (n :: ns)), []⟩ rfl ⟨⟨fun _ h => (by cases h), fun h => (by cases h)⟩, fun s1 ha _ => ⟨by rw [agree_guard ha]; exact hg, ?_⟩⟩ (R.sound h)
  exact strOf_sound ho hs he hd (by rw [agree_ev ha (by rw [ho]; simp [Op.operands])]; exact hx)

/-! ### what a call leaves that only adds memory -/
theorem Inv.below {γ : Nat → Gh} {L : List AObj} {w w' : World} (h : Inv γ L w) (hb : Below w.heap.size w w') : Inv γ L w' := by
  have key : ∀ {b : Nat} {o : Obj}, w.heap[b]? = some o → w'.heap[b]? = some o := fun {b o} ho => by
    rw [hb.block b (Array.getElem?_eq_some_iff.1 ho).1]; exact ho
  exact ⟨fun b o hq => key (h.ro b o hq), fun b id p c hq => by
    obtain ⟨o, ho, hr⟩ := h.ow b id p c hq
    exact ⟨o, key ho, hr⟩, h.inj, h.box, h.map⟩
theorem Stp.below {γ : Nat → Gh} {w w' : World} (hb : Below w.heap.size w w') : Stp γ w γ w' := ⟨hb.os, hb.tape, hb.output, hb.size, fun _ _ h => h, fun b hlt ho => ⟨ho, hb.block b hlt⟩⟩
theorem Inv.lt {γ : Nat → Gh} {L : List AObj} {w : World} (h : Inv γ L w) {b : Nat} {o : Obj} (hb : γ b = .ro o) : b < w.heap.size := (Array.getElem?_eq_some_iff.1 (h.ro b o hb)).1
theorem args1 {γ : Nat → Gh} {L : List AObj} {x : AV} {vs : Array Value} (h : ArgsR γ L [x] vs) : ∃ v, vs = #[v] ∧ RV γ L x v := by
  obtain ⟨hs, ha⟩ := h
  obtain ⟨xs⟩ := vs
  match xs, hs with
  | [v], _ => exact ⟨v, rfl, by simpa using ha 0 x rfl⟩
theorem args2 {γ : Nat → Gh} {L : List AObj} {x y : AV} {vs : Array Value} (h : ArgsR γ L [x, y] vs) : ∃ v u, vs = #[v, u] ∧ RV γ L x v ∧ RV γ L y u := by
  obtain ⟨hs, ha⟩ := h
  obtain ⟨xs⟩ := vs
  match xs, hs with
  | [v, u], _ => exact ⟨v, u, rfl, by simpa using ha 0 x rfl, by simpa using ha 1 y rfl⟩

end Go.Proofs.Ytobdpkkmkbafbaa.K
/-
  The end of a call that leaves nothing of its own: what it made is out of sight.
-/
namespace Go.Proofs.Ytobdpkkmkbafbaa.K
set_option linter.unusedVariables false
set_option linter.unusedSimpArgs false
open Go Go.RowKit
set_option maxRecDepth 8000

/-- An object whose contents lead to nothing that is owned. -/
def flatO : AObj → Bool
  | .dead => true
  | .map _ _ _ => true
  | .box _ cs => pureL cs
  | .vec _ _ _ es => noOwn es && es.all fun e => e.cells.all pureB
def trimG (n : Nat) (γ : Nat → Gh) : Nat → Gh := fun b =>
  match γ b with
  | .ow id p c => if id < n then .ow id p c else .out
  | x => x
theorem trimG_ro {n : Nat} {γ : Nat → Gh} : ∀ b o, γ b = .ro o → trimG n γ b = .ro o := fun b o h => by simp [trimG, h]
theorem trimG_ow {n : Nat} {γ : Nat → Gh} {b id c : Nat} {p : Pth} (h : trimG n γ b = .ow id p c) : γ b = .ow id p c ∧ id < n := by
  unfold trimG at h
  split at h
  · split at h
    · cases h; exact ⟨by assumption, by assumption⟩
    · cases h
  · rename_i hne; exact absurd h (hne _ _ _)
theorem Fin.trim {L M Y : List AObj} {r1 r : AV} (hl : M.length = L.length) (hM : M.all flatO = true) (hr : flatB r = true) (h : r1 = r) : K.Fin L (M ++ Y) r1 M r := by
  subst h
  intro γ0 w0 γ w v hI0 hI hv hE hS
  have getM : ∀ {id : Nat}, id < M.length → (M ++ Y)[id]? = M[id]? := fun {id} h => List.getElem?_append_left h
  have lt0 : ∀ {b id p c}, γ0 b = .ow id p c → id < M.length := fun {b id p c} hb => by rw [hl]; exact hI0.idlt hb
  have upG : ∀ {b id p c}, γ b = .ow id p c → id < M.length → trimG M.length γ b = .ow id p c := fun {b id p c} hb hlt => by simp [trimG, hb, hlt]
  have oneV : ∀ {x : AV} {v : Value}, pureB x = true → RV γ (M ++ Y) x v → RV (trimG M.length γ) M x v := fun {x v} hx hv => Pur.of hx _ _ _ _ _ trimG_ro hv
  refine ⟨trimG M.length γ, ⟨fun b o hb => ?_, fun b id p c hb => ?_, fun b b' id p c c' hb hb' => hI.inj _ _ _ _ _ _ (trimG_ow hb).1 (trimG_ow hb').1, fun id T cs hL => ?_, fun id kt vt es hL => ?_⟩, flatB_sound hv hr,
    ⟨fun b o hb => trimG_ro b o (hE.ro b o hb), fun id o hL => ?_, fun b id p c hb => ?_, fun id T sz g es T' sz' es' hL hL' p e1 he b c hb => ?_⟩, hS.os, hS.tape, hS.output, hS.size, fun b o hb => trimG_ro b o (hS.ro b o hb), fun b hb ho => ?_⟩
  · unfold trimG at hb
    split at hb
    · split at hb <;> cases hb
    · exact hI.ro b o hb
  · obtain ⟨hb0, hlt⟩ := trimG_ow hb
    obtain ⟨o, ho, hrep⟩ := hI.ow _ _ _ _ hb0
    refine ⟨o, ho, ?_⟩
    unfold BlockRep at hrep ⊢
    rw [getM hlt] at hrep
    cases hL : M[id]? with
    | none => rw [hL] at hrep; exact hrep.elim
    | some ob =>
      rw [hL] at hrep
      have hfl := List.all_eq_true.1 hM ob (List.mem_of_getElem? hL)
      cases ob with
      | dead => exact hrep.elim
      | map kt vt es => exact hrep
      | box T cs =>
        obtain ⟨q1, arr, q2, q3, q4⟩ := hrep
        refine ⟨q1, arr, q2, q3, fun j x hx => ?_⟩
        obtain ⟨v, v1, v2, v3⟩ := q4 j x hx
        exact ⟨v, v1, v2, oneV (pureL_mem.1 hfl x (List.mem_of_getElem? hx)) v3⟩
      | vec T sz g es =>
        simp only [flatO, Bool.and_eq_true] at hfl
        obtain ⟨es', s, arr, T', k1, k2, k3, k4, k5, k6, k7⟩ := hrep
        obtain ⟨rfl, rfl⟩ := noOwn_sub hfl.1 k1
        refine ⟨es', s, arr, T', k1, k2, k3, k4, k5, k6, k7.1, fun i e j x he hx => ?_⟩
        obtain ⟨u, m1, m2, m3⟩ := k7.2 i e j x he hx
        exact ⟨u, m1, m2, (noOwn_CV hfl.1 he hx).2 (oneV (List.all_eq_true.1 (List.all_eq_true.1 hfl.2 e (List.mem_of_getElem? he)) x (List.mem_of_getElem? hx)) ((noOwn_CV hfl.1 he hx).1 m3))⟩
  · have hlt := (List.getElem?_eq_some_iff.1 hL).1
    obtain ⟨b, c, hb⟩ := hI.box id T cs (by rw [getM hlt]; exact hL)
    exact ⟨b, c, upG hb hlt⟩
  · have hlt := (List.getElem?_eq_some_iff.1 hL).1
    obtain ⟨b, c, hb⟩ := hI.map id kt vt es (by rw [getM hlt]; exact hL)
    exact ⟨b, c, upG hb hlt⟩
  · obtain ⟨o', h1, h2⟩ := hE.ob id o hL
    have hlt := (List.getElem?_eq_some_iff.1 hL).1
    exact ⟨o', by rw [← getM (by omega)]; exact h1, h2⟩
  · have hlt := lt0 hb
    rcases hE.lab b id p c hb with h1 | h1
    · exact .inl (upG h1 hlt)
    · refine .inr fun o hL => ?_
      obtain ⟨T, sz, g, es, rfl, hn⟩ := h1 o hL
      exact ⟨T, sz, g, es, rfl, fun T' sz' es' hq => hn T' sz' es' (by rw [getM hlt]; exact hq)⟩
  · have hlt := (List.getElem?_eq_some_iff.1 hL').1
    exact hE.nil id T sz g es T' sz' es' hL (by rw [getM hlt]; exact hL') p e1 he b c (trimG_ow hb).1
  · obtain ⟨h1, h2⟩ := hS.out b hb ho
    exact ⟨by simp [trimG, h1], h2⟩

end Go.Proofs.Ytobdpkkmkbafbaa.K
/-
  Green pictures: the value by play, as the program finds it.
-/
namespace Go.Proofs.Ytobdpkkmkbafbaa
open Go K
set_option linter.unusedSimpArgs false
set_option linter.unusedVariables false
set_option maxHeartbeats 3200000
set_option maxRecDepth 8000

/-! ### the least number that is not there -/
abbrev SeenM := List (Int × Bool)
def seenO (m : SeenM) : AObj := mapO 3 4 (ekI .i64) AV.bool m
theorem sT : MapT Try.prog 3 4 (ekI .i64) AV.bool false := mapT_int Try.underlying3 (fun _ => rfl) (fun _ => rfl) (by kernel_rfl)
theorem wf_i64 {a : Nat} (h : a ≤ 1048576) : (Lit.int .i64 (a : Int)).wf = true := by
  simp only [Lit.wf, Bool.and_eq_true, decide_eq_true_eq]
  have h1 : IntKind.i64.min = -9223372036854775808 := by decide
  have h2 : IntKind.i64.max = 9223372036854775807 := by decide
  rw [h1, h2]; omega
theorem wf_u64 {a : Nat} (h : a ≤ 1048576) : (Lit.int .u64 (a : Int)).wf = true := by
  simp only [Lit.wf, Bool.and_eq_true, decide_eq_true_eq]
  have h1 : IntKind.u64.min = 0 := by decide
  have h2 : IntKind.u64.max = 18446744073709551615 := by decide
  rw [h1, h2]; omega
theorem sKey {a : Nat} (h : a ≤ 1048576) : (keyOf Try.prog 3 (valK (ekI .i64 (a : Int)))).isSome = true := by
  show (keyOf Try.prog 3 (.int .i64 (a : Int))).isSome = true
  rw [Maps.keyOf_int_mk Try.underlying3 (wf_i64 h)]; rfl
theorem mKey {a : Nat} (h : a ≤ 1048576) : (keyOf Try.prog 52 (valK (ekI .u64 (a : Int)))).isSome = true := by
  show (keyOf Try.prog 52 (.int .u64 (a : Int))).isSome = true
  rw [Maps.keyOf_int_mk Try.underlying52 (wf_u64 h)]; rfl
theorem mex_ok (m : SeenM) (M : MapOk Try.prog 3 (ekI .i64) m) (t : Nat) (ht : t ≤ 1000) (h1 : ∀ v : Nat, v < t → getM m (v : Int) = some true) (h2 : getM m (t : Int) = none) (L : List AObj) (sb : Nat) (hL : L[sb]? = some (seenO m)) :
    Ct Try.prog 52 [.map sb] L (.int .i64 t) L := by
  refine Ct.by_ hmix [] Try.func52 rfl ?_
  simp only [run0, run1, run2, run3, run4, run5, run6, run7, run8, run9, run10, run11, run12, run13, run14, run15, run16, run17, run18, run19, run20, run21, run22, reduceCtorEq, Nat.reduceEqDiff, Nat.reduceAdd, Nat.reduceSub, Nat.reduceLeDiff, indexAddrA, indexRefA, appendA, strA, Nat.reduceMul, Nat.zero_mul, Nat.reduceMod, Int.reduceEq, Int.reduceLT, Int.reduceLE, Nat.reduceLT, Nat.lt_irrefl, Nat.reduceBEq, tys0, tys1, tys2, tys3, tys4, tys5, tys6, tys7, tys8, tys9, tys10, Try.ntmps52, Try.results52]
  refine AWp.loop_inv (ι := Nat) (fun n => ⟨[.map sb, .junk, .int .i64 0, .int .i64 n, .junk, .junk, .junk, .junk, .junk, .junk], L⟩) (fun n => n ≤ t) (fun n => t - n) 0 (Nat.zero_le _) ⟨by simp only [Int.natCast_zero]; repeat constructor, rfl⟩ ?_
  intro n hn
  refine W.sound hmix (E := []) ?_
  simp only [run0, run1, run2, run3, run4, run5, run6, run7, run8, run9, run10, run11, run12, run13, run14, run15, run16, run17, run18, run19, run20, run21, run22, reduceCtorEq, Nat.reduceEqDiff, Nat.reduceAdd, Nat.reduceSub, Nat.reduceLeDiff, indexAddrA, indexRefA, appendA, strA, Nat.reduceMul, Nat.zero_mul, Nat.reduceMod, Int.reduceEq, Int.reduceLT, Int.reduceLE, Nat.reduceLT, Nat.lt_irrefl, Nat.reduceBEq, tys0, tys1, tys2, tys3, tys4, tys5, tys6, tys7, tys8, tys9, tys10, Try.ntmps52, Try.results52]
  refine RunL.look sT m (n : Int) rfl rfl rfl rfl hL Try.underlying69 M (sKey (by omega)) rfl ?_
  have e5 : IntKind.i64.wrap ((n : Int) + 1) = ((n + 1 : Nat) : Int) := by rw [s64_id (by omega) (by omega)]; simp
  rcases Nat.lt_or_ge n t with hlt | hge
  · have e1 := h1 n hlt
    simp only [run0, run1, run2, run3, run4, run5, run6, run7, run8, run9, run10, run11, run12, run13, run14, run15, run16, run17, run18, run19, run20, run21, run22, reduceCtorEq, Nat.reduceEqDiff, Nat.reduceAdd, Nat.reduceSub, Nat.reduceLeDiff, indexAddrA, indexRefA, appendA, strA, Nat.reduceMul, Nat.zero_mul, Nat.reduceMod, Int.reduceEq, Int.reduceLT, Int.reduceLE, Nat.reduceLT, Nat.lt_irrefl, Nat.reduceBEq, tys0, tys1, tys2, tys3, tys4, tys5, tys6, tys7, tys8, tys9, tys10, Try.ntmps52, Try.results52, lookR, e1, Option.getD_some, e5]
    exact ⟨n + 1, by omega, by omega, by repeat constructor⟩
  · obtain rfl : n = t := by omega
    simp only [run0, run1, run2, run3, run4, run5, run6, run7, run8, run9, run10, run11, run12, run13, run14, run15, run16, run17, run18, run19, run20, run21, run22, reduceCtorEq, Nat.reduceEqDiff, Nat.reduceAdd, Nat.reduceSub, Nat.reduceLeDiff, indexAddrA, indexRefA, appendA, strA, Nat.reduceMul, Nat.zero_mul, Nat.reduceMod, Int.reduceEq, Int.reduceLT, Int.reduceLE, Nat.reduceLT, Nat.lt_irrefl, Nat.reduceBEq, tys0, tys1, tys2, tys3, tys4, tys5, tys6, tys7, tys8, tys9, tys10, Try.ntmps52, Try.results52, lookR, h2, Option.getD_none]
    exact Fin.own rfl rfl

/-! ### the search with a memory -/
abbrev MemG := List (Int × Int)
def memG (m : MemG) : AObj := mapO 52 3 (ekI .u64) (AV.int .i64) m
theorem mT : MapT Try.prog 52 3 (ekI .u64) (AV.int .i64) 0 := mapT_int Try.underlying52 (fun _ => rfl) (fun _ => rfl) (by kernel_rfl)
/-- What is grounded behind a cut. -/
def cutS (g : GTw) (set i : Nat) : Nat := (gRun g (andNot set (1 <<< i)).testBit (g.length + 1) (1, 0)).2
noncomputable def vB (g : GTw) (set : Nat) : Nat := vS g set.testBit 0
/-- A set of twigs all of which are grounded. -/
structure GSet (g : GTw) (set : Nat) : Prop where
  lt : set < 2 ^ 14
  grd : ∀ i, set.testBit i = true → Grd g set.testBit i
theorem grd_set {g : GTw} (hg : Pic g) (keep : Nat → Bool) : GSet g (gRun g keep (g.length + 1) (1, 0)).2 := by
  refine ⟨gRun_lt hg, fun i hi => ?_⟩
  obtain ⟨a, b, h1, h2, h3⟩ := (gRun_is g keep i).1 hi
  refine ⟨a, b, h1, hi, ?_⟩
  clear h1 h2 hi
  have key : ∀ {k}, Rch g keep 0 k → Rch g (gRun g keep (g.length + 1) (1, 0)).2.testBit 0 k := fun {k} hk => by
    induction hk with
    | refl => exact .refl
    | fwd hg hA hr ih => exact .fwd hg ((gRun_is g keep _).2 ⟨_, _, hg, hA, hr⟩) ih
    | bwd hg hA hr ih => exact .bwd hg ((gRun_is g keep _).2 ⟨_, _, hg, hA, .bwd hg hA hr⟩) ih
  exact key h3
theorem cutS_ok {g : GTw} (hg : Pic g) (set i : Nat) : GSet g (cutS g set i) := grd_set hg _
theorem andNot_one {set i : Nat} (hs : set < 2 ^ 14) (j : Nat) : (andNot set (1 <<< i)).testBit j = butK set.testBit i j := by
  rw [andNot_bit (by omega), bit_one]
  unfold butK
  by_cases h : i = j
  · subst h; simp
  · have : j ≠ i := fun e => h e.symm
    simp [h, this]
theorem vB_cut {g : GTw} {set i : Nat} (hs : set < 2 ^ 14) : vB g (cutS g set i) = vS g (butK set.testBit i) 0 := by
  unfold vB cutS
  have e : (andNot set (1 <<< i)).testBit = butK set.testBit i := funext fun j => andNot_one hs j
  rw [e]
  exact (vS_grd fun j _ => gRun_is g _ j).symm
theorem vB_le (g : GTw) (set : Nat) : vB g set ≤ g.length := fV_len _ _ _ _
theorem GSet.cn {g : GTw} {set i : Nat} (h : GSet g set) (hi : set.testBit i = true) : cn g set.testBit 0 i := by
  obtain ⟨a, b, h1, h2, h3⟩ := h.grd i hi
  exact ⟨a, b, h1, h2, h3⟩
/-- How many twigs a set has. -/
def szB (g : GTw) (set : Nat) : Nat := cnt g.length set.testBit
theorem cutS_sub {g : GTw} {set i j : Nat} (hs : set < 2 ^ 14) (h : (cutS g set i).testBit j = true) : set.testBit j = true ∧ j ≠ i := by
  obtain ⟨a, b, h1, h2, h3⟩ := (gRun_is g _ j).1 h
  rw [andNot_one hs] at h2
  exact butK_ne.1 h2
theorem szB_cut {g : GTw} {set i : Nat} (hs : set < 2 ^ 14) (hi : set.testBit i = true) (hl : i < g.length) : szB g (cutS g set i) < szB g set := by
  refine cnt_lt (e := i) (fun j _ hj => (cutS_sub hs hj).1) hl ?_ hi
  cases h : (cutS g set i).testBit i
  · rfl
  · exact absurd rfl (cutS_sub hs h).2
noncomputable def gM (g : GTw) : Nat → MemG → Nat → MemG
  | 0, m, _ => m
  | f + 1, m, set =>
    match getM m (set : Int) with
    | some _ => m
    | none => putM ((List.range g.length).foldl (fun m i => if set.testBit i then gM g f m (cutS g set i) else m) m) (set : Int) (vB g set : Nat)
structure MemGOk (g : GTw) (m : MemG) : Prop where
  nd : (m.map Prod.fst).Nodup
  ok : ∀ k v, getM m k = some v → ∃ s : Nat, k = (s : Int) ∧ s < 2 ^ 14 ∧ v = (vB g s : Nat)
theorem MemGOk.nil (g : GTw) : MemGOk g [] := ⟨by simp, by simp [getM]⟩
theorem MemGOk.put {g : GTw} {m : MemG} (h : MemGOk g m) {s : Nat} (hs : s < 2 ^ 14) : MemGOk g (putM m (s : Int) (vB g s : Nat)) :=
  ⟨putM_nodup h.nd _ _, fun k v hk => by
    rw [getM_putM] at hk
    split at hk
    · rename_i e
      cases hk
      exact ⟨s, e.symm, hs, rfl⟩
    · exact h.ok k v hk⟩
theorem MemGOk.map {g : GTw} {m : MemG} (h : MemGOk g m) : MapOk Try.prog 52 (ekI .u64) m :=
  ⟨h.nd, fun k hk => by
    obtain ⟨p, hp, rfl⟩ := List.mem_map.1 hk
    obtain ⟨j, hj, rfl⟩ := List.getElem_of_mem hp
    obtain ⟨s, e, hs, _⟩ := h.ok _ _ (getM_at h.nd (List.getElem?_eq_getElem hj))
    rw [e]
    exact mKey (by omega)⟩
theorem fold_mem {g : GTw} {F : MemG → Nat → MemG} (hF : ∀ m i, MemGOk g m → MemGOk g (F m i)) : ∀ (l : List Nat) (m : MemG), MemGOk g m → MemGOk g (l.foldl F m)
  | [], m, h => h
  | i :: l, m, h => fold_mem hF l (F m i) (hF m i h)
theorem gM_ok {g : GTw} (hg : Pic g) : ∀ (f : Nat) (m : MemG) (set : Nat), set < 2 ^ 14 → MemGOk g m → MemGOk g (gM g f m set)
  | 0, m, set, _, h => h
  | f + 1, m, set, hs, h => by
    unfold gM
    cases hk : getM m (set : Int) with
    | some v => exact h
    | none =>
      refine MemGOk.put ?_ hs
      refine fold_mem (fun m i hm => ?_) _ _ h
      split
      · exact gM_ok hg f m _ (cutS_ok hg set i).lt hm
      · exact hm
/-- What has been seen of a set's cuts: those of the twigs ahead of 'n'. -/
structure SeenOk (g : GTw) (set n : Nat) (q : SeenM) : Prop where
  nd : (q.map Prod.fst).Nodup
  ok : ∀ k v, getM q k = some v → v = true ∧ ∃ i, i < n ∧ set.testBit i = true ∧ k = (vB g (cutS g set i) : Nat)
  all : ∀ i, i < n → set.testBit i = true → getM q (vB g (cutS g set i) : Nat) = some true
theorem SeenOk.map {g : GTw} {set n : Nat} {q : SeenM} (hgl : g.length ≤ 14) (h : SeenOk g set n q) : MapOk Try.prog 3 (ekI .i64) q :=
  ⟨h.nd, fun k hk => by
    obtain ⟨p, hp, rfl⟩ := List.mem_map.1 hk
    obtain ⟨j, hj, rfl⟩ := List.getElem_of_mem hp
    obtain ⟨_, i, _, _, e⟩ := h.ok _ _ (getM_at h.nd (List.getElem?_eq_getElem hj))
    rw [e]
    exact sKey (by have := vB_le g (cutS g set i); omega)⟩
theorem SeenOk.nil (g : GTw) (set : Nat) : SeenOk g set 0 [] := ⟨by simp, by simp [getM], fun i h => by omega⟩
theorem SeenOk.put {g : GTw} {set n : Nat} {q : SeenM} (h : SeenOk g set n q) (hn : set.testBit n = true) : SeenOk g set (n + 1) (putM q (vB g (cutS g set n) : Nat) true) :=
  ⟨putM_nodup h.nd _ _, fun k v hk => by
    rw [getM_putM] at hk
    split at hk
    · rename_i e
      cases hk
      exact ⟨rfl, n, by omega, hn, e.symm⟩
    · obtain ⟨h1, i, h2, h3, h4⟩ := h.ok k v hk
      exact ⟨h1, i, by omega, h3, h4⟩, fun i hi hs => by
    rw [getM_putM]
    split
    · rfl
    · rename_i hne
      rcases Nat.lt_succ_iff_lt_or_eq.1 hi with hi | rfl
      · exact h.all i hi hs
      · exact absurd rfl hne⟩
theorem SeenOk.skip {g : GTw} {set n : Nat} {q : SeenM} (h : SeenOk g set n q) (hn : set.testBit n = false) : SeenOk g set (n + 1) q :=
  ⟨h.nd, fun k v hk => by
    obtain ⟨h1, i, h2, h3, h4⟩ := h.ok k v hk
    exact ⟨h1, i, by omega, h3, h4⟩, fun i hi hs => by
    rcases Nat.lt_succ_iff_lt_or_eq.1 hi with hi | rfl
    · exact h.all i hi hs
    · rw [hn] at hs; cases hs⟩
/-- Then the least number that is not seen is the set's value. -/
theorem SeenOk.mex {g : GTw} {set : Nat} {q : SeenM} (hs : GSet g set) (h : SeenOk g set g.length q) : (∀ v : Nat, v < vB g set → getM q (v : Int) = some true) ∧ getM q ((vB g set : Nat) : Int) = none := by
  constructor
  · intro v hv
    obtain ⟨i, hc, hval⟩ := vS_lt hv
    obtain ⟨a, b, hT⟩ := hc
    have := h.all i hT.lt hT.2.1
    rw [vB_cut hs.lt, hval] at this
    exact this
  · cases hq : getM q ((vB g set : Nat) : Int) with
    | none => rfl
    | some v =>
      obtain ⟨_, i, _, h3, h4⟩ := h.ok _ _ hq
      have h4 : vB g set = vB g (cutS g set i) := by omega
      rw [vB_cut hs.lt] at h4
      exact absurd h4.symm (vS_ne (hs.cn h3))

end Go.Proofs.Ytobdpkkmkbafbaa
/-
  Green pictures: the value by play, walked.
-/
namespace Go.Proofs.Ytobdpkkmkbafbaa
open Go K
set_option linter.unusedSimpArgs false
set_option linter.unusedVariables false
set_option maxHeartbeats 3200000
set_option maxRecDepth 8000

theorem twE_pure (g : GTw) : pureL (g.map twE) = true := by
  induction g with
  | nil => rfl
  | cons t g ih => simp only [List.map_cons, twE, pureL, pureB, Bool.true_and]; exact ih
structure GrS where
  n : Nat
  m : MemG
  q : SeenM
theorem memG_set {L : List AObj} {mb : Nat} (m m' : MemG) (h : mb < L.length) (q : SeenM) : (L.set mb (memG m) ++ [seenO q]).set mb (memG m') = L.set mb (memG m') ++ [seenO q] := by
  rw [List.set_append_left _ _ (by simpa using h), List.set_set]
theorem set_eqG {α : Type} {L : List α} {i : Nat} {a : α} (h : L[i]? = some a) : L.set i a = L := by
  obtain ⟨hl, e⟩ := List.getElem?_eq_some_iff.1 h
  rw [← e]; exact List.set_getElem_self hl
theorem grundy_ok (g : GTw) (hg : Pic g) : ∀ (f set : Nat) (m : MemG), GSet g set → szB g set < f → MemGOk g m → ∀ (L : List AObj) (mb : Nat), L[mb]? = some (memG m) → L.all flatO = true →
    Ct Try.prog 35 [.sl false (g.map twE), .int .u64 set, .map mb] L (.int .i64 (vB g set : Nat)) (L.set mb (memG (gM g f m set)))
  | 0, set, m, _, h, _, _, _, _, _ => absurd h (Nat.not_lt_zero _)
  | f + 1, set, m, hs, hf, hm, L, mb, hL, hfl => by
    have hgl := hg.1
    have hpu := twE_pure g
    have hml := (List.getElem?_eq_some_iff.1 hL).1
    have hst := hs.lt
    refine Ct.by_ hmix [] Try.func35 rfl ?_
    simp only [run0, run1, run2, run3, run4, run5, run6, run7, run8, run9, run10, run11, run12, run13, run14, run15, run16, run17, run18, run19, run20, run21, run22, reduceCtorEq, Nat.reduceEqDiff, Nat.reduceAdd, Nat.reduceSub, Nat.reduceLeDiff, indexAddrA, indexRefA, appendA, strA, Nat.reduceMul, Nat.zero_mul, Nat.reduceMod, Int.reduceEq, Int.reduceLT, Int.reduceLE, Nat.reduceLT, Nat.lt_irrefl, Nat.reduceBEq, tys0, tys1, tys2, tys3, tys4, tys5, tys6, tys7, tys8, tys9, tys10, Try.ntmps35, Try.results35]
    refine RunL.look mT m (set : Int) rfl rfl rfl rfl hL Try.underlying57 hm.map (mKey (by omega)) rfl ?_
    cases hk : getM m (set : Int) with
    | some v =>
      have hA : gM g (f + 1) m set = m := by simp only [gM, hk]
      obtain ⟨s', e1, _, e2⟩ := hm.ok _ _ hk
      have e1 : s' = set := by omega
      subst e1
      rw [hA]
      simp only [run0, run1, run2, run3, run4, run5, run6, run7, run8, run9, run10, run11, run12, run13, run14, run15, run16, run17, run18, run19, run20, run21, run22, reduceCtorEq, Nat.reduceEqDiff, Nat.reduceAdd, Nat.reduceSub, Nat.reduceLeDiff, indexAddrA, indexRefA, appendA, strA, Nat.reduceMul, Nat.zero_mul, Nat.reduceMod, Int.reduceEq, Int.reduceLT, Int.reduceLE, Nat.reduceLT, Nat.lt_irrefl, Nat.reduceBEq, tys0, tys1, tys2, tys3, tys4, tys5, tys6, tys7, tys8, tys9, tys10, Try.ntmps35, Try.results35, lookR, hk, Option.getD_some]
      exact Fin.own (by rw [set_eqG hL]) (by rw [e2])
    | none =>
      have hA : gM g (f + 1) m set = putM ((List.range g.length).foldl (fun m i => if set.testBit i then gM g f m (cutS g set i) else m) m) (set : Int) (vB g set : Nat) := by simp only [gM, hk]
      rw [hA]
      clear hA
      simp only [run0, run1, run2, run3, run4, run5, run6, run7, run8, run9, run10, run11, run12, run13, run14, run15, run16, run17, run18, run19, run20, run21, run22, reduceCtorEq, Nat.reduceEqDiff, Nat.reduceAdd, Nat.reduceSub, Nat.reduceLeDiff, indexAddrA, indexRefA, appendA, strA, Nat.reduceMul, Nat.zero_mul, Nat.reduceMod, Int.reduceEq, Int.reduceLT, Int.reduceLE, Nat.reduceLT, Nat.lt_irrefl, Nat.reduceBEq, tys0, tys1, tys2, tys3, tys4, tys5, tys6, tys7, tys8, tys9, tys10, Try.ntmps35, Try.results35, lookR, hk, Option.getD_none]
      refine RunL.newMap 3 4 rfl rfl rfl ?_
      simp only [run0, run1, run2, run3, run4, run5, run6, run7, run8, run9, run10, run11, run12, run13, run14, run15, run16, run17, run18, run19, run20, run21, run22, reduceCtorEq, Nat.reduceEqDiff, Nat.reduceAdd, Nat.reduceSub, Nat.reduceLeDiff, indexAddrA, indexRefA, appendA, strA, Nat.reduceMul, Nat.zero_mul, Nat.reduceMod, Int.reduceEq, Int.reduceLT, Int.reduceLE, Nat.reduceLT, Nat.lt_irrefl, Nat.reduceBEq, tys0, tys1, tys2, tys3, tys4, tys5, tys6, tys7, tys8, tys9, tys10, Try.ntmps35, Try.results35, List.length_map]
      have hF : ∀ n, MemGOk g ((List.range n).foldl (fun m i => if set.testBit i then gM g f m (cutS g set i) else m) m) := fun n => fold_mem (fun m i hm => by
        split
        · exact gM_ok hg f m _ (cutS_ok hg set i).lt hm
        · exact hm) _ _ hm
      refine AWp.loop_inv (ι := GrS) (fun p => ⟨[.sl false (g.map twE), .int .u64 set, .map mb, .junk, .junk, .junk, .junk, .junk, .junk, .map L.length, .junk, .junk, .junk, .junk, .junk, .junk, .junk, .junk, .junk, .junk, .junk, .int .i64 g.length, .int .i64 p.n, .junk, .junk, .junk, .junk, .junk, .junk, .junk, .junk, .junk, .junk, .junk, .junk, .junk, .junk, .junk, .junk, .junk, .junk, .junk, .junk, .junk, .junk, .junk, .junk, .junk], L.set mb (memG p.m) ++ [seenO p.q]⟩)
        (fun p => p.n ≤ g.length ∧ p.m = (List.range p.n).foldl (fun m i => if set.testBit i then gM g f m (cutS g set i) else m) m ∧ SeenOk g set p.n p.q) (fun p => g.length - p.n) ⟨0, m, []⟩ ⟨Nat.zero_le _, rfl, SeenOk.nil g set⟩
        ⟨by simp only [Int.natCast_zero]; repeat constructor, by rw [set_eqG hL]; rfl⟩ ?_
      rintro ⟨n, m1, q⟩ ⟨hn, hm1, hq⟩
      refine W.sound hmix (E := []) ?_
      simp only at hn hm1 hq
      have hm1k : MemGOk g m1 := by rw [hm1]; exact hF n
      have hL1 : (L.set mb (memG m1) ++ [seenO q])[mb]? = some (memG m1) := by rw [List.getElem?_append_left (by simpa using hml), List.getElem?_set_self hml]
      have hL2 : ∀ M : List AObj, M.length = L.length → (M ++ [seenO q])[L.length]? = some (seenO q) := fun M hM => by rw [List.getElem?_append_right (by omega), hM, Nat.sub_self]; rfl
      have hS2 : ∀ (M : List AObj) (o : AObj), M.length = L.length → (M ++ [seenO q]).set L.length o = M ++ [o] := fun M o hM => by rw [List.set_append_right _ _ (by omega), hM, Nat.sub_self]; rfl
      by_cases hnl : n < g.length
      case neg =>
        obtain rfl : n = g.length := by omega
        have e1 : ¬ ((g.length : Int) < (g.length : Int)) := by omega
        obtain ⟨q1, q2⟩ := hq.mex hs
        have hv := vB_le g set
        have cm := mex_ok q (hq.map hgl) (vB g set) (by omega) q1 q2 (L.set mb (memG m1) ++ [seenO q]) L.length (hL2 _ (by simp))
        simp only [run0, run1, run2, run3, run4, run5, run6, run7, run8, run9, run10, run11, run12, run13, run14, run15, run16, run17, run18, run19, run20, run21, run22, reduceCtorEq, Nat.reduceEqDiff, Nat.reduceAdd, Nat.reduceSub, Nat.reduceLeDiff, indexAddrA, indexRefA, appendA, strA, Nat.reduceMul, Nat.zero_mul, Nat.reduceMod, Int.reduceEq, Int.reduceLT, Int.reduceLE, Nat.reduceLT, Nat.lt_irrefl, Nat.reduceBEq, tys0, tys1, tys2, tys3, tys4, tys5, tys6, tys7, tys8, tys9, tys10, Try.ntmps35, Try.results35, e1]
        refine RunL.call rfl rfl rfl ok_f52 rfl (.inl rfl) cm ?_
        simp only [run0, run1, run2, run3, run4, run5, run6, run7, run8, run9, run10, run11, run12, run13, run14, run15, run16, run17, run18, run19, run20, run21, run22, reduceCtorEq, Nat.reduceEqDiff, Nat.reduceAdd, Nat.reduceSub, Nat.reduceLeDiff, indexAddrA, indexRefA, appendA, strA, Nat.reduceMul, Nat.zero_mul, Nat.reduceMod, Int.reduceEq, Int.reduceLT, Int.reduceLE, Nat.reduceLT, Nat.lt_irrefl, Nat.reduceBEq, tys0, tys1, tys2, tys3, tys4, tys5, tys6, tys7, tys8, tys9, tys10, Try.ntmps35, Try.results35]
        refine RunL.put mT m1 (set : Int) (vB g set : Nat) rfl rfl rfl rfl rfl hL1 Try.underlying57 hm1k.map (mKey (by omega)) rfl ?_
        simp only [run0, run1, run2, run3, run4, run5, run6, run7, run8, run9, run10, run11, run12, run13, run14, run15, run16, run17, run18, run19, run20, run21, run22, reduceCtorEq, Nat.reduceEqDiff, Nat.reduceAdd, Nat.reduceSub, Nat.reduceLeDiff, indexAddrA, indexRefA, appendA, strA, Nat.reduceMul, Nat.zero_mul, Nat.reduceMod, Int.reduceEq, Int.reduceLT, Int.reduceLE, Nat.reduceLT, Nat.lt_irrefl, Nat.reduceBEq, tys0, tys1, tys2, tys3, tys4, tys5, tys6, tys7, tys8, tys9, tys10, Try.ntmps35, Try.results35]
        have hpk := hm1k.put (s := set) hst
        refine RunL.look mT (putM m1 (set : Int) (vB g set : Nat)) (set : Int) rfl rfl rfl rfl (by
          rw [show mapO 52 3 (ekI .u64) (AV.int .i64) (putM m1 (set : Int) (vB g set : Nat)) = memG (putM m1 (set : Int) (vB g set : Nat)) from rfl, memG_set _ _ hml]
          rw [List.getElem?_append_left (by simpa using hml), List.getElem?_set_self hml]) Try.underlying57 hpk.map (mKey (by omega)) rfl ?_
        have hget : getM (putM m1 (set : Int) (vB g set : Nat)) (set : Int) = some ((vB g set : Nat) : Int) := by rw [getM_putM, if_pos rfl]
        simp only [run0, run1, run2, run3, run4, run5, run6, run7, run8, run9, run10, run11, run12, run13, run14, run15, run16, run17, run18, run19, run20, run21, run22, reduceCtorEq, Nat.reduceEqDiff, Nat.reduceAdd, Nat.reduceSub, Nat.reduceLeDiff, indexAddrA, indexRefA, appendA, strA, Nat.reduceMul, Nat.zero_mul, Nat.reduceMod, Int.reduceEq, Int.reduceLT, Int.reduceLE, Nat.reduceLT, Nat.lt_irrefl, Nat.reduceBEq, tys0, tys1, tys2, tys3, tys4, tys5, tys6, tys7, tys8, tys9, tys10, Try.ntmps35, Try.results35, lookR, hget, Option.getD_some]
        rw [show mapO 52 3 (ekI .u64) (AV.int .i64) (putM m1 (set : Int) (vB g set : Nat)) = memG (putM m1 (set : Int) (vB g set : Nat)) from rfl, memG_set _ _ hml, hm1]
        refine Fin.trim (by simp) ?_ rfl rfl
        refine List.all_eq_true.2 fun o ho => ?_
        rcases List.mem_or_eq_of_mem_set ho with ho | rfl
        · exact List.all_eq_true.1 hfl o ho
        · rfl
      have e1 : (n : Int) < (g.length : Int) := by omega
      have e5 : IntKind.i64.wrap ((n : Int) + 1) = ((n + 1 : Nat) : Int) := by rw [s64_id (by omega) (by omega)]; simp
      have b1 := bit_of set n (by omega)
      have hsd := shl_one (a := n) (by omega)
      have z1 : ((1 : Int) == 1) = true := rfl
      have z0 : ((0 : Int) == 1) = false := rfl
      have hAN := bits_andNot (a := set) (b := 1 <<< n) (by omega)
      have hanl : andNot set (1 <<< n) < 2 ^ 14 := by
        refine Nat.lt_pow_two_of_testBit _ fun i hi => ?_
        rw [andNot_bit (by omega), Nat.testBit_lt_two_pow (Nat.lt_of_lt_of_le hst (Nat.pow_le_pow_right (by omega) hi))]; rfl
      cases c1 : set.testBit n
      · rw [c1] at b1
        simp only [run0, run1, run2, run3, run4, run5, run6, run7, run8, run9, run10, run11, run12, run13, run14, run15, run16, run17, run18, run19, run20, run21, run22, reduceCtorEq, Nat.reduceEqDiff, Nat.reduceAdd, Nat.reduceSub, Nat.reduceLeDiff, indexAddrA, indexRefA, appendA, strA, Nat.reduceMul, Nat.zero_mul, Nat.reduceMod, Int.reduceEq, Int.reduceLT, Int.reduceLE, Nat.reduceLT, Nat.lt_irrefl, Nat.reduceBEq, tys0, tys1, tys2, tys3, tys4, tys5, tys6, tys7, tys8, tys9, tys10, Try.ntmps35, Try.results35, e1, e5, b1, hsd, hAN, Int.toNat_natCast, Int.natCast_nonneg, Bool.toNat_false, Bool.toNat_true, Int.natCast_zero, Int.natCast_one, z0, z1]
        exact ⟨⟨n + 1, m1, q⟩, ⟨by simp only; omega, by simp only [List.range_succ, List.foldl_append, List.foldl_cons, List.foldl_nil, ← hm1, c1]; rfl, hq.skip c1⟩, by simp only; omega, by repeat constructor, rfl⟩
      · rw [c1] at b1
        have cs := cutS_ok hg set n
        have hcf : szB g (cutS g set n) < f := by have := szB_cut hst c1 hnl; omega
        have cg := grundy_ok g hg f (cutS g set n) m1 cs hcf hm1k (L.set mb (memG m1) ++ [seenO q]) mb hL1 (by
          refine List.all_eq_true.2 fun o ho => ?_
          rcases List.mem_append.1 ho with ho | ho
          · rcases List.mem_or_eq_of_mem_set ho with ho | rfl
            · exact List.all_eq_true.1 hfl o ho
            · rfl
          · simp only [List.mem_cons, List.not_mem_nil, or_false] at ho
            subst ho; rfl)
        rw [memG_set _ _ hml] at cg
        have hv := vB_le g (cutS g set n)
        simp only [run0, run1, run2, run3, run4, run5, run6, run7, run8, run9, run10, run11, run12, run13, run14, run15, run16, run17, run18, run19, run20, run21, run22, reduceCtorEq, Nat.reduceEqDiff, Nat.reduceAdd, Nat.reduceSub, Nat.reduceLeDiff, indexAddrA, indexRefA, appendA, strA, Nat.reduceMul, Nat.zero_mul, Nat.reduceMod, Int.reduceEq, Int.reduceLT, Int.reduceLE, Nat.reduceLT, Nat.lt_irrefl, Nat.reduceBEq, tys0, tys1, tys2, tys3, tys4, tys5, tys6, tys7, tys8, tys9, tys10, Try.ntmps35, Try.results35, e1, b1, hsd, hAN, Int.toNat_natCast, Int.natCast_nonneg, Bool.toNat_false, Bool.toNat_true, Int.natCast_zero, Int.natCast_one, z0, z1]
        refine RunL.callp rfl rfl ok_f31 (grounded_ok g (andNot set (1 <<< n)) hg hanl) (by simp only [pureL, pureB, hpu, Bool.and_self]) rfl ?_
        simp only [run0, run1, run2, run3, run4, run5, run6, run7, run8, run9, run10, run11, run12, run13, run14, run15, run16, run17, run18, run19, run20, run21, run22, reduceCtorEq, Nat.reduceEqDiff, Nat.reduceAdd, Nat.reduceSub, Nat.reduceLeDiff, indexAddrA, indexRefA, appendA, strA, Nat.reduceMul, Nat.zero_mul, Nat.reduceMod, Int.reduceEq, Int.reduceLT, Int.reduceLE, Nat.reduceLT, Nat.lt_irrefl, Nat.reduceBEq, tys0, tys1, tys2, tys3, tys4, tys5, tys6, tys7, tys8, tys9, tys10, Try.ntmps35, Try.results35]
        refine RunL.call rfl rfl rfl ok_f35 rfl (.inl rfl) cg ?_
        simp only [run0, run1, run2, run3, run4, run5, run6, run7, run8, run9, run10, run11, run12, run13, run14, run15, run16, run17, run18, run19, run20, run21, run22, reduceCtorEq, Nat.reduceEqDiff, Nat.reduceAdd, Nat.reduceSub, Nat.reduceLeDiff, indexAddrA, indexRefA, appendA, strA, Nat.reduceMul, Nat.zero_mul, Nat.reduceMod, Int.reduceEq, Int.reduceLT, Int.reduceLE, Nat.reduceLT, Nat.lt_irrefl, Nat.reduceBEq, tys0, tys1, tys2, tys3, tys4, tys5, tys6, tys7, tys8, tys9, tys10, Try.ntmps35, Try.results35]
        refine RunL.put sT q ((vB g (cutS g set n) : Nat) : Int) true rfl rfl rfl rfl rfl (hL2 _ (by simp)) Try.underlying69 (hq.map hgl) (sKey (by omega)) rfl ?_
        simp only [run0, run1, run2, run3, run4, run5, run6, run7, run8, run9, run10, run11, run12, run13, run14, run15, run16, run17, run18, run19, run20, run21, run22, reduceCtorEq, Nat.reduceEqDiff, Nat.reduceAdd, Nat.reduceSub, Nat.reduceLeDiff, indexAddrA, indexRefA, appendA, strA, Nat.reduceMul, Nat.zero_mul, Nat.reduceMod, Int.reduceEq, Int.reduceLT, Int.reduceLE, Nat.reduceLT, Nat.lt_irrefl, Nat.reduceBEq, tys0, tys1, tys2, tys3, tys4, tys5, tys6, tys7, tys8, tys9, tys10, Try.ntmps35, Try.results35, e5]
        refine ⟨⟨n + 1, gM g f m1 (cutS g set n), putM q ((vB g (cutS g set n) : Nat) : Int) true⟩, ⟨by simp only; omega, by simp only [List.range_succ, List.foldl_append, List.foldl_cons, List.foldl_nil, ← hm1, c1]; rfl, hq.put c1⟩, by simp only; omega, by repeat constructor, ?_⟩
        rw [hS2 _ _ (by simp)]; rfl

end Go.Proofs.Ytobdpkkmkbafbaa
/-
  Green pictures: the fused value told by blocks and bridges (plain law).
-/
namespace Go.Proofs.Ytobdpkkmkbafbaa
set_option linter.unusedSimpArgs false
set_option linter.unusedVariables false
open Classical

theorem Rch.but {g : GTw} {A : Nat → Bool} {s k j : Nat} (hk : Rch g A s k) (h : ¬ cn g A s j) : Rch g (butK A j) s k := by
  induction hk with
  | refl => exact .refl
  | @fwd m u v hg hm hr ih =>
    have hmj : m ≠ j := by rintro rfl; exact h ⟨u, v, hg, hm, hr⟩
    exact .fwd hg (butK_ne.2 ⟨hm, hmj⟩) ih
  | @bwd m u v hg hm hr ih =>
    have hmj : m ≠ j := by rintro rfl; exact h ⟨u, v, hg, hm, .bwd hg hm hr⟩
    exact .bwd hg (butK_ne.2 ⟨hm, hmj⟩) ih
/-- 'B' are the bridges of 'A0'. -/
structure Fus (g : GTw) (A0 B : Nat → Bool) : Prop where
  sub : ∀ j, B j = true → A0 j = true
  br : ∀ j a b, g[j]? = some (a, b) → A0 j = true → (B j = true ↔ ¬ Rch g (butK A0 j) a b)
/-- Where one comes from: nowhere, or by a bridge with the end 'k'. -/
structure From (g : GTw) (A0 B A : Nat → Bool) (k : Nat) (d : Option Nat) : Prop where
  no : d = none → A = A0
  so : ∀ i, d = some i → A = butK A0 i ∧ B i = true ∧ ∃ w, g[i]? = some (k, w) ∨ g[i]? = some (w, k)
/-- No bridge. -/
def nbK (A0 B : Nat → Bool) : Nat → Bool := fun j => A0 j && !B j
section
variable {g : GTw} {A0 B A : Nat → Bool} {k : Nat} {d : Option Nat}
theorem nbK_iff {j : Nat} : nbK A0 B j = true ↔ A0 j = true ∧ B j = false := by simp [nbK]
theorem From.sub (h : From g A0 B A k d) {j : Nat} (hj : A j = true) : A0 j = true := by
  cases d with
  | none => rw [h.no rfl] at hj; exact hj
  | some i => rw [(h.so i rfl).1] at hj; exact (butK_ne.1 hj).1
theorem From.nb (h : From g A0 B A k d) {j : Nat} (hj : nbK A0 B j = true) : A j = true := by
  obtain ⟨h1, h2⟩ := nbK_iff.1 hj
  cases d with
  | none => rw [h.no rfl]; exact h1
  | some i =>
    obtain ⟨e, hb, _⟩ := h.so i rfl
    rw [e]
    refine butK_ne.2 ⟨h1, ?_⟩
    rintro rfl
    rw [hb] at h2; cases h2
/-- The bridge by which one came leads away. -/
theorem From.away (h : From g A0 B A k d) (F : Fus g A0 B) {i w : Nat} (hd : d = some i) (hg : g[i]? = some (k, w) ∨ g[i]? = some (w, k)) : ¬ Rch g A k w := by
  obtain ⟨e, hb, _⟩ := h.so i hd
  rw [e]
  have hA := F.sub i hb
  rcases hg with hg | hg
  · exact (F.br i k w hg hA).1 hb
  · exact fun hr => (F.br i w k hg hA).1 hb hr.symm
/-- A twig that is no bridge is no bridge of what is left. -/
theorem From.nobr (h : From g A0 B A k d) (F : Fus g A0 B) {j : Nat} (hj : nbK A0 B j = true) (hc : cn g A k j) : ∀ x, ¬ Col g A k (· = j) x := by
  intro x hx
  obtain ⟨a, b, hT⟩ := hc
  obtain ⟨h1, h2⟩ := nbK_iff.1 hj
  have hr : Rch g (butK A0 j) a b := Classical.not_not.1 fun hn => by
    have := (F.br j a b hT.1 h1).2 hn
    rw [h2] at this; cases this
  have hfl := (hx.2 j a b hT).2 rfl
  obtain ⟨X, hX⟩ : ∃ X : Nat → Bool, ∀ q, X q = (x q && decide (Rch g A k q)) := ⟨_, fun _ => rfl⟩
  have xT : ∀ {q}, Rch g A k q → X q = x q := fun {q} h => by simp [hX, h]
  have xF : ∀ {q}, ¬ Rch g A k q → X q = false := fun {q} h => by simp [hX, h]
  have flat : ∀ m p q, g[m]? = some (p, q) → butK A0 j m = true → X p = X q := fun m p q hg hm => by
    obtain ⟨hm0, hmj⟩ := butK_ne.1 hm
    by_cases hA : A m = true
    · have e : Rch g A k p ↔ Rch g A k q := ⟨.fwd hg hA, .bwd hg hA⟩
      by_cases hp : Rch g A k p
      · rw [xT hp, xT (e.1 hp)]
        exact Classical.not_not.1 fun q' => hmj ((hx.2 m p q ⟨hg, hA, hp⟩).1 q')
      · rw [xF hp, xF fun hq => hp (e.2 hq)]
    · cases hd : d with
      | none => rw [h.no hd] at hA; exact absurd hm0 hA
      | some i =>
        obtain ⟨e, hb, w, hw⟩ := h.so i hd
        have hmi : m = i := Classical.byContradiction fun hne => hA (by rw [e]; exact butK_ne.2 ⟨hm0, hne⟩)
        subst hmi
        have haw := h.away F hd hw
        have xk : X k = false := by rw [xT .refl, hx.1]
        rcases hw with hw | hw <;> (rw [hw] at hg; cases hg)
        · rw [xk, xF haw]
        · rw [xk, xF haw]
  have way : ∀ {q}, Rch g (butK A0 j) a q → X q = X a := fun {q} hq => by
    induction hq with
    | refl => rfl
    | fwd hg hm _ ih => rw [← flat _ _ _ hg hm]; exact ih
    | bwd hg hm _ ih => rw [flat _ _ _ hg hm]; exact ih
  have := way hr
  rw [xT hT.2.2, xT hT.rb] at this
  exact hfl this.symm
end
/-- The twigs of the block, by 'own', the block's knots. -/
def ckB (g : GTw) (A0 B own : Nat → Bool) (j : Nat) : Bool := match g[j]? with | some t => nbK A0 B j && own t.1 | none => false
/-- The bridges at the block. -/
def tkB (g : GTw) (A B own : Nat → Bool) (j : Nat) : Bool := match g[j]? with | some t => A j && B j && (own t.1 || own t.2) | none => false
def offK (A : Nat → Bool) (t : Nat → Bool) (n : Nat) : Nat → Bool := fun j => A j && !(decide (j < n) && t j)
section
variable {g : GTw} {A0 B A own : Nat → Bool} {k : Nat} {d : Option Nat}
theorem ckB_iff {j : Nat} : ckB g A0 B own j = true ↔ ∃ a b, g[j]? = some (a, b) ∧ nbK A0 B j = true ∧ own a = true := by
  unfold ckB
  cases hg : g[j]? with
  | none => simp
  | some t => obtain ⟨a, b⟩ := t; simp
theorem tkB_iff {j : Nat} : tkB g A B own j = true ↔ ∃ a b, g[j]? = some (a, b) ∧ A j = true ∧ B j = true ∧ (own a = true ∨ own b = true) := by
  unfold tkB
  cases hg : g[j]? with
  | none => simp
  | some t => obtain ⟨a, b⟩ := t; simp [and_assoc]
theorem own_way (ho : ∀ x, own x = true ↔ Rch g (nbK A0 B) k x) {x : Nat} (hx : Rch g (nbK A0 B) k x) : Rch g (ckB g A0 B own) k x := by
  induction hx with
  | refl => exact .refl
  | @fwd i a b hg hA hr ih => exact .fwd hg (ckB_iff.2 ⟨a, b, hg, hA, (ho a).2 hr⟩) ih
  | @bwd i a b hg hA hr ih => exact .bwd hg (ckB_iff.2 ⟨a, b, hg, hA, (ho a).2 (.bwd hg hA hr)⟩) ih
theorem ck_Nb (h : From g A0 B A k d) (F : Fus g A0 B) (ho : ∀ x, own x = true ↔ Rch g (nbK A0 B) k x) {j : Nat} (hj : ckB g A0 B own j = true) : Nb g A A k j := by
  obtain ⟨a, b, hg, hn, hoa⟩ := ckB_iff.1 hj
  have hra := (ho a).1 hoa
  have up : ∀ {x}, Rch g (nbK A0 B) k x → Rch g A k x := fun {x} hx => hx.mono fun m hm => h.nb hm
  have hT : Tw g A k j a b := ⟨hg, h.nb hn, up hra⟩
  refine ⟨h.nb hn, ⟨a, b, hT⟩, h.nobr F hn ⟨a, b, hT⟩, fun i x hi hc hx a' b' hT' => ?_⟩
  obtain ⟨rfl, rfl⟩ := hT.ends hT'
  have hni : ¬ nbK A0 B i = true := fun hq => h.nobr F hq hc x hx
  have way : ∀ {q}, Rch g (nbK A0 B) k q → x q = false := fun {q} hq => by
    rw [hx.way (B := nbK A0 B) (fun m hm => ⟨h.nb hm, fun e => hni (e ▸ hm)⟩) .refl hq, hx.1]
  exact ⟨way hra, way (.fwd hg hn hra)⟩
/-- A bridge at the block. -/
theorem tk_peel (h : From g A0 B A k d) (F : Fus g A0 B) (ho : ∀ x, own x = true ↔ Rch g (nbK A0 B) k x) {i u w : Nat} (hg : g[i]? = some (u, w) ∨ g[i]? = some (w, u)) (hA : A i = true) (hB : B i = true) (hu : own u = true) :
    Peel g (offK A (tkB g A B own) i) (offK (fun j => A j && !ckB g A0 B own j) (tkB g A B own) i) k i u w := by
  have hA0 := h.sub hA
  refine ⟨hg, by simp [offK, hA], (own_way ho ((ho u).1 hu)).mono fun j hj => ?_, fun hr => ?_⟩
  · obtain ⟨a, b, hgj, hn, hoa⟩ := ckB_iff.1 hj
    have h1 := h.nb hn
    have h2 := (nbK_iff.1 hn).2
    have h3 : tkB g A B own j = false := by
      cases hq : tkB g A B own j
      · rfl
      · obtain ⟨_, _, _, _, h3, _⟩ := tkB_iff.1 hq
        rw [h2] at h3; cases h3
    have h4 : j ≠ i := by rintro rfl; rw [hB] at h2; cases h2
    simp [offK, h1, h3, hj, h4]
  · have hr' : Rch g (butK A0 i) u w := hr.mono fun j hj => by
      obtain ⟨h1, h2⟩ := butK_ne.1 hj
      simp only [offK, Bool.and_eq_true] at h1
      exact butK_ne.2 ⟨h.sub h1.1, h2⟩
    rcases hg with hg | hg
    · exact (F.br i u w hg hA0).1 hB hr'
    · exact (F.br i w u hg hA0).1 hB hr'.symm
/-- What hangs behind such a bridge. -/
theorem tk_far (h : From g A0 B A k d) (F : Fus g A0 B) (ho : ∀ x, own x = true ↔ Rch g (nbK A0 B) k x) {i u w : Nat} (hg : g[i]? = some (u, w) ∨ g[i]? = some (w, u)) (hA : A i = true) (hB : B i = true) (hu : own u = true) :
    (∀ x, own x = true → ¬ Rch g (butK A0 i) w x) ∧ ∀ m p q, Tw g (butK A0 i) w m p q → A m = true ∧ tkB g A B own m = false ∧ ckB g A0 B own m = false := by
  have hA0 := h.sub hA
  have nbr : ¬ Rch g (butK A0 i) u w := by
    rcases hg with hg | hg
    · exact (F.br i u w hg hA0).1 hB
    · exact fun hr => (F.br i w u hg hA0).1 hB hr.symm
  have inN : ∀ {x}, Rch g (nbK A0 B) k x → Rch g (butK A0 i) k x := fun {x} hx => hx.mono fun m hm => by
    obtain ⟨h1, h2⟩ := nbK_iff.1 hm
    refine butK_ne.2 ⟨h1, ?_⟩
    rintro rfl
    rw [hB] at h2; cases h2
  have key : ∀ x, own x = true → ¬ Rch g (butK A0 i) w x := fun x hx hr =>
    nbr (((inN ((ho u).1 hu)).symm.trans (inN ((ho x).1 hx))).trans hr.symm)
  refine ⟨key, fun m p q hT => ⟨?_, ?_, ?_⟩⟩
  · cases hd : d with
    | none => rw [h.no hd]; exact (butK_ne.1 hT.2.1).1
    | some e =>
      obtain ⟨e1, hb, v, hv⟩ := h.so e hd
      rw [e1]
      refine butK_ne.2 ⟨(butK_ne.1 hT.2.1).1, ?_⟩
      rintro rfl
      have hk : Rch g (butK A0 i) w k := by
        rcases hv with hv | hv <;> (have := hv.symm.trans hT.1; cases this)
        · exact hT.2.2
        · exact hT.rb
      exact key k ((ho k).2 .refl) hk
  · cases hq : tkB g A B own m
    · rfl
    · obtain ⟨a, b, hg', _, _, hab⟩ := tkB_iff.1 hq
      have := hg'.symm.trans hT.1
      cases this
      rcases hab with hab | hab
      · exact (key _ hab hT.2.2).elim
      · exact (key _ hab hT.rb).elim
  · cases hq : ckB g A0 B own m
    · rfl
    · obtain ⟨a, b, hg', _, hab⟩ := ckB_iff.1 hq
      have := hg'.symm.trans hT.1
      cases this
      exact (key _ hab hT.2.2).elim
theorem tk_val (h : From g A0 B A k d) (F : Fus g A0 B) (ho : ∀ x, own x = true ↔ Rch g (nbK A0 B) k x) {i u w : Nat} (hg : g[i]? = some (u, w) ∨ g[i]? = some (w, u)) (hA : A i = true) (hB : B i = true) (hu : own u = true) :
    fV g (butK (offK A (tkB g A B own) i) i) (butK (offK (fun j => A j && !ckB g A0 B own j) (tkB g A B own) i) i) w = vS g (butK A0 i) w := by
  obtain ⟨key, far⟩ := tk_far h F ho hg hA hB hu
  have up : ∀ {x}, Rch g (butK A0 i) w x → Rch g (butK (offK A (tkB g A B own) i) i) w x := fun {x} hx => by
    induction hx with
    | refl => exact .refl
    | @fwd m p q hg hm hr ih =>
      obtain ⟨h1, h2, _⟩ := far m p q ⟨hg, hm, hr⟩
      exact .fwd hg (butK_ne.2 ⟨by simp [offK, h1, h2], (butK_ne.1 hm).2⟩) ih
    | @bwd m p q hg hm hr ih =>
      obtain ⟨h1, h2, _⟩ := far m p q ⟨hg, hm, .bwd hg hm hr⟩
      exact .bwd hg (butK_ne.2 ⟨by simp [offK, h1, h2], (butK_ne.1 hm).2⟩) ih
  have dn : ∀ {m}, butK (offK A (tkB g A B own) i) i m = true → butK A0 i m = true := fun {m} hm => by
    obtain ⟨h1, h2⟩ := butK_ne.1 hm
    simp only [offK, Bool.and_eq_true] at h1
    exact butK_ne.2 ⟨h.sub h1.1, h2⟩
  unfold vS
  refine fV_local (fun m p q => ?_) (fun m hc => ?_)
  · constructor
    · exact fun hT => ⟨hT.1, dn hT.2.1, hT.2.2.mono fun m hm => dn hm⟩
    · intro hT
      obtain ⟨h1, h2, _⟩ := far m p q hT
      exact ⟨hT.1, butK_ne.2 ⟨by simp [offK, h1, h2], (butK_ne.1 hT.2.1).2⟩, up hT.2.2⟩
  · obtain ⟨p, q, hT⟩ := hc
    have hT0 : Tw g (butK A0 i) w m p q := ⟨hT.1, dn hT.2.1, hT.2.2.mono fun m hm => dn hm⟩
    obtain ⟨h1, h2, h3⟩ := far m p q hT0
    rw [hT0.2.1]
    exact butK_ne.2 ⟨by simp [offK, h1, h2, h3], (butK_ne.1 hT0.2.1).2⟩
theorem tk_sz (h : From g A0 B A k d) (F : Fus g A0 B) (ho : ∀ x, own x = true ↔ Rch g (nbK A0 B) k x) {i u w : Nat} (hg : g[i]? = some (u, w) ∨ g[i]? = some (w, u)) (hA : A i = true) (hB : B i = true) (hu : own u = true) :
    sz g (butK A0 i) (butK A0 i) w < sz g A A k := by
  obtain ⟨key, far⟩ := tk_far h F ho hg hA hB hu
  have hku : Rch g A k u := ((ho u).1 hu).mono fun m hm => h.nb hm
  have hkw : Rch g A k w := by
    rcases hg with hg | hg
    · exact .fwd hg hA hku
    · exact .bwd hg hA hku
  have hci : cn g A k i := by
    rcases hg with hg | hg
    · exact ⟨u, w, hg, hA, hku⟩
    · exact ⟨w, u, hg, hA, hkw⟩
  have up : ∀ {x}, Rch g (butK A0 i) w x → Rch g A w x := fun {x} hx => by
    induction hx with
    | refl => exact .refl
    | @fwd m p q hg hm hr ih => exact .fwd hg (far m p q ⟨hg, hm, hr⟩).1 ih
    | @bwd m p q hg hm hr ih => exact .bwd hg (far m p q ⟨hg, hm, .bwd hg hm hr⟩).1 ih
  refine cnt_lt (e := i) (fun m _ hm => ?_) (cn_lt hci) (by simp [butK]) (by rw [hA, hgB_iff.2 hci]; rfl)
  simp only [Bool.and_eq_true, hgB_iff] at hm ⊢
  obtain ⟨_, p, q, hT⟩ := hm
  have := (far m p q hT).1
  exact ⟨this, p, q, hT.1, this, hkw.trans (up hT.2.2)⟩
theorem off_next {t : Nat → Bool} {i : Nat} (ht : t i = true) : offK A t (i + 1) = butK (offK A t i) i := by
  funext j
  by_cases e : j = i
  · subst e; simp [offK, butK, ht]
  · have h1 : decide (j < i + 1) = decide (j < i) := by simp; omega
    have h2 : (j != i) = true := by simp [e]
    simp only [offK, butK, h1, h2, Bool.and_true]
theorem off_same {t : Nat → Bool} {i : Nat} (ht : t i = false) : offK A t (i + 1) = offK A t i := by
  funext j
  by_cases e : j = i
  · subst e; simp [offK, ht]
  · have h1 : decide (j < i + 1) = decide (j < i) := by simp; omega
    simp only [offK, h1]
theorem off_zero {t : Nat → Bool} : offK A t 0 = A := by funext j; simp [offK]
/-- In the end nothing is left. -/
theorem tk_end (h : From g A0 B A k d) (F : Fus g A0 B) (ho : ∀ x, own x = true ↔ Rch g (nbK A0 B) k x) :
    fV g (offK A (tkB g A B own) g.length) (offK (fun j => A j && !ckB g A0 B own j) (tkB g A B own) g.length) k = 0 := by
  refine fV_zero ?_
  refine Classical.byContradiction fun hz => ?_
  have hS : ∀ j, offK (fun j => A j && !ckB g A0 B own j) (tkB g A B own) g.length j = true ↔ A j = true ∧ ckB g A0 B own j = false ∧ (j < g.length → tkB g A B own j = false) := fun j => by
    simp only [offK, Bool.and_eq_true, Bool.not_eq_true', Bool.and_eq_false_iff, decide_eq_false_iff_not]
    constructor
    · rintro ⟨⟨h1, h2⟩, h3⟩
      exact ⟨h1, h2, fun hl => h3.resolve_left fun q => q hl⟩
    · rintro ⟨h1, h2, h3⟩
      refine ⟨⟨h1, h2⟩, ?_⟩
      by_cases hl : j < g.length
      · exact .inr (h3 hl)
      · exact .inl hl
  obtain ⟨j, hjs, p, q, hJ⟩ : ∃ j, offK (fun j => A j && !ckB g A0 B own j) (tkB g A B own) g.length j = true ∧ cn g (offK A (tkB g A B own) g.length) k j := by
    refine Classical.byContradiction fun hno => hz ?_
    have h2 : sz g (offK A (tkB g A B own) g.length) (offK (fun j => A j && !ckB g A0 B own j) (tkB g A B own) g.length) k = cnt g.length (fun _ => false) := cnt_congr fun j _ => by
      cases hq : (offK (fun j => A j && !ckB g A0 B own j) (tkB g A B own) g.length j && hgB g (offK A (tkB g A B own) g.length) k j)
      · rfl
      · simp only [Bool.and_eq_true] at hq
        exact absurd ⟨j, hq.1, hgB_iff.1 hq.2⟩ hno
    rw [h2]
    have : ∀ n, cnt n (fun _ => false) = 0 := fun n => by induction n with
      | zero => rfl
      | succ n ih => simp [cnt, ih]
    exact this _
  obtain ⟨f, a, b, hsf, hAf, hgf, hway⟩ : ∃ f a b, offK (fun j => A j && !ckB g A0 B own j) (tkB g A B own) g.length f = true ∧ offK A (tkB g A B own) g.length f = true ∧ (g[f]? = some (a, b) ∨ g[f]? = some (b, a)) ∧ Rch g (fun j => offK A (tkB g A B own) g.length j && !offK (fun j => A j && !ckB g A0 B own j) (tkB g A B own) g.length j) k a := by
    rcases adj (S := offK (fun j => A j && !ckB g A0 B own j) (tkB g A B own) g.length) hJ.2.2 with h' | h'
    · exact ⟨j, p, q, hjs, hJ.2.1, .inl hJ.1, h'⟩
    · exact h'
  have hown : own a = true := by
    refine (ho a).2 (hway.mono fun m hm => ?_)
    simp only [Bool.and_eq_true, Bool.not_eq_true'] at hm
    have hmA : A m = true ∧ (m < g.length → tkB g A B own m = false) := by
      have := hm.1
      simp only [offK, Bool.and_eq_true, Bool.not_eq_true', Bool.and_eq_false_iff, decide_eq_false_iff_not] at this
      exact ⟨this.1, fun hl => this.2.resolve_left fun q => q hl⟩
    have hc : ckB g A0 B own m = true := by
      cases hq : ckB g A0 B own m
      · have := (hS m).2 ⟨hmA.1, hq, hmA.2⟩
        rw [hm.2] at this; cases this
      · rfl
    obtain ⟨_, _, _, hn, _⟩ := ckB_iff.1 hc
    exact hn
  obtain ⟨hA1, hc1, ht1⟩ := (hS f).1 hsf
  have hl : f < g.length := by rcases hgf with h' | h' <;> exact (List.getElem?_eq_some_iff.1 h').1
  have ht1 := ht1 hl
  cases hb : B f
  · have hn : nbK A0 B f = true := nbK_iff.2 ⟨h.sub hA1, hb⟩
    have : ckB g A0 B own f = true := by
      rcases hgf with h' | h'
      · exact ckB_iff.2 ⟨a, b, h', hn, hown⟩
      · exact ckB_iff.2 ⟨b, a, h', hn, (ho b).2 (.bwd h' hn ((ho a).1 hown))⟩
    rw [hc1] at this; cases this
  · have : tkB g A B own f = true := by
      rcases hgf with h' | h'
      · exact tkB_iff.2 ⟨a, b, h', hA1, hb, .inl hown⟩
      · exact tkB_iff.2 ⟨b, a, h', hA1, hb, .inr hown⟩
    rw [ht1] at this; cases this
end

end Go.Proofs.Ytobdpkkmkbafbaa
/-
  Green pictures: the value by fusion, walked.
-/
namespace Go.Proofs.Ytobdpkkmkbafbaa
open Go K
set_option linter.unusedSimpArgs false
set_option linter.unusedVariables false
set_option maxHeartbeats 3200000
set_option maxRecDepth 8000

def brSet (g : GTw) (set : Nat) : Nat := brPass g set 0 g 0
theorem brPass_bit (g : GTw) (set : Nat) : ∀ (r : GTw) (i out x : Nat), (brPass g set i r out).testBit x = (out.testBit x || (decide (i ≤ x) && (match r[x - i]? with | some t => isBr g set x t | none => false)))
  | [], i, out, x => by simp [brPass]
  | t :: r, i, out, x => by
    simp only [brPass]
    rw [brPass_bit g set r]
    have h0 : (if isBr g set i t = true then out ||| 1 <<< i else out).testBit x = (out.testBit x || (decide (i = x) && isBr g set i t)) := by
      cases hb : isBr g set i t
      · simp
      · rw [if_pos rfl, Nat.testBit_or, bit_one]; simp
    rw [h0]
    rcases Nat.lt_trichotomy i x with h | h | h
    · have e1 : decide (i = x) = false := by simp; omega
      have e2 : decide (i + 1 ≤ x) = true := by simp; omega
      have e3 : decide (i ≤ x) = true := by simp; omega
      have e4 : x - i = (x - (i + 1)) + 1 := by omega
      rw [e1, e2, e3, e4]; simp
    · subst h
      have e2 : decide (i + 1 ≤ i) = false := by simp
      rw [e2]; simp
    · have e1 : decide (i = x) = false := by simp; omega
      have e2 : decide (i + 1 ≤ x) = false := by simp; omega
      have e3 : decide (i ≤ x) = false := by simp; omega
      rw [e1, e2, e3]; simp
theorem brSet_bit (g : GTw) (set x : Nat) : (brSet g set).testBit x = match g[x]? with | some t => isBr g set x t | none => false := by
  unfold brSet
  rw [brPass_bit]; simp
theorem brSet_lt {g : GTw} (hg : Pic g) (set : Nat) : brSet g set < 2 ^ 14 := by
  refine Nat.lt_pow_two_of_testBit _ fun i hi => ?_
  rw [brSet_bit, List.getElem?_eq_none (by have := hg.1; omega)]
theorem isBr_iff {g : GTw} {set i a b : Nat} (hs : set < 2 ^ 14) : isBr g set i (a, b) = true ↔ set.testBit i = true ∧ ¬ Rch g (butK set.testBit i) a b := by
  unfold isBr
  rw [Bool.and_eq_true, Bool.not_eq_true', ← Bool.not_eq_true]
  have e : (andNot set (1 <<< i)).testBit = butK set.testBit i := funext fun j => andNot_one hs j
  rw [e, hRun_is (Nat.le_refl _)]
theorem br_fus {g : GTw} {set : Nat} (hs : set < 2 ^ 14) : Fus g set.testBit (brSet g set).testBit := by
  refine ⟨fun j hj => ?_, fun j a b hg hA => ?_⟩
  · rw [brSet_bit] at hj
    cases hg : g[j]? with
    | none => rw [hg] at hj; cases hj
    | some t => rw [hg] at hj; exact ((isBr_iff (a := t.1) (b := t.2) hs).1 hj).1
  · rw [brSet_bit, hg]
    show isBr g set j (a, b) = true ↔ _
    rw [isBr_iff hs]
    exact ⟨fun h => h.2, fun h => ⟨hA, h⟩⟩
theorem bits_xor {a b : Nat} (ha : a < 2 ^ 32) (hb : b < 2 ^ 32) : Go.bits .xor .i64 a b = ((a ^^^ b : Nat) : Int) := by
  have h : a ^^^ b < 2 ^ 32 := Nat.xor_lt_two_pow ha hb
  show IntKind.i64.wrap ((BitVec.ofInt 64 (a : Int) ^^^ BitVec.ofInt 64 (b : Int)).toNat : Int) = _
  rw [bv_nat, bv_nat, BitVec.toNat_xor, BitVec.toNat_ofNat, BitVec.toNat_ofNat, Nat.mod_eq_of_lt (by omega), Nat.mod_eq_of_lt (by omega)]
  exact s64_id (by omega) (by omega)
def dI : Option Nat → Int
  | none => -1
  | some i => (i : Int)
section
variable {g : GTw} {A S CK TK : Nat → Bool} {k n out T v : Nat}
theorem inv_skip (hC : CK n = false) (hT : TK n = false) (h : out ^^^ ((pr n CK).toNat ^^^ fV g (offK A TK n) (offK S TK n) k) = T) : out ^^^ ((pr (n + 1) CK).toNat ^^^ fV g (offK A TK (n + 1)) (offK S TK (n + 1)) k) = T := by
  rw [off_same hT, off_same hT]
  simp only [pr, hC, Bool.xor_false]; exact h
theorem inv_ck (hC : CK n = true) (hT : TK n = false) (h : out ^^^ ((pr n CK).toNat ^^^ fV g (offK A TK n) (offK S TK n) k) = T) : (out ^^^ 1) ^^^ ((pr (n + 1) CK).toNat ^^^ fV g (offK A TK (n + 1)) (offK S TK (n + 1)) k) = T := by
  rw [off_same hT, off_same hT, ← h]
  have e : (pr (n + 1) CK).toNat = 1 ^^^ (pr n CK).toNat := by simp only [pr, hC]; cases pr n CK <;> rfl
  rw [e, Nat.xor_assoc, ← Nat.xor_assoc 1, ← Nat.xor_assoc 1, Nat.xor_self, Nat.zero_xor]
theorem inv_tk (hC : CK n = false) (hv : fV g (offK A TK n) (offK S TK n) k = fV g (offK A TK (n + 1)) (offK S TK (n + 1)) k ^^^ (1 + v)) (h : out ^^^ ((pr n CK).toNat ^^^ fV g (offK A TK n) (offK S TK n) k) = T) : (out ^^^ (v + 1)) ^^^ ((pr (n + 1) CK).toNat ^^^ fV g (offK A TK (n + 1)) (offK S TK (n + 1)) k) = T := by
  rw [← h, hv]
  simp only [pr, hC, Bool.xor_false]
  rw [Nat.xor_assoc, Nat.add_comm v 1]
  congr 1
  rw [Nat.xor_comm (1 + v), Nat.xor_assoc]
end
structure FuS where
  d : GTw
  r : GTw
  out : Nat
  X : List AObj
theorem fused_ok (g : GTw) (hg : Pic g) (set : Nat) (hs : set < 2 ^ 14) : ∀ (f k : Nat) (d : Option Nat) (A : Nat → Bool), From g set.testBit (brSet g set).testBit A k d → k ≤ 12 → sz g A A k < f →
    Ct Try.prog 30 [.sl false (g.map twE), .int .u64 set, .int .u64 (brSet g set : Nat), .int .i64 k, .int .i64 (dI d)] [] (.int .i64 (vS g A k : Nat)) []
  | 0, k, d, A, _, _, h => absurd h (Nat.not_lt_zero _)
  | f + 1, k, d, A, hF, hk, hf => by
    have hgl := hg.1
    have hpu := twE_pure g
    have F := br_fus (g := g) hs
    have hbl := brSet_lt hg set
    have hAN := bits_andNot (a := set) (b := brSet g set) (by omega)
    have hanl : andNot set (brSet g set) < 2 ^ 14 := by
      refine Nat.lt_pow_two_of_testBit _ fun i hi => ?_
      rw [andNot_bit (by omega), Nat.testBit_lt_two_pow (Nat.lt_of_lt_of_le hs (Nat.pow_le_pow_right (by omega) hi))]; rfl
    have hnb : (andNot set (brSet g set)).testBit = nbK set.testBit (brSet g set).testBit := funext fun j => by rw [andNot_bit (by omega)]; rfl
    have ho : ∀ x, (hRun g (andNot set (brSet g set)).testBit g.length (1 <<< k)).testBit x = true ↔ Rch g (nbK set.testBit (brSet g set).testBit) k x := fun x => by
      rw [hRun_is (Nat.le_refl _), hnb]
    have hol := hRun_lt hg (keep := (andNot set (brSet g set)).testBit) (k := g.length) (shl_lt hk)
    have hblk : vS g A k = (pr g.length (ckB g set.testBit (brSet g set).testBit (hRun g (andNot set (brSet g set)).testBit g.length (1 <<< k)).testBit)).toNat ^^^ fV g A (fun j => A j && !ckB g set.testBit (brSet g set).testBit (hRun g (andNot set (brSet g set)).testBit g.length (1 <<< k)).testBit j) k :=
      fV_block fun j hj => ck_Nb hF F ho hj
    refine Ct.by_ hmix [] Try.func30 rfl ?_
    simp only [run0, run1, run2, run3, run4, run5, run6, run7, run8, run9, run10, run11, run12, run13, run14, run15, run16, run17, run18, run19, run20, run21, run22, reduceCtorEq, Nat.reduceEqDiff, Nat.reduceAdd, Nat.reduceSub, Nat.reduceLeDiff, indexAddrA, indexRefA, appendA, strA, Nat.reduceMul, Nat.zero_mul, Nat.reduceMod, Int.reduceEq, Int.reduceLT, Int.reduceLE, Nat.reduceLT, Nat.lt_irrefl, Nat.reduceBEq, tys0, tys1, tys2, tys3, tys4, tys5, tys6, tys7, tys8, tys9, tys10, Try.ntmps30, Try.results30, hAN]
    refine RunL.callp rfl rfl ok_f51 (hung_ok g (andNot set (brSet g set)) k hg hanl hk) (by simp only [pureL, pureB, hpu, Bool.and_self]) rfl ?_
    generalize hRun g (andNot set (brSet g set)).testBit g.length (1 <<< k) = own at *
    generalize hCK : ckB g set.testBit (brSet g set).testBit own.testBit = CK at *
    generalize hTK : tkB g A (brSet g set).testBit own.testBit = TK at *
    have hend := tk_end hF F ho
    rw [hCK, hTK] at hend
    simp only [run0, run1, run2, run3, run4, run5, run6, run7, run8, run9, run10, run11, run12, run13, run14, run15, run16, run17, run18, run19, run20, run21, run22, reduceCtorEq, Nat.reduceEqDiff, Nat.reduceAdd, Nat.reduceSub, Nat.reduceLeDiff, indexAddrA, indexRefA, appendA, strA, Nat.reduceMul, Nat.zero_mul, Nat.reduceMod, Int.reduceEq, Int.reduceLT, Int.reduceLE, Nat.reduceLT, Nat.lt_irrefl, Nat.reduceBEq, tys0, tys1, tys2, tys3, tys4, tys5, tys6, tys7, tys8, tys9, tys10, Try.ntmps30, Try.results30, List.length_map]
    refine AWp.loop_inv (ι := FuS) (fun p => ⟨[.sl false (g.map twE), .int .u64 set, .int .u64 (brSet g set : Nat), .junk, .int .i64 (dI d), .junk, .junk, .junk, .junk, .junk, .junk, .int .u64 own, .int .i64 p.out, .junk, .junk, .junk, .junk, .junk, .junk, .junk, .junk, .junk, .junk, .sl false (g.map twE), .int .i64 g.length, .int .i64 p.d.length, .junk, .junk, .junk, .junk, .junk, .junk, .junk, .junk, .junk, .junk, .junk, .junk, .junk, .junk, .junk, .junk, .junk, .junk, .junk, .junk, .junk, .junk, .junk, .junk, .junk, .junk, .junk, .junk, .junk, .junk, .junk, .junk, .junk, .junk, .junk, .junk, .junk, .junk, .junk, .junk, .junk, .junk, .junk, .junk, .junk, .junk, .junk, .junk, .junk, .junk, .junk, .junk, .junk, .junk, .junk, .junk, .junk, .junk, .junk, .junk, .junk, .junk, .junk, .junk, .junk, .junk, .junk, .junk, .junk, .junk, .junk, .junk, .junk, .junk, .junk, .junk, .junk], p.X⟩)
      (fun p => g = p.d ++ p.r ∧ p.out < 2 ^ 4 ∧ p.out ^^^ ((pr p.d.length CK).toNat ^^^ fV g (offK A TK p.d.length) (offK (fun j => A j && !CK j) TK p.d.length) k) = fV g A (fun j => A j && !CK j) k) (fun p => p.r.length) ⟨[], g, 0, []⟩ ⟨rfl, by simp, by simp [off_zero, pr]⟩ ⟨by simp only [List.length_nil, Int.natCast_zero]; repeat constructor, rfl⟩ ?_
    rintro ⟨dd, r, out, Y⟩ ⟨ha, hout, hinv⟩
    refine W.sound hmix (E := []) ?_
    simp only at ha hout hinv
    have hda : dd.length + r.length = g.length := by rw [ha, List.length_append]
    cases r with
    | nil =>
      have f1 : ¬ ((dd.length : Int) < (g.length : Int)) := by simp at hda; omega
      simp only [run0, run1, run2, run3, run4, run5, run6, run7, run8, run9, run10, run11, run12, run13, run14, run15, run16, run17, run18, run19, run20, run21, run22, reduceCtorEq, Nat.reduceEqDiff, Nat.reduceAdd, Nat.reduceSub, Nat.reduceLeDiff, indexAddrA, indexRefA, appendA, strA, Nat.reduceMul, Nat.zero_mul, Nat.reduceMod, Int.reduceEq, Int.reduceLT, Int.reduceLE, Nat.reduceLT, Nat.lt_irrefl, Nat.reduceBEq, tys0, tys1, tys2, tys3, tys4, tys5, tys6, tys7, tys8, tys9, tys10, Try.ntmps30, Try.results30, f1]
      refine Fin.eq ?_ rfl
      have hdl : dd.length = g.length := by simp at hda; omega
      rw [hdl, hend, Nat.xor_zero] at hinv
      rw [hblk, ← hinv, ← Nat.xor_assoc, Nat.xor_comm _ out, Nat.xor_assoc, Nat.xor_self, Nat.xor_zero]
    | cons t r =>
      obtain ⟨a, b⟩ := t
      simp only [List.length_cons] at hda
      have f1 : (dd.length : Int) < (g.length : Int) := by omega
      have f2 : (g.map twE)[dd.length]? = some (.agg [.int .i64 (a : Int), .int .i64 (b : Int)]) := by rw [ha]; simp [twE]
      have f5 : IntKind.i64.wrap ((dd.length : Int) + 1) = ((dd ++ [(a, b)]).length : Int) := by rw [s64_id (by omega) (by omega)]; simp
      have hgi : g[dd.length]? = some (a, b) := by rw [ha]; simp
      obtain ⟨ha1, hb1⟩ := hg.2 (a, b) (by rw [ha]; simp)
      have b1 := bit_of set dd.length (by omega)
      have b2 := bit_of (brSet g set) dd.length (by omega)
      have b3 := bit_of own a (by omega)
      have b4 := bit_of own b (by omega)
      have z1 : ((1 : Int) == 1) = true := rfl
      have z0 : ((0 : Int) == 1) = false := rfl
      have z2 : ((1 : Int) == 0) = false := rfl
      have z3 : ((0 : Int) == 0) = true := rfl
      have hde : ((dd.length : Int) == dI d) = decide (d = some dd.length) := by
        cases d with
        | none => simp [dI]
        | some i => rw [Bool.eq_iff_iff]; simp [dI]; omega
      have hAn : A dd.length = (set.testBit dd.length && !decide (d = some dd.length)) := by
        cases hd : d with
        | none => rw [hF.no hd]; simp
        | some i =>
          rw [(hF.so i hd).1]
          simp only [butK]
          congr 1
          by_cases e : dd.length = i
          · subst e; simp
          · have e2 : ¬ i = dd.length := fun h => e h.symm
            simp [e, e2]
      have hCn : CK dd.length = ((set.testBit dd.length && !(brSet g set).testBit dd.length) && own.testBit a) := by
        rw [← hCK]; unfold ckB nbK; rw [hgi]
      have hTn : TK dd.length = ((A dd.length && (brSet g set).testBit dd.length) && (own.testBit a || own.testBit b)) := by
        rw [← hTK]; unfold tkB; rw [hgi]
      have hlen : (dd ++ [(a, b)]).length = dd.length + 1 := by simp
      have peel : ∀ u w : Nat, (g[dd.length]? = some (u, w) ∨ g[dd.length]? = some (w, u)) → A dd.length = true → (brSet g set).testBit dd.length = true → own.testBit u = true → (own.testBit a || own.testBit b) = true → CK dd.length = false →
          fV g (offK A TK dd.length) (offK (fun j => A j && !CK j) TK dd.length) k = fV g (offK A TK (dd.length + 1)) (offK (fun j => A j && !CK j) TK (dd.length + 1)) k ^^^ (1 + vS g (butK set.testBit dd.length) w) := fun u w h1 h2 h3 h4 h5 h6 => by
        have P := tk_peel hF F ho h1 h2 h3 h4
        have V := tk_val hF F ho h1 h2 h3 h4
        rw [hCK, hTK] at P V
        have hp := fV_peel _ (Nat.le_refl _) P
        rw [if_pos (by simp [offK, h2, h6]), V] at hp
        have ht : TK dd.length = true := by rw [hTn, h2, h3, h5]; rfl
        rw [off_next ht, off_next ht]
        exact hp
      have child : ∀ u w : Nat, w ≤ 12 → (g[dd.length]? = some (u, w) ∨ g[dd.length]? = some (w, u)) → A dd.length = true → (brSet g set).testBit dd.length = true → own.testBit u = true →
          Ct Try.prog 30 [.sl false (g.map twE), .int .u64 set, .int .u64 (brSet g set : Nat), .int .i64 w, .int .i64 dd.length] [] (.int .i64 (vS g (butK set.testBit dd.length) w : Nat)) [] := fun u w hw h1 h2 h3 h4 => by
        have hsz := tk_sz hF F ho h1 h2 h3 h4
        exact fused_ok g hg set hs f w (some dd.length) (butK set.testBit dd.length) ⟨fun h => absurd h (by simp), fun i hi => by
          have hi' : dd.length = i := by simpa using hi
          subst hi'
          exact ⟨rfl, h3, u, h1.symm⟩⟩ hw (by omega)
      have vle : ∀ w, vS g (butK set.testBit dd.length) w ≤ 14 := fun w => by have := fV_len g (butK set.testBit dd.length) (butK set.testBit dd.length) w; unfold vS; omega
      cases c1 : set.testBit dd.length
      · rw [c1] at b1 hCn hAn
        have hA : A dd.length = false := by rw [hAn]; rfl
        have k1 : CK dd.length = false := by rw [hCn]; rfl
        have k2 : TK dd.length = false := by rw [hTn, hA]; rfl
        simp only [run0, run1, run2, run3, run4, run5, run6, run7, run8, run9, run10, run11, run12, run13, run14, run15, run16, run17, run18, run19, run20, run21, run22, reduceCtorEq, Nat.reduceEqDiff, Nat.reduceAdd, Nat.reduceSub, Nat.reduceLeDiff, indexAddrA, indexRefA, appendA, strA, Nat.reduceMul, Nat.zero_mul, Nat.reduceMod, Int.reduceEq, Int.reduceLT, Int.reduceLE, Nat.reduceLT, Nat.lt_irrefl, Nat.reduceBEq, tys0, tys1, tys2, tys3, tys4, tys5, tys6, tys7, tys8, tys9, tys10, Try.ntmps30, Try.results30, f1, f2, f5, b1, Int.toNat_natCast, Int.natCast_nonneg, Bool.toNat_false, Bool.toNat_true, Int.natCast_zero, Int.natCast_one, z0, z1, z2, z3]
        exact ⟨⟨dd ++ [(a, b)], r, out, _⟩, ⟨by rw [ha]; simp, hout, by simp only [hlen]; exact inv_skip k1 k2 hinv⟩, by simp, by simp only [List.length_append, List.length_cons, List.length_nil, Nat.zero_add]; repeat constructor, rfl⟩
      rw [c1] at b1 hCn hAn
      by_cases hd : d = some dd.length
      · have hde' : ((dd.length : Int) == dI d) = true := by rw [hde]; simp [hd]
        have hA : A dd.length = false := by rw [hAn]; simp [hd]
        have hB : (brSet g set).testBit dd.length = true := (hF.so _ hd).2.1
        have k1 : CK dd.length = false := by rw [hCn, hB]; rfl
        have k2 : TK dd.length = false := by rw [hTn, hA]; rfl
        simp only [run0, run1, run2, run3, run4, run5, run6, run7, run8, run9, run10, run11, run12, run13, run14, run15, run16, run17, run18, run19, run20, run21, run22, reduceCtorEq, Nat.reduceEqDiff, Nat.reduceAdd, Nat.reduceSub, Nat.reduceLeDiff, indexAddrA, indexRefA, appendA, strA, Nat.reduceMul, Nat.zero_mul, Nat.reduceMod, Int.reduceEq, Int.reduceLT, Int.reduceLE, Nat.reduceLT, Nat.lt_irrefl, Nat.reduceBEq, tys0, tys1, tys2, tys3, tys4, tys5, tys6, tys7, tys8, tys9, tys10, Try.ntmps30, Try.results30, f1, f2, f5, b1, hde', Int.toNat_natCast, Int.natCast_nonneg, Bool.toNat_false, Bool.toNat_true, Int.natCast_zero, Int.natCast_one, z0, z1, z2, z3]
        exact ⟨⟨dd ++ [(a, b)], r, out, _⟩, ⟨by rw [ha]; simp, hout, by simp only [hlen]; exact inv_skip k1 k2 hinv⟩, by simp, by simp only [List.length_append, List.length_cons, List.length_nil, Nat.zero_add]; repeat constructor, rfl⟩
      have hde' : ((dd.length : Int) == dI d) = false := by rw [hde]; simp [hd]
      have hA : A dd.length = true := by rw [hAn]; simp [hd]
      have tn : ∀ x : Bool, ((x.toNat : Int) == 1) = x := fun x => by cases x <;> rfl
      simp only [run0, run1, run2, run3, run4, run5, run6, run7, run8, run9, run10, run11, run12, run13, run14, run15, run16, run17, run18, run19, run20, run21, run22, reduceCtorEq, Nat.reduceEqDiff, Nat.reduceAdd, Nat.reduceSub, Nat.reduceLeDiff, indexAddrA, indexRefA, appendA, strA, Nat.reduceMul, Nat.zero_mul, Nat.reduceMod, Int.reduceEq, Int.reduceLT, Int.reduceLE, Nat.reduceLT, Nat.lt_irrefl, Nat.reduceBEq, tys0, tys1, tys2, tys3, tys4, tys5, tys6, tys7, tys8, tys9, tys10, Try.ntmps30, Try.results30, f1, f2, b1, hde', Int.toNat_natCast, Int.natCast_nonneg, Bool.toNat_true, Int.natCast_one, z2]
      refine ⟨by kernel_rfl, ?_⟩
      simp only [run0, run1, run2, run3, run4, run5, run6, run7, run8, run9, run10, run11, run12, run13, run14, run15, run16, run17, run18, run19, run20, run21, run22, reduceCtorEq, Nat.reduceEqDiff, Nat.reduceAdd, Nat.reduceSub, Nat.reduceLeDiff, indexAddrA, indexRefA, appendA, strA, Nat.reduceMul, Nat.zero_mul, Nat.reduceMod, Int.reduceEq, Int.reduceLT, Int.reduceLE, Nat.reduceLT, Nat.lt_irrefl, Nat.reduceBEq, tys0, tys1, tys2, tys3, tys4, tys5, tys6, tys7, tys8, tys9, tys10, Try.ntmps30, Try.results30, b3, b4, tn, Int.toNat_natCast, Int.natCast_nonneg]
      cases c2 : (brSet g set).testBit dd.length
      · rw [c2] at b2 hCn hTn
        have k2 : TK dd.length = false := by rw [hTn]; simp
        simp only [run0, run1, run2, run3, run4, run5, run6, run7, run8, run9, run10, run11, run12, run13, run14, run15, run16, run17, run18, run19, run20, run21, run22, reduceCtorEq, Nat.reduceEqDiff, Nat.reduceAdd, Nat.reduceSub, Nat.reduceLeDiff, indexAddrA, indexRefA, appendA, strA, Nat.reduceMul, Nat.zero_mul, Nat.reduceMod, Int.reduceEq, Int.reduceLT, Int.reduceLE, Nat.reduceLT, Nat.lt_irrefl, Nat.reduceBEq, tys0, tys1, tys2, tys3, tys4, tys5, tys6, tys7, tys8, tys9, tys10, Try.ntmps30, Try.results30, b2, Bool.toNat_false, Int.natCast_zero, z3]
        cases c3 : own.testBit a
        · rw [c3] at hCn
          have k1 : CK dd.length = false := by rw [hCn]; simp
          simp only [run0, run1, run2, run3, run4, run5, run6, run7, run8, run9, run10, run11, run12, run13, run14, run15, run16, run17, run18, run19, run20, run21, run22, reduceCtorEq, Nat.reduceEqDiff, Nat.reduceAdd, Nat.reduceSub, Nat.reduceLeDiff, indexAddrA, indexRefA, appendA, strA, Nat.reduceMul, Nat.zero_mul, Nat.reduceMod, Int.reduceEq, Int.reduceLT, Int.reduceLE, Nat.reduceLT, Nat.lt_irrefl, Nat.reduceBEq, tys0, tys1, tys2, tys3, tys4, tys5, tys6, tys7, tys8, tys9, tys10, Try.ntmps30, Try.results30, b2, Bool.toNat_false, Int.natCast_zero, z0, Int.toNat_natCast, Int.natCast_nonneg, f5]
          exact ⟨⟨dd ++ [(a, b)], r, out, _⟩, ⟨by rw [ha]; simp, hout, by simp only [hlen]; exact inv_skip k1 k2 hinv⟩, by simp, by simp only [List.length_append, List.length_cons, List.length_nil, Nat.zero_add]; repeat constructor, rfl⟩
        · rw [c3] at hCn
          have k1 : CK dd.length = true := by rw [hCn]; simp
          have hx := bits_xor (a := out) (b := 1) (by omega) (by omega)
          rw [Int.natCast_one] at hx
          simp only [run0, run1, run2, run3, run4, run5, run6, run7, run8, run9, run10, run11, run12, run13, run14, run15, run16, run17, run18, run19, run20, run21, run22, reduceCtorEq, Nat.reduceEqDiff, Nat.reduceAdd, Nat.reduceSub, Nat.reduceLeDiff, indexAddrA, indexRefA, appendA, strA, Nat.reduceMul, Nat.zero_mul, Nat.reduceMod, Int.reduceEq, Int.reduceLT, Int.reduceLE, Nat.reduceLT, Nat.lt_irrefl, Nat.reduceBEq, tys0, tys1, tys2, tys3, tys4, tys5, tys6, tys7, tys8, tys9, tys10, Try.ntmps30, Try.results30, hx, f5]
          exact ⟨⟨dd ++ [(a, b)], r, out ^^^ 1, _⟩, ⟨by rw [ha]; simp, Nat.xor_lt_two_pow hout (by omega), by simp only [hlen]; exact inv_ck k1 k2 hinv⟩, by simp, by simp only [List.length_append, List.length_cons, List.length_nil, Nat.zero_add]; repeat constructor, rfl⟩
      · rw [c2] at b2 hCn
        have k1 : CK dd.length = false := by rw [hCn]; simp
        simp only [run0, run1, run2, run3, run4, run5, run6, run7, run8, run9, run10, run11, run12, run13, run14, run15, run16, run17, run18, run19, run20, run21, run22, reduceCtorEq, Nat.reduceEqDiff, Nat.reduceAdd, Nat.reduceSub, Nat.reduceLeDiff, indexAddrA, indexRefA, appendA, strA, Nat.reduceMul, Nat.zero_mul, Nat.reduceMod, Int.reduceEq, Int.reduceLT, Int.reduceLE, Nat.reduceLT, Nat.lt_irrefl, Nat.reduceBEq, tys0, tys1, tys2, tys3, tys4, tys5, tys6, tys7, tys8, tys9, tys10, Try.ntmps30, Try.results30, b2, Bool.toNat_true, Int.natCast_one, z1, z2, Int.toNat_natCast, Int.natCast_nonneg]
        cases c3 : own.testBit a
        · simp only [run0, run1, run2, run3, run4, run5, run6, run7, run8, run9, run10, run11, run12, run13, run14, run15, run16, run17, run18, run19, run20, run21, run22, reduceCtorEq, Nat.reduceEqDiff, Nat.reduceAdd, Nat.reduceSub, Nat.reduceLeDiff, indexAddrA, indexRefA, appendA, strA, Nat.reduceMul, Nat.zero_mul, Nat.reduceMod, Int.reduceEq, Int.reduceLT, Int.reduceLE, Nat.reduceLT, Nat.lt_irrefl, Nat.reduceBEq, tys0, tys1, tys2, tys3, tys4, tys5, tys6, tys7, tys8, tys9, tys10, Try.ntmps30, Try.results30, b2, Bool.toNat_true, Int.natCast_one, z1, z2, Int.toNat_natCast, Int.natCast_nonneg]
          cases c4 : own.testBit b
          · have k2 : TK dd.length = false := by rw [hTn, c3, c4]; simp
            simp only [run0, run1, run2, run3, run4, run5, run6, run7, run8, run9, run10, run11, run12, run13, run14, run15, run16, run17, run18, run19, run20, run21, run22, reduceCtorEq, Nat.reduceEqDiff, Nat.reduceAdd, Nat.reduceSub, Nat.reduceLeDiff, indexAddrA, indexRefA, appendA, strA, Nat.reduceMul, Nat.zero_mul, Nat.reduceMod, Int.reduceEq, Int.reduceLT, Int.reduceLE, Nat.reduceLT, Nat.lt_irrefl, Nat.reduceBEq, tys0, tys1, tys2, tys3, tys4, tys5, tys6, tys7, tys8, tys9, tys10, Try.ntmps30, Try.results30, f5]
            exact ⟨⟨dd ++ [(a, b)], r, out, _⟩, ⟨by rw [ha]; simp, hout, by simp only [hlen]; exact inv_skip k1 k2 hinv⟩, by simp, by simp only [List.length_append, List.length_cons, List.length_nil, Nat.zero_add]; repeat constructor, rfl⟩
          · have hp := peel b a (.inr hgi) hA c2 c4 (by rw [c4]; simp) k1
            have hc := child b a ha1 (.inr hgi) hA c2 c4
            have hl := vle a
            generalize vS g (butK set.testBit dd.length) a = v at *
            have hv1 : IntKind.i64.wrap ((v : Int) + 1) = ((v + 1 : Nat) : Int) := by rw [s64_id (by omega) (by omega)]; simp
            have hx := bits_xor (a := out) (b := v + 1) (by omega) (by omega)
            simp only [run0, run1, run2, run3, run4, run5, run6, run7, run8, run9, run10, run11, run12, run13, run14, run15, run16, run17, run18, run19, run20, run21, run22, reduceCtorEq, Nat.reduceEqDiff, Nat.reduceAdd, Nat.reduceSub, Nat.reduceLeDiff, indexAddrA, indexRefA, appendA, strA, Nat.reduceMul, Nat.zero_mul, Nat.reduceMod, Int.reduceEq, Int.reduceLT, Int.reduceLE, Nat.reduceLT, Nat.lt_irrefl, Nat.reduceBEq, tys0, tys1, tys2, tys3, tys4, tys5, tys6, tys7, tys8, tys9, tys10, Try.ntmps30, Try.results30]
            refine RunL.callp rfl rfl ok_f30 hc (by simp only [pureL, pureB, hpu, Bool.and_self]) rfl ?_
            simp only [run0, run1, run2, run3, run4, run5, run6, run7, run8, run9, run10, run11, run12, run13, run14, run15, run16, run17, run18, run19, run20, run21, run22, reduceCtorEq, Nat.reduceEqDiff, Nat.reduceAdd, Nat.reduceSub, Nat.reduceLeDiff, indexAddrA, indexRefA, appendA, strA, Nat.reduceMul, Nat.zero_mul, Nat.reduceMod, Int.reduceEq, Int.reduceLT, Int.reduceLE, Nat.reduceLT, Nat.lt_irrefl, Nat.reduceBEq, tys0, tys1, tys2, tys3, tys4, tys5, tys6, tys7, tys8, tys9, tys10, Try.ntmps30, Try.results30, hv1, hx, f5]
            exact ⟨⟨dd ++ [(a, b)], r, out ^^^ (v + 1), _⟩, ⟨by rw [ha]; simp, Nat.xor_lt_two_pow hout (by omega), by simp only [hlen]; exact inv_tk k1 hp hinv⟩, by simp, by simp only [List.length_append, List.length_cons, List.length_nil, Nat.zero_add]; repeat constructor, rfl⟩
        · have hp := peel a b (.inl hgi) hA c2 c3 (by rw [c3]; simp) k1
          have hc := child a b hb1 (.inl hgi) hA c2 c3
          have hl := vle b
          generalize vS g (butK set.testBit dd.length) b = v at *
          have hv1 : IntKind.i64.wrap ((v : Int) + 1) = ((v + 1 : Nat) : Int) := by rw [s64_id (by omega) (by omega)]; simp
          have hx := bits_xor (a := out) (b := v + 1) (by omega) (by omega)
          simp only [run0, run1, run2, run3, run4, run5, run6, run7, run8, run9, run10, run11, run12, run13, run14, run15, run16, run17, run18, run19, run20, run21, run22, reduceCtorEq, Nat.reduceEqDiff, Nat.reduceAdd, Nat.reduceSub, Nat.reduceLeDiff, indexAddrA, indexRefA, appendA, strA, Nat.reduceMul, Nat.zero_mul, Nat.reduceMod, Int.reduceEq, Int.reduceLT, Int.reduceLE, Nat.reduceLT, Nat.lt_irrefl, Nat.reduceBEq, tys0, tys1, tys2, tys3, tys4, tys5, tys6, tys7, tys8, tys9, tys10, Try.ntmps30, Try.results30]
          refine RunL.callp rfl rfl ok_f30 hc (by simp only [pureL, pureB, hpu, Bool.and_self]) rfl ?_
          simp only [run0, run1, run2, run3, run4, run5, run6, run7, run8, run9, run10, run11, run12, run13, run14, run15, run16, run17, run18, run19, run20, run21, run22, reduceCtorEq, Nat.reduceEqDiff, Nat.reduceAdd, Nat.reduceSub, Nat.reduceLeDiff, indexAddrA, indexRefA, appendA, strA, Nat.reduceMul, Nat.zero_mul, Nat.reduceMod, Int.reduceEq, Int.reduceLT, Int.reduceLE, Nat.reduceLT, Nat.lt_irrefl, Nat.reduceBEq, tys0, tys1, tys2, tys3, tys4, tys5, tys6, tys7, tys8, tys9, tys10, Try.ntmps30, Try.results30, hv1, hx, f5]
          exact ⟨⟨dd ++ [(a, b)], r, out ^^^ (v + 1), _⟩, ⟨by rw [ha]; simp, Nat.xor_lt_two_pow hout (by omega), by simp only [hlen]; exact inv_tk k1 hp hinv⟩, by simp, by simp only [List.length_append, List.length_cons, List.length_nil, Nat.zero_add]; repeat constructor, rfl⟩

end Go.Proofs.Ytobdpkkmkbafbaa
/-
  The draws of green pictures.
-/
namespace Go.Proofs.Ytobdpkkmkbafbaa
open Go K
set_option linter.unusedSimpArgs false
set_option linter.unusedVariables false
set_option maxHeartbeats 1600000
set_option maxRecDepth 8000

abbrev ints (l : List Int) : List AV := l.map (AV.int .i64)
theorem i64Z {x : Int} (h1 : -9223372036854775808 ≤ x) (h2 : x ≤ 9223372036854775807) : IntKind.i64.wrap x = x := s64_id h1 (by omega)
def bytesV (l : List Int) : List AV := l.map (AV.int .u8)
def bytesOk (l : List Int) : Prop := l.length ≤ 1048576 ∧ ∀ b ∈ l, 0 ≤ b ∧ b ≤ 255
def curB (code : List Int) (p seed : Int) : AObj := .box 44 [.sl false (bytesV code), .int .i64 p, .int .u64 seed]
def nextS (seed b : Int) : Int := IntKind.u64.wrap (IntKind.u64.wrap (IntKind.u64.wrap (seed * 6364136223846793005) + IntKind.u64.wrap b) + 1442695040888963407)
theorem and_255 (x : Int) : 0 ≤ Go.bits .and .u64 x 255 ∧ Go.bits .and .u64 x 255 ≤ 255 := by
  have h : ((BitVec.ofInt 64 x) &&& (BitVec.ofInt 64 255)).toNat ≤ 255 := by
    rw [BitVec.toNat_and]; exact Nat.and_le_right
  have e : Go.bits .and .u64 x 255 = IntKind.u64.wrap ((((BitVec.ofInt 64 x) &&& (BitVec.ofInt 64 255)).toNat : Nat) : Int) := rfl
  generalize ((BitVec.ofInt 64 x) &&& (BitVec.ofInt 64 255)).toNat = n at *
  have e2 : IntKind.u64.wrap (n : Int) = (n : Int) % 18446744073709551616 := rfl
  rw [e, e2]
  omega

theorem conv_u64 (x : Int) : convA Try.prog 3 42 (.int .i64 x) = some (.int .u64 (IntKind.u64.wrap x)) := by
  simp only [convA, Try.underlying3, Try.underlying42]
theorem conv_i64 (x : Int) : convA Try.prog 42 3 (.int .u64 x) = some (.int .i64 (IntKind.i64.wrap x)) := by
  simp only [convA, Try.underlying3, Try.underlying42]
theorem next_ok (code : List Int) (hc : bytesOk code) (p : Nat) (hp : p ≤ 1000000000) (seed : Int) (L : List AObj) (id : Nat) (hL : L[id]? = some (curB code p seed)) :
    ∃ r seed', (0 ≤ r ∧ r ≤ 255) ∧ Ct Try.prog 57 [.ptr id 0] L (.int .i64 r) (L.set id (curB code ((p + 1 : Nat) : Int) seed')) := by
  obtain ⟨hlen, hb⟩ := hc
  have hidl := (List.getElem?_eq_some_iff.1 hL).1
  have hget : ∀ X, (L.set id X)[id]? = some X := fun X => List.getElem?_set_self hidl
  have e5 : IntKind.i64.wrap ((p : Int) + 1) = ((p + 1 : Nat) : Int) := by
    have := i64Z (x := (p : Int) + 1) (by omega) (by omega)
    rw [this]; simp
  have hbl : (bytesV code).length = code.length := by simp [bytesV]
  unfold curB at hL
  by_cases h : p < code.length
  · have e1 : (p : Int) < (code.length : Int) := by omega
    have e3 : ((p + 1 : Nat) : Int) ≤ (code.length : Int) := by omega
    have e2 : (bytesV code)[p]? = some (.int .u8 code[p]) := by simp [bytesV, h]
    obtain ⟨b0, b1⟩ := hb code[p] (List.getElem_mem h)
    generalize code[p] = b at *
    have e4 : IntKind.i64.wrap b = b := by
      have := i64Z (x := b) (by omega) (by omega)
      exact this
    refine ⟨b, nextS seed b, ⟨b0, b1⟩, ?_⟩
    refine Ct.by_ hmix [] Try.func57 rfl ?_
    simp only [run0, run1, run2, run3, run4, run5, run6, run7, run8, run9, run10, run11, run12, run13, run14, run15, run16, run17, run18, run19, run20, run21, run22, reduceCtorEq, Nat.reduceEqDiff, Nat.reduceAdd, Nat.reduceSub, Nat.reduceLeDiff, indexAddrA, indexRefA, appendA, strA, Nat.reduceMul, Nat.zero_mul, Nat.reduceMod, Int.reduceEq, Int.reduceLT, Int.reduceLE, Nat.reduceLT, Nat.lt_irrefl, Nat.reduceBEq, tys0, tys1, tys2, tys3, tys4, tys5, tys6, tys7, tys8, tys9, tys10, Try.ntmps57, Try.results57, hL, hget, hbl, e1, e2, e3, e4, e5, List.set_set, Int.toNat_natCast, Int.natCast_nonneg, conv_u64, conv_i64]
    refine ⟨by kernel_rfl, ?_⟩
    try simp only [run0, run1, run2, run3, run4, run5, run6, run7, run8, run9, run10, run11, run12, run13, run14, run15, run16, run17, run18, run19, run20, run21, run22, reduceCtorEq, Nat.reduceEqDiff, Nat.reduceAdd, Nat.reduceSub, Nat.reduceLeDiff, indexAddrA, indexRefA, appendA, strA, Nat.reduceMul, Nat.zero_mul, Nat.reduceMod, Int.reduceEq, Int.reduceLT, Int.reduceLE, Nat.reduceLT, Nat.lt_irrefl, Nat.reduceBEq, tys0, tys1, tys2, tys3, tys4, tys5, tys6, tys7, tys8, tys9, tys10, Try.ntmps57, Try.results57, hL, hget, hbl, e1, e2, e3, e4, e5, List.set_set, Int.toNat_natCast, Int.natCast_nonneg, conv_u64, conv_i64]
    refine ⟨by kernel_rfl, ?_⟩
    try simp only [run0, run1, run2, run3, run4, run5, run6, run7, run8, run9, run10, run11, run12, run13, run14, run15, run16, run17, run18, run19, run20, run21, run22, reduceCtorEq, Nat.reduceEqDiff, Nat.reduceAdd, Nat.reduceSub, Nat.reduceLeDiff, indexAddrA, indexRefA, appendA, strA, Nat.reduceMul, Nat.zero_mul, Nat.reduceMod, Int.reduceEq, Int.reduceLT, Int.reduceLE, Nat.reduceLT, Nat.lt_irrefl, Nat.reduceBEq, tys0, tys1, tys2, tys3, tys4, tys5, tys6, tys7, tys8, tys9, tys10, Try.ntmps57, Try.results57, hL, hget, hbl, e1, e2, e3, e4, e5, List.set_set, Int.toNat_natCast, Int.natCast_nonneg, conv_u64, conv_i64]
    refine ⟨by kernel_rfl, ?_⟩
    try simp only [run0, run1, run2, run3, run4, run5, run6, run7, run8, run9, run10, run11, run12, run13, run14, run15, run16, run17, run18, run19, run20, run21, run22, reduceCtorEq, Nat.reduceEqDiff, Nat.reduceAdd, Nat.reduceSub, Nat.reduceLeDiff, indexAddrA, indexRefA, appendA, strA, Nat.reduceMul, Nat.zero_mul, Nat.reduceMod, Int.reduceEq, Int.reduceLT, Int.reduceLE, Nat.reduceLT, Nat.lt_irrefl, Nat.reduceBEq, tys0, tys1, tys2, tys3, tys4, tys5, tys6, tys7, tys8, tys9, tys10, Try.ntmps57, Try.results57, hL, hget, hbl, e1, e2, e3, e4, e5, List.set_set, Int.toNat_natCast, Int.natCast_nonneg, conv_u64, conv_i64]
    refine ⟨by kernel_rfl, ?_⟩
    exact Fin.own rfl rfl
  · have e1 : ¬ (p : Int) < (code.length : Int) := by omega
    have e3 : ¬ ((p + 1 : Nat) : Int) ≤ (code.length : Int) := by omega
    obtain ⟨a1, a2⟩ := and_255 ((nextS seed 0).fdiv (2 ^ min (40 : Int).toNat IntKind.u64.bits))
    have e4 : IntKind.i64.wrap (Go.bits .and .u64 ((nextS seed 0).fdiv (2 ^ min (40 : Int).toNat IntKind.u64.bits)) 255) = Go.bits .and .u64 ((nextS seed 0).fdiv (2 ^ min (40 : Int).toNat IntKind.u64.bits)) 255 := by
      have := i64Z (x := Go.bits .and .u64 ((nextS seed 0).fdiv (2 ^ min (40 : Int).toNat IntKind.u64.bits)) 255) (by omega) (by omega)
      exact this
    refine ⟨IntKind.i64.wrap (Go.bits .and .u64 ((nextS seed 0).fdiv (2 ^ min (40 : Int).toNat IntKind.u64.bits)) 255), nextS seed 0, by rw [e4]; exact ⟨a1, a2⟩, ?_⟩
    refine Ct.by_ hmix [] Try.func57 rfl ?_
    simp only [run0, run1, run2, run3, run4, run5, run6, run7, run8, run9, run10, run11, run12, run13, run14, run15, run16, run17, run18, run19, run20, run21, run22, reduceCtorEq, Nat.reduceEqDiff, Nat.reduceAdd, Nat.reduceSub, Nat.reduceLeDiff, indexAddrA, indexRefA, appendA, strA, Nat.reduceMul, Nat.zero_mul, Nat.reduceMod, Int.reduceEq, Int.reduceLT, Int.reduceLE, Nat.reduceLT, Nat.lt_irrefl, Nat.reduceBEq, tys0, tys1, tys2, tys3, tys4, tys5, tys6, tys7, tys8, tys9, tys10, Try.ntmps57, Try.results57, hL, hget, hbl, e1, e3, e5, List.set_set, Int.toNat_natCast, Int.natCast_nonneg, conv_u64, conv_i64]
    refine ⟨by kernel_rfl, ?_⟩
    try simp only [run0, run1, run2, run3, run4, run5, run6, run7, run8, run9, run10, run11, run12, run13, run14, run15, run16, run17, run18, run19, run20, run21, run22, reduceCtorEq, Nat.reduceEqDiff, Nat.reduceAdd, Nat.reduceSub, Nat.reduceLeDiff, indexAddrA, indexRefA, appendA, strA, Nat.reduceMul, Nat.zero_mul, Nat.reduceMod, Int.reduceEq, Int.reduceLT, Int.reduceLE, Nat.reduceLT, Nat.lt_irrefl, Nat.reduceBEq, tys0, tys1, tys2, tys3, tys4, tys5, tys6, tys7, tys8, tys9, tys10, Try.ntmps57, Try.results57, hL, hget, hbl, e1, e3, e5, List.set_set, Int.toNat_natCast, Int.natCast_nonneg, conv_u64, conv_i64]
    refine ⟨by kernel_rfl, ?_⟩
    try simp only [run0, run1, run2, run3, run4, run5, run6, run7, run8, run9, run10, run11, run12, run13, run14, run15, run16, run17, run18, run19, run20, run21, run22, reduceCtorEq, Nat.reduceEqDiff, Nat.reduceAdd, Nat.reduceSub, Nat.reduceLeDiff, indexAddrA, indexRefA, appendA, strA, Nat.reduceMul, Nat.zero_mul, Nat.reduceMod, Int.reduceEq, Int.reduceLT, Int.reduceLE, Nat.reduceLT, Nat.lt_irrefl, Nat.reduceBEq, tys0, tys1, tys2, tys3, tys4, tys5, tys6, tys7, tys8, tys9, tys10, Try.ntmps57, Try.results57, hL, hget, hbl, e1, e3, e5, List.set_set, Int.toNat_natCast, Int.natCast_nonneg, conv_u64, conv_i64]
    exact Fin.own rfl rfl

theorem tmod_rng {x n : Int} (hx : 0 ≤ x) (hn : 0 < n) : 0 ≤ x.tmod n ∧ x.tmod n < n :=
  ⟨Int.tmod_nonneg _ hx, Int.tmod_lt_of_pos _ hn⟩
theorem pick_ok (code : List Int) (hc : bytesOk code) (p : Nat) (hp : p ≤ 900000000) (seed n : Int) (hn : 1 < n) (hn2 : n ≤ 1000000) (L : List AObj) (id : Nat) (hL : L[id]? = some (curB code p seed)) :
    ∃ (r : Int) (p' : Nat) (seed' : Int), (0 ≤ r ∧ r < n) ∧ p' ≤ p + 2 ∧ Ct Try.prog 43 [.ptr id 0, .int .i64 n] L (.int .i64 r) (L.set id (curB code p' seed')) := by
  have hidl := (List.getElem?_eq_some_iff.1 hL).1
  have hget : ∀ X, (L.set id X)[id]? = some X := fun X => List.getElem?_set_self hidl
  obtain ⟨r1, s1, ⟨h1, h2⟩, c1⟩ := next_ok code hc p (by omega) seed L id hL
  have e1 : ¬ (n ≤ 1) := by omega
  have e0 : ¬ (n = 0) := by omega
  by_cases hbig : 200 < n
  · obtain ⟨r2, s2, ⟨h3, h4⟩, c2⟩ := next_ok code hc (p + 1) (by omega) s1 (L.set id (curB code ((p + 1 : Nat) : Int) s1)) id (hget _)
    obtain ⟨t1, t2⟩ := tmod_rng (x := r1 * 256 + r2) (n := n) (by omega) (by omega)
    have e2 : IntKind.i64.wrap (r1 * 256) = r1 * 256 := i64Z (by omega) (by omega)
    have e3 : IntKind.i64.wrap (r1 * 256 + r2) = r1 * 256 + r2 := i64Z (by omega) (by omega)
    refine ⟨(r1 * 256 + r2).tmod n, p + 1 + 1, s2, ⟨t1, t2⟩, by omega, ?_⟩
    rw [List.set_set] at c2
    refine Ct.by_ hmix [] Try.func43 rfl ?_
    simp only [run0, run1, run2, run3, run4, run5, run6, run7, run8, run9, run10, run11, run12, run13, run14, run15, run16, run17, run18, run19, run20, run21, run22, reduceCtorEq, Nat.reduceEqDiff, Nat.reduceAdd, Nat.reduceSub, Nat.reduceLeDiff, indexAddrA, indexRefA, appendA, strA, Nat.reduceMul, Nat.zero_mul, Nat.reduceMod, Int.reduceEq, Int.reduceLT, Int.reduceLE, Nat.reduceLT, Nat.lt_irrefl, Nat.reduceBEq, tys0, tys1, tys2, tys3, tys4, tys5, tys6, tys7, tys8, tys9, tys10, Try.ntmps43, Try.results43, e1]
    refine RunL.callM rfl rfl ok_f57 rfl rfl c1 rfl ?_
    simp only [run0, run1, run2, run3, run4, run5, run6, run7, run8, run9, run10, run11, run12, run13, run14, run15, run16, run17, run18, run19, run20, run21, run22, reduceCtorEq, Nat.reduceEqDiff, Nat.reduceAdd, Nat.reduceSub, Nat.reduceLeDiff, indexAddrA, indexRefA, appendA, strA, Nat.reduceMul, Nat.zero_mul, Nat.reduceMod, Int.reduceEq, Int.reduceLT, Int.reduceLE, Nat.reduceLT, Nat.lt_irrefl, Nat.reduceBEq, tys0, tys1, tys2, tys3, tys4, tys5, tys6, tys7, tys8, tys9, tys10, Try.ntmps43, Try.results43, hbig, e2]
    refine RunL.callM rfl rfl ok_f57 rfl rfl c2 rfl ?_
    simp only [run0, run1, run2, run3, run4, run5, run6, run7, run8, run9, run10, run11, run12, run13, run14, run15, run16, run17, run18, run19, run20, run21, run22, reduceCtorEq, Nat.reduceEqDiff, Nat.reduceAdd, Nat.reduceSub, Nat.reduceLeDiff, indexAddrA, indexRefA, appendA, strA, Nat.reduceMul, Nat.zero_mul, Nat.reduceMod, Int.reduceEq, Int.reduceLT, Int.reduceLE, Nat.reduceLT, Nat.lt_irrefl, Nat.reduceBEq, tys0, tys1, tys2, tys3, tys4, tys5, tys6, tys7, tys8, tys9, tys10, Try.ntmps43, Try.results43, e3, e0]
    exact Fin.own rfl rfl
  · obtain ⟨t1, t2⟩ := tmod_rng (x := r1) (n := n) (by omega) (by omega)
    refine ⟨r1.tmod n, p + 1, s1, ⟨t1, t2⟩, by omega, ?_⟩
    refine Ct.by_ hmix [] Try.func43 rfl ?_
    simp only [run0, run1, run2, run3, run4, run5, run6, run7, run8, run9, run10, run11, run12, run13, run14, run15, run16, run17, run18, run19, run20, run21, run22, reduceCtorEq, Nat.reduceEqDiff, Nat.reduceAdd, Nat.reduceSub, Nat.reduceLeDiff, indexAddrA, indexRefA, appendA, strA, Nat.reduceMul, Nat.zero_mul, Nat.reduceMod, Int.reduceEq, Int.reduceLT, Int.reduceLE, Nat.reduceLT, Nat.lt_irrefl, Nat.reduceBEq, tys0, tys1, tys2, tys3, tys4, tys5, tys6, tys7, tys8, tys9, tys10, Try.ntmps43, Try.results43, e1]
    refine RunL.callM rfl rfl ok_f57 rfl rfl c1 rfl ?_
    simp only [run0, run1, run2, run3, run4, run5, run6, run7, run8, run9, run10, run11, run12, run13, run14, run15, run16, run17, run18, run19, run20, run21, run22, reduceCtorEq, Nat.reduceEqDiff, Nat.reduceAdd, Nat.reduceSub, Nat.reduceLeDiff, indexAddrA, indexRefA, appendA, strA, Nat.reduceMul, Nat.zero_mul, Nat.reduceMod, Int.reduceEq, Int.reduceLT, Int.reduceLE, Nat.reduceLT, Nat.lt_irrefl, Nat.reduceBEq, tys0, tys1, tys2, tys3, tys4, tys5, tys6, tys7, tys8, tys9, tys10, Try.ntmps43, Try.results43, hbig, e0]
    exact Fin.own rfl rfl

theorem among_ok (l : List Int) (o : Bool) (h1 : 1 < l.length) (h2 : l.length ≤ 100) (code : List Int) (hc : bytesOk code) (p : Nat) (hp : p ≤ 900000000) (seed : Int) (L : List AObj) (id : Nat) (hL : L[id]? = some (curB code p seed)) :
    ∃ (r : Int) (p' : Nat) (seed' : Int), r ∈ l ∧ p' ≤ p + 2 ∧ Ct Try.prog 46 [.ptr id 0, .sl o (ints l)] L (.int .i64 r) (L.set id (curB code p' seed')) := by
  obtain ⟨r, p', s', ⟨k1, k2⟩, k3, c1⟩ := pick_ok code hc p hp seed l.length (by omega) (by omega) L id hL
  obtain ⟨i, rfl⟩ := Int.eq_ofNat_of_zero_le k1
  have hi : i < l.length := by omega
  have e2 : (ints l)[i]? = some (.int .i64 l[i]) := by simp [hi]
  have e3 : (i : Int) < (l.length : Int) := by omega
  refine ⟨l[i], p', s', List.getElem_mem hi, k3, ?_⟩
  refine Ct.by_ hmix [] Try.func46 rfl ?_
  simp only [run0, run1, run2, run3, run4, run5, run6, run7, run8, run9, run10, run11, run12, run13, run14, run15, run16, run17, run18, run19, run20, run21, run22, reduceCtorEq, Nat.reduceEqDiff, Nat.reduceAdd, Nat.reduceSub, Nat.reduceLeDiff, indexAddrA, indexRefA, appendA, strA, Nat.reduceMul, Nat.zero_mul, Nat.reduceMod, Int.reduceEq, Int.reduceLT, Int.reduceLE, Nat.reduceLT, Nat.lt_irrefl, Nat.reduceBEq, tys0, tys1, tys2, tys3, tys4, tys5, tys6, tys7, tys8, tys9, tys10, Try.ntmps46, Try.results46]
  refine RunL.callM rfl rfl ok_f43 rfl rfl c1 rfl ?_
  simp only [run0, run1, run2, run3, run4, run5, run6, run7, run8, run9, run10, run11, run12, run13, run14, run15, run16, run17, run18, run19, run20, run21, run22, reduceCtorEq, Nat.reduceEqDiff, Nat.reduceAdd, Nat.reduceSub, Nat.reduceLeDiff, indexAddrA, indexRefA, appendA, strA, Nat.reduceMul, Nat.zero_mul, Nat.reduceMod, Int.reduceEq, Int.reduceLT, Int.reduceLE, Nat.reduceLT, Nat.lt_irrefl, Nat.reduceBEq, tys0, tys1, tys2, tys3, tys4, tys5, tys6, tys7, tys8, tys9, tys10, Try.ntmps46, Try.results46, e2, e3, Int.toNat_natCast, Int.natCast_nonneg]
  exact Fin.own rfl rfl

theorem one_ok (code : List Int) (hc : bytesOk code) (p : Nat) (hp : p ≤ 900000000) (seed n : Int) (hn : 1 < n) (hn2 : n ≤ 1000000) (L : List AObj) (id : Nat) (hL : L[id]? = some (curB code p seed)) :
    ∃ (r : Bool) (p' : Nat) (seed' : Int), p' ≤ p + 2 ∧ Ct Try.prog 44 [.ptr id 0, .int .i64 n] L (.bool r) (L.set id (curB code p' seed')) := by
  obtain ⟨r, p1, s1, _, k3, c1⟩ := pick_ok code hc p hp seed n hn hn2 L id hL
  refine ⟨(r == 0), p1, s1, k3, ?_⟩
  refine Ct.by_ hmix [] Try.func44 rfl ?_
  simp only [run0, run1, run2, run3, run4, run5, run6, run7, run8, run9, run10, run11, run12, run13, run14, run15, run16, run17, run18, run19, run20, run21, run22, reduceCtorEq, Nat.reduceEqDiff, Nat.reduceAdd, Nat.reduceSub, Nat.reduceLeDiff, indexAddrA, indexRefA, appendA, strA, Nat.reduceMul, Nat.zero_mul, Nat.reduceMod, Int.reduceEq, Int.reduceLT, Int.reduceLE, Nat.reduceLT, Nat.lt_irrefl, Nat.reduceBEq, tys0, tys1, tys2, tys3, tys4, tys5, tys6, tys7, tys8, tys9, tys10, Try.ntmps44, Try.results44]
  refine RunL.callM rfl rfl ok_f43 rfl rfl c1 rfl ?_
  simp only [run0, run1, run2, run3, run4, run5, run6, run7, run8, run9, run10, run11, run12, run13, run14, run15, run16, run17, run18, run19, run20, run21, run22, reduceCtorEq, Nat.reduceEqDiff, Nat.reduceAdd, Nat.reduceSub, Nat.reduceLeDiff, indexAddrA, indexRefA, appendA, strA, Nat.reduceMul, Nat.zero_mul, Nat.reduceMod, Int.reduceEq, Int.reduceLT, Int.reduceLE, Nat.reduceLT, Nat.lt_irrefl, Nat.reduceBEq, tys0, tys1, tys2, tys3, tys4, tys5, tys6, tys7, tys8, tys9, tys10, Try.ntmps44, Try.results44]
  exact Fin.own rfl rfl

theorem pickA_ok (code : List Int) (hc : bytesOk code) (p : Nat) (hp : p ≤ 900000000) (seed n : Int) (hn : 1 ≤ n) (hn2 : n ≤ 1000000) (L : List AObj) (id : Nat) (hL : L[id]? = some (curB code p seed)) :
    ∃ (r : Int) (p' : Nat) (seed' : Int), (0 ≤ r ∧ r < n) ∧ p' ≤ p + 2 ∧ Ct Try.prog 43 [.ptr id 0, .int .i64 n] L (.int .i64 r) (L.set id (curB code p' seed')) := by
  by_cases h : 1 < n
  · exact pick_ok code hc p hp seed n h hn2 L id hL
  · obtain rfl : n = 1 := by omega
    refine ⟨0, p, seed, ⟨by omega, by omega⟩, by omega, ?_⟩
    rw [set_eqG hL]
    refine Ct.by_ hmix [] Try.func43 rfl ?_
    simp only [run0, run1, run2, run3, run4, run5, run6, run7, run8, run9, run10, run11, run12, run13, run14, run15, run16, run17, run18, run19, run20, run21, run22, reduceCtorEq, Nat.reduceEqDiff, Nat.reduceAdd, Nat.reduceSub, Nat.reduceLeDiff, indexAddrA, indexRefA, appendA, strA, Nat.reduceMul, Nat.zero_mul, Nat.reduceMod, Int.reduceEq, Int.reduceLT, Int.reduceLE, Nat.reduceLT, Nat.lt_irrefl, Nat.reduceBEq, tys0, tys1, tys2, tys3, tys4, tys5, tys6, tys7, tys8, tys9, tys10, Try.ntmps43, Try.results43]
    exact Fin.own rfl rfl
theorem callM_ex {P : Program} {k : Oper → Knd} {ops : Array Oper} {Kq : AV → List AObj → St → Prop} {Z : AV → List AObj → Prop} {o : Oper} {rest : List Oper} {s : St} {f : FuncId} {args : Array Operand} {ats : Array TypeId} {r : AV} {L' : List AObj} {xs : List AV}
    (hg : guardA ops s o = some true) (ho : o.op = .call { callee := .value (.func f), args := args, argTypes := ats }) (hf : okFn P f = true) (hkd : Knd.le .C (k o) = true) (hal : isAlloc k o = false)
    (h : Ct P f xs s.L r L') (hx : args.toList.map s.ev = xs) (hk : ∃ r1 L1, R P k ops rest ({ s with L := L' }.put o.dst r) (Kq r1 L1) ∧ Z r1 L1) : ∃ r1 L1, RunL P k ops (o :: rest) s (Kq r1 L1) ∧ Z r1 L1 := by
  obtain ⟨r1, L1, h1, h2⟩ := hk
  exact ⟨r1, L1, RunL.callM hg ho hf hkd hal h hx h1, h2⟩
theorem sound_ex {P : Program} (hm : P.follows .mixedOrders = true) (E : List FuncId) {c : Code} {Kq : AV → List AObj → Exit → St → Prop} {Z : AV → List AObj → Prop} {s : St} (h : ∃ r L', W P E c (Kq r L') s ∧ Z r L') : ∃ r L', AWp P c (Kq r L') s ∧ Z r L' := by
  obtain ⟨r, L', h1, h2⟩ := h
  exact ⟨r, L', W.sound hm (E := E) h1, h2⟩
theorem least_ok (a b : Int) : Ct Try.prog 45 [.int .i64 a, .int .i64 b] [] (.int .i64 (if a < b then a else b)) [] := by
  refine Ct.by_ hmix [] Try.func45 rfl ?_
  by_cases h : a < b
  · simp only [run0, run1, run2, run3, run4, run5, run6, run7, run8, run9, run10, run11, run12, run13, run14, run15, run16, run17, run18, run19, run20, run21, run22, reduceCtorEq, Nat.reduceEqDiff, Nat.reduceAdd, Nat.reduceSub, Nat.reduceLeDiff, indexAddrA, indexRefA, appendA, strA, Nat.reduceMul, Nat.zero_mul, Nat.reduceMod, Int.reduceEq, Int.reduceLT, Int.reduceLE, Nat.reduceLT, Nat.lt_irrefl, Nat.reduceBEq, tys0, tys1, tys2, tys3, tys4, tys5, tys6, tys7, tys8, tys9, tys10, Try.ntmps45, Try.results45, h]
    exact Fin.eq rfl rfl
  · simp only [run0, run1, run2, run3, run4, run5, run6, run7, run8, run9, run10, run11, run12, run13, run14, run15, run16, run17, run18, run19, run20, run21, run22, reduceCtorEq, Nat.reduceEqDiff, Nat.reduceAdd, Nat.reduceSub, Nat.reduceLeDiff, indexAddrA, indexRefA, appendA, strA, Nat.reduceMul, Nat.zero_mul, Nat.reduceMod, Int.reduceEq, Int.reduceLT, Int.reduceLE, Nat.reduceLT, Nat.lt_irrefl, Nat.reduceBEq, tys0, tys1, tys2, tys3, tys4, tys5, tys6, tys7, tys8, tys9, tys10, Try.ntmps45, Try.results45, h]
    exact Fin.eq rfl rfl
theorem twI_noOwn (l : List TwZ) : noOwn (l.map twI) = true := by
  refine List.all_eq_true.2 fun x hx => ?_
  obtain ⟨e, _, rfl⟩ := List.mem_map.1 hx
  rfl
structure GdS where
  k : Nat
  d : List TwZ
  p : Nat
  seed : Int
theorem green_ok (code : List Int) (hc : bytesOk code) (p : Nat) (hp : p ≤ 600000000) (seed : Int) (most : Nat) (hm1 : 1 ≤ most) (hm2 : most ≤ 12) (L : List AObj) (id : Nat) (hL : L[id]? = some (curB code p seed)) :
    ∃ (d : List TwZ) (p' : Nat) (seed' : Int), d.length ≤ 15 ∧ p' ≤ p + 10000 ∧
      Ct Try.prog 23 [.ptr id 0, .int .i64 most] L (.ref L.length [] d.length d.length) (L.set id (curB code p' seed') ++ [.vec 30 2 d.length (d.map twI)]) := by
  have hidl := (List.getElem?_eq_some_iff.1 hL).1
  have hlen : ∀ X, (L.set id X).length = L.length := fun X => by simp
  have hget : ∀ X Y, (L.set id X ++ Y)[id]? = some X := fun X Y => by rw [List.getElem?_append_left (by simpa using hidl)]; exact List.getElem?_set_self hidl
  have hset : ∀ X Y Z, (L.set id X ++ Y).set id Z = L.set id Z ++ Y := fun X Y Z => by rw [List.set_append_left _ _ (by simpa using hidl), List.set_set]
  have getL : ∀ X Y, (L.set id X ++ [Y])[L.length]? = some Y := fun X Y => by
    rw [List.getElem?_append_right (by simp), hlen, Nat.sub_self]; rfl
  have setL : ∀ X Y W, (L.set id X ++ [Y]).set L.length W = L.set id X ++ [W] := fun X Y W => by
    rw [List.set_append_right _ _ (by simp), hlen, Nat.sub_self]; rfl
  obtain ⟨r, p1, s1, ⟨k1, k2⟩, k3, c1⟩ := pickA_ok code hc p (by omega) seed (most + 1) (by omega) (by omega) L id hL
  obtain ⟨n, rfl⟩ := Int.eq_ofNat_of_zero_le k1
  have w1 : IntKind.i64.wrap ((most : Int) + 1) = (most : Int) + 1 := s64_id (by omega) (by omega)
  suffices h : ∃ r L', Ct Try.prog 23 [.ptr id 0, .int .i64 most] L r L' ∧ ∃ (d : List TwZ) (p' : Nat) (seed' : Int), d.length ≤ 15 ∧ p' ≤ p + 10000 ∧ r = .ref L.length [] d.length d.length ∧ L' = L.set id (curB code p' seed') ++ [.vec 30 2 d.length (d.map twI)] by
    obtain ⟨r, L', h1, d, p', seed', h2, h3, rfl, rfl⟩ := h
    exact ⟨d, p', seed', h2, h3, h1⟩
  refine Ct.ex hmix [] Try.func23 rfl ?_
  simp only [run0, run1, run2, run3, run4, run5, run6, run7, run8, run9, run10, run11, run12, run13, run14, run15, run16, run17, run18, run19, run20, run21, run22, reduceCtorEq, Nat.reduceEqDiff, Nat.reduceAdd, Nat.reduceSub, Nat.reduceLeDiff, indexAddrA, indexRefA, appendA, strA, Nat.reduceMul, Nat.zero_mul, Nat.reduceMod, Int.reduceEq, Int.reduceLT, Int.reduceLE, Nat.reduceLT, Nat.lt_irrefl, Nat.reduceBEq, tys0, tys1, tys2, tys3, tys4, tys5, tys6, tys7, tys8, tys9, tys10, Try.ntmps23, Try.results23, w1]
  refine callM_ex rfl rfl ok_f43 rfl rfl c1 rfl ?_
  simp only [run0, run1, run2, run3, run4, run5, run6, run7, run8, run9, run10, run11, run12, run13, run14, run15, run16, run17, run18, run19, run20, run21, run22, reduceCtorEq, Nat.reduceEqDiff, Nat.reduceAdd, Nat.reduceSub, Nat.reduceLeDiff, indexAddrA, indexRefA, appendA, strA, Nat.reduceMul, Nat.zero_mul, Nat.reduceMod, Int.reduceEq, Int.reduceLT, Int.reduceLE, Nat.reduceLT, Nat.lt_irrefl, Nat.reduceBEq, tys0, tys1, tys2, tys3, tys4, tys5, tys6, tys7, tys8, tys9, tys10, Try.ntmps23, Try.results23]
  refine AWp.nil_ex 5 30 2 rfl ?_
  simp only [List.length_set]
  refine AWp.loop_exK (ι := GdS) (fun q => ⟨[.ptr id 0, .int .i64 most, .junk, .junk, nilV, .ref L.length [] q.d.length q.d.length, .int .i64 q.k, .junk, .junk, .junk, .junk, .junk, .junk, .junk, .junk, .junk, .junk, .junk, .junk, .junk, .junk, .junk, .junk, .junk, .junk, .junk, .junk, .junk, .junk, .junk, .junk, .junk, .junk, .junk, .junk, .junk, .junk, .junk, .junk, .junk, .junk, .junk, .junk, .junk, .junk, .junk, .junk, .junk, .junk, .junk, .junk, .junk, .junk, .junk, .junk, .junk, .junk, .junk, .junk, .junk, .junk, .junk, .junk, .junk], L.set id (curB code q.p q.seed) ++ [.vec 30 2 q.d.length (q.d.map twI)]⟩)
    (fun q => q.d.length + q.k ≤ 12 ∧ q.p + 100 * q.k ≤ p + 5000) (fun q => q.k) ⟨n, [], p1, s1⟩ ⟨by show 0 + n ≤ 12; omega, by simp only; omega⟩ ⟨by repeat constructor, rfl⟩ ?_
  rintro ⟨k, d, q, sd⟩ ⟨h1, h2⟩
  simp only at h1 h2
  cases k with
  | zero =>
    left
    refine sound_ex hmix [] ?_
    obtain ⟨r2, p2, s2, ⟨k4, k5⟩, k6, c2⟩ := pickA_ok code hc q (by omega) sd 16 (by omega) (by omega) _ id (hget (curB code q sd) [.vec 30 2 d.length (d.map twI)])
    rw [hset] at c2
    simp only [run0, run1, run2, run3, run4, run5, run6, run7, run8, run9, run10, run11, run12, run13, run14, run15, run16, run17, run18, run19, run20, run21, run22, reduceCtorEq, Nat.reduceEqDiff, Nat.reduceAdd, Nat.reduceSub, Nat.reduceLeDiff, indexAddrA, indexRefA, appendA, strA, Nat.reduceMul, Nat.zero_mul, Nat.reduceMod, Int.reduceEq, Int.reduceLT, Int.reduceLE, Nat.reduceLT, Nat.lt_irrefl, Nat.reduceBEq, tys0, tys1, tys2, tys3, tys4, tys5, tys6, tys7, tys8, tys9, tys10, Try.ntmps23, Try.results23, Int.natCast_zero, Int.lt_irrefl]
    refine callM_ex rfl rfl ok_f43 rfl rfl c2 rfl ?_
    by_cases e0 : r2 = 0
    · subst e0
      obtain ⟨r3, p3, s3, k7, k8, c3⟩ := among_ok [-1, 0, 12, 13] false (by decide) (by decide) code hc p2 (by omega) s2 _ id (hget (curB code p2 s2) [.vec 30 2 d.length (d.map twI)])
      rw [hset] at c3
      have f3 : d.length + 1 ≤ 137438953472 := by omega
      have f4 := twI_noOwn d
      refine ⟨.ref L.length [] (d ++ [(r3, 0)]).length (d ++ [(r3, 0)]).length, L.set id (curB code p3 s3) ++ [.vec 30 2 (d ++ [(r3, 0)]).length ((d ++ [(r3, 0)]).map twI)], ?_, d ++ [(r3, 0)], p3, s3, by simp; omega, by omega, rfl, rfl⟩
      simp only [run0, run1, run2, run3, run4, run5, run6, run7, run8, run9, run10, run11, run12, run13, run14, run15, run16, run17, run18, run19, run20, run21, run22, reduceCtorEq, Nat.reduceEqDiff, Nat.reduceAdd, Nat.reduceSub, Nat.reduceLeDiff, indexAddrA, indexRefA, appendA, strA, Nat.reduceMul, Nat.zero_mul, Nat.reduceMod, Int.reduceEq, Int.reduceLT, Int.reduceLE, Nat.reduceLT, Nat.lt_irrefl, Nat.reduceBEq, tys0, tys1, tys2, tys3, tys4, tys5, tys6, tys7, tys8, tys9, tys10, Try.ntmps23, Try.results23]
      refine RunL.callM rfl rfl ok_f46 rfl rfl c3 rfl ?_
      simp only [run0, run1, run2, run3, run4, run5, run6, run7, run8, run9, run10, run11, run12, run13, run14, run15, run16, run17, run18, run19, run20, run21, run22, reduceCtorEq, Nat.reduceEqDiff, Nat.reduceAdd, Nat.reduceSub, Nat.reduceLeDiff, indexAddrA, indexRefA, appendA, strA, Nat.reduceMul, Nat.zero_mul, Nat.reduceMod, Int.reduceEq, Int.reduceLT, Int.reduceLE, Nat.reduceLT, Nat.lt_irrefl, Nat.reduceBEq, tys0, tys1, tys2, tys3, tys4, tys5, tys6, tys7, tys8, tys9, tys10, Try.ntmps23, Try.results23, f3, f4, List.append_assoc, List.cons_append, getL, setL, List.length_map, Int.toNat_natCast, Int.natCast_nonneg]
      exact Fin.own (by simp [twI]) (by simp)
    by_cases e1 : r2 = 1
    · subst e1
      have z0 : ((1 : Int) == 0) = false := rfl
      have z1 : ((1 : Int) == 1) = true := rfl
      simp only [run0, run1, run2, run3, run4, run5, run6, run7, run8, run9, run10, run11, run12, run13, run14, run15, run16, run17, run18, run19, run20, run21, run22, reduceCtorEq, Nat.reduceEqDiff, Nat.reduceAdd, Nat.reduceSub, Nat.reduceLeDiff, indexAddrA, indexRefA, appendA, strA, Nat.reduceMul, Nat.zero_mul, Nat.reduceMod, Int.reduceEq, Int.reduceLT, Int.reduceLE, Nat.reduceLT, Nat.lt_irrefl, Nat.reduceBEq, tys0, tys1, tys2, tys3, tys4, tys5, tys6, tys7, tys8, tys9, tys10, Try.ntmps23, Try.results23, z0, z1]
      refine AWp.loop_exK (ι := GdS) (fun q => ⟨[.ptr id 0, .junk, .junk, .junk, nilV, .ref L.length [] q.d.length q.d.length, .junk, .junk, .junk, .junk, .junk, .junk, .junk, .junk, .junk, .junk, .junk, .junk, .junk, .junk, .junk, .junk, .junk, .junk, .junk, .junk, .junk, .junk, .junk, .junk, .junk, .junk, .junk, .junk, .junk, .junk, .junk, .junk, .junk, .junk, .junk, .junk, .junk, .junk, .junk, .junk, .junk, .junk, .junk, .junk, .junk, .junk, .junk, .junk, .junk, .junk, .junk, .junk, .junk, .junk, .junk, .junk, .junk, .junk], L.set id (curB code q.p q.seed) ++ [.vec 30 2 q.d.length (q.d.map twI)]⟩)
        (fun q => q.d.length ≤ 15 ∧ q.p + 100 * (15 - q.d.length) ≤ p + 7000) (fun q => 15 - q.d.length) ⟨0, d, p2, s2⟩ ⟨by simp only; omega, by simp only; omega⟩ ⟨by repeat constructor, rfl⟩ ?_
      rintro ⟨_, d, q, sd⟩ ⟨h1, h2⟩
      simp only at h1 h2
      obtain ⟨r3, p3, s3, ⟨k7, k8⟩, k9, c3⟩ := pickA_ok code hc q (by omega) sd 2 (by omega) (by omega) _ id (hget (curB code q sd) [.vec 30 2 d.length (d.map twI)])
      rw [hset] at c3
      have e4 : IntKind.i64.wrap (14 + r3) = 14 + r3 := s64_id (by omega) (by omega)
      by_cases hlt : (d.length : Int) < 14 + r3
      · right
        have f3 : d.length + 1 ≤ 137438953472 := by omega
        have f4 := twI_noOwn d
        refine ⟨⟨0, d ++ [(0, 1)], p3, s3⟩, ⟨by simp only [List.length_append, List.length_cons, List.length_nil]; omega, by simp only [List.length_append, List.length_cons, List.length_nil]; omega⟩, by simp only [List.length_append, List.length_cons, List.length_nil]; omega, ?_⟩
        refine W.sound hmix (E := []) ?_
        simp only [run0, run1, run2, run3, run4, run5, run6, run7, run8, run9, run10, run11, run12, run13, run14, run15, run16, run17, run18, run19, run20, run21, run22, reduceCtorEq, Nat.reduceEqDiff, Nat.reduceAdd, Nat.reduceSub, Nat.reduceLeDiff, indexAddrA, indexRefA, appendA, strA, Nat.reduceMul, Nat.zero_mul, Nat.reduceMod, Int.reduceEq, Int.reduceLT, Int.reduceLE, Nat.reduceLT, Nat.lt_irrefl, Nat.reduceBEq, tys0, tys1, tys2, tys3, tys4, tys5, tys6, tys7, tys8, tys9, tys10, Try.ntmps23, Try.results23, getL, List.length_map]
        refine RunL.callM rfl rfl ok_f43 rfl rfl c3 rfl ?_
        simp only [run0, run1, run2, run3, run4, run5, run6, run7, run8, run9, run10, run11, run12, run13, run14, run15, run16, run17, run18, run19, run20, run21, run22, reduceCtorEq, Nat.reduceEqDiff, Nat.reduceAdd, Nat.reduceSub, Nat.reduceLeDiff, indexAddrA, indexRefA, appendA, strA, Nat.reduceMul, Nat.zero_mul, Nat.reduceMod, Int.reduceEq, Int.reduceLT, Int.reduceLE, Nat.reduceLT, Nat.lt_irrefl, Nat.reduceBEq, tys0, tys1, tys2, tys3, tys4, tys5, tys6, tys7, tys8, tys9, tys10, Try.ntmps23, Try.results23, e4, hlt, f3, f4, List.append_assoc, List.cons_append, getL, setL, List.length_map, Int.toNat_natCast, Int.natCast_nonneg]
        exact ⟨by (try simp only [List.length_append, List.length_cons, List.length_nil, Nat.zero_add]); repeat constructor, by simp [twI]⟩
      · left
        refine ⟨.ref L.length [] d.length d.length, L.set id (curB code p3 s3) ++ [.vec 30 2 d.length (d.map twI)], ?_, d, p3, s3, by omega, by omega, rfl, rfl⟩
        refine W.sound hmix (E := []) ?_
        simp only [run0, run1, run2, run3, run4, run5, run6, run7, run8, run9, run10, run11, run12, run13, run14, run15, run16, run17, run18, run19, run20, run21, run22, reduceCtorEq, Nat.reduceEqDiff, Nat.reduceAdd, Nat.reduceSub, Nat.reduceLeDiff, indexAddrA, indexRefA, appendA, strA, Nat.reduceMul, Nat.zero_mul, Nat.reduceMod, Int.reduceEq, Int.reduceLT, Int.reduceLE, Nat.reduceLT, Nat.lt_irrefl, Nat.reduceBEq, tys0, tys1, tys2, tys3, tys4, tys5, tys6, tys7, tys8, tys9, tys10, Try.ntmps23, Try.results23, getL, List.length_map]
        refine RunL.callM rfl rfl ok_f43 rfl rfl c3 rfl ?_
        simp only [run0, run1, run2, run3, run4, run5, run6, run7, run8, run9, run10, run11, run12, run13, run14, run15, run16, run17, run18, run19, run20, run21, run22, reduceCtorEq, Nat.reduceEqDiff, Nat.reduceAdd, Nat.reduceSub, Nat.reduceLeDiff, indexAddrA, indexRefA, appendA, strA, Nat.reduceMul, Nat.zero_mul, Nat.reduceMod, Int.reduceEq, Int.reduceLT, Int.reduceLE, Nat.reduceLT, Nat.lt_irrefl, Nat.reduceBEq, tys0, tys1, tys2, tys3, tys4, tys5, tys6, tys7, tys8, tys9, tys10, Try.ntmps23, Try.results23, e4, hlt]
        exact Fin.own rfl rfl
    · have f0 : (r2 == 0) = false := by simpa using e0
      have f1 : (r2 == 1) = false := by simpa using e1
      refine ⟨.ref L.length [] d.length d.length, L.set id (curB code p2 s2) ++ [.vec 30 2 d.length (d.map twI)], ?_, d, p2, s2, by omega, by omega, rfl, rfl⟩
      simp only [run0, run1, run2, run3, run4, run5, run6, run7, run8, run9, run10, run11, run12, run13, run14, run15, run16, run17, run18, run19, run20, run21, run22, reduceCtorEq, Nat.reduceEqDiff, Nat.reduceAdd, Nat.reduceSub, Nat.reduceLeDiff, indexAddrA, indexRefA, appendA, strA, Nat.reduceMul, Nat.zero_mul, Nat.reduceMod, Int.reduceEq, Int.reduceLT, Int.reduceLE, Nat.reduceLT, Nat.lt_irrefl, Nat.reduceBEq, tys0, tys1, tys2, tys3, tys4, tys5, tys6, tys7, tys8, tys9, tys10, Try.ntmps23, Try.results23, f0, f1]
      exact Fin.own rfl rfl
  | succ k =>
    right
    obtain ⟨a, p2, s2, ⟨ka, _⟩, hp2, c2⟩ := pickA_ok code hc q (by omega) sd (d.length + 1) (by omega) (by omega) _ id (hget (curB code q sd) [.vec 30 2 d.length (d.map twI)])
    rw [hset] at c2
    obtain ⟨b, p3, s3, ⟨kb, _⟩, hp3, c3⟩ := pickA_ok code hc p2 (by omega) s2 (d.length + 2) (by omega) (by omega) _ id (hget (curB code p2 s2) [.vec 30 2 d.length (d.map twI)])
    rw [hset] at c3
    obtain ⟨o, p4, s4, hp4, c4⟩ := one_ok code hc p3 (by omega) s3 2 (by omega) (by omega) _ id (hget (curB code p3 s3) [.vec 30 2 d.length (d.map twI)])
    rw [hset] at c4
    have e1 : (0 : Int) < ((k + 1 : Nat) : Int) := by omega
    have e2 : IntKind.i64.wrap (((k + 1 : Nat) : Int) - 1) = (k : Int) := by
      rw [s64_id (by omega) (by omega)]; omega
    have e3 : IntKind.i64.wrap ((d.length : Int) + 1) = (d.length : Int) + 1 := s64_id (by omega) (by omega)
    have e4 : IntKind.i64.wrap ((d.length : Int) + 2) = (d.length : Int) + 2 := s64_id (by omega) (by omega)
    have f3 : d.length + 1 ≤ 137438953472 := by omega
    have f4 := twI_noOwn d
    cases o
    · refine ⟨⟨k, d ++ [(if a < 12 then a else 12, if b < 12 then b else 12)], p4, s4⟩, ⟨by simp only [List.length_append, List.length_cons, List.length_nil]; omega, by simp only; omega⟩, by simp only; omega, ?_⟩
      refine W.sound hmix (E := []) ?_
      simp only [run0, run1, run2, run3, run4, run5, run6, run7, run8, run9, run10, run11, run12, run13, run14, run15, run16, run17, run18, run19, run20, run21, run22, reduceCtorEq, Nat.reduceEqDiff, Nat.reduceAdd, Nat.reduceSub, Nat.reduceLeDiff, indexAddrA, indexRefA, appendA, strA, Nat.reduceMul, Nat.zero_mul, Nat.reduceMod, Int.reduceEq, Int.reduceLT, Int.reduceLE, Nat.reduceLT, Nat.lt_irrefl, Nat.reduceBEq, tys0, tys1, tys2, tys3, tys4, tys5, tys6, tys7, tys8, tys9, tys10, Try.ntmps23, Try.results23, e1, e3, e4, getL]
      refine RunL.callM rfl rfl ok_f43 rfl rfl c2 rfl ?_
      simp only [run0, run1, run2, run3, run4, run5, run6, run7, run8, run9, run10, run11, run12, run13, run14, run15, run16, run17, run18, run19, run20, run21, run22, reduceCtorEq, Nat.reduceEqDiff, Nat.reduceAdd, Nat.reduceSub, Nat.reduceLeDiff, indexAddrA, indexRefA, appendA, strA, Nat.reduceMul, Nat.zero_mul, Nat.reduceMod, Int.reduceEq, Int.reduceLT, Int.reduceLE, Nat.reduceLT, Nat.lt_irrefl, Nat.reduceBEq, tys0, tys1, tys2, tys3, tys4, tys5, tys6, tys7, tys8, tys9, tys10, Try.ntmps23, Try.results23, e1, e3, e4, getL]
      refine RunL.callM rfl rfl ok_f43 rfl rfl c3 rfl ?_
      simp only [run0, run1, run2, run3, run4, run5, run6, run7, run8, run9, run10, run11, run12, run13, run14, run15, run16, run17, run18, run19, run20, run21, run22, reduceCtorEq, Nat.reduceEqDiff, Nat.reduceAdd, Nat.reduceSub, Nat.reduceLeDiff, indexAddrA, indexRefA, appendA, strA, Nat.reduceMul, Nat.zero_mul, Nat.reduceMod, Int.reduceEq, Int.reduceLT, Int.reduceLE, Nat.reduceLT, Nat.lt_irrefl, Nat.reduceBEq, tys0, tys1, tys2, tys3, tys4, tys5, tys6, tys7, tys8, tys9, tys10, Try.ntmps23, Try.results23, e1, e3, e4, getL]
      refine RunL.callM rfl rfl ok_f44 rfl rfl c4 rfl ?_
      simp only [run0, run1, run2, run3, run4, run5, run6, run7, run8, run9, run10, run11, run12, run13, run14, run15, run16, run17, run18, run19, run20, run21, run22, reduceCtorEq, Nat.reduceEqDiff, Nat.reduceAdd, Nat.reduceSub, Nat.reduceLeDiff, indexAddrA, indexRefA, appendA, strA, Nat.reduceMul, Nat.zero_mul, Nat.reduceMod, Int.reduceEq, Int.reduceLT, Int.reduceLE, Nat.reduceLT, Nat.lt_irrefl, Nat.reduceBEq, tys0, tys1, tys2, tys3, tys4, tys5, tys6, tys7, tys8, tys9, tys10, Try.ntmps23, Try.results23, e1, e3, e4, getL]
      refine RunL.callp rfl rfl ok_f45 (least_ok a 12) (by first | rfl | simp only [pureL, pureB, Bool.and_self, Bool.and_true, Bool.true_and]) rfl ?_
      simp only [run0, run1, run2, run3, run4, run5, run6, run7, run8, run9, run10, run11, run12, run13, run14, run15, run16, run17, run18, run19, run20, run21, run22, reduceCtorEq, Nat.reduceEqDiff, Nat.reduceAdd, Nat.reduceSub, Nat.reduceLeDiff, indexAddrA, indexRefA, appendA, strA, Nat.reduceMul, Nat.zero_mul, Nat.reduceMod, Int.reduceEq, Int.reduceLT, Int.reduceLE, Nat.reduceLT, Nat.lt_irrefl, Nat.reduceBEq, tys0, tys1, tys2, tys3, tys4, tys5, tys6, tys7, tys8, tys9, tys10, Try.ntmps23, Try.results23, e1]
      refine RunL.callp rfl rfl ok_f45 (least_ok b 12) (by first | rfl | simp only [pureL, pureB, Bool.and_self, Bool.and_true, Bool.true_and]) rfl ?_
      simp only [run0, run1, run2, run3, run4, run5, run6, run7, run8, run9, run10, run11, run12, run13, run14, run15, run16, run17, run18, run19, run20, run21, run22, reduceCtorEq, Nat.reduceEqDiff, Nat.reduceAdd, Nat.reduceSub, Nat.reduceLeDiff, indexAddrA, indexRefA, appendA, strA, Nat.reduceMul, Nat.zero_mul, Nat.reduceMod, Int.reduceEq, Int.reduceLT, Int.reduceLE, Nat.reduceLT, Nat.lt_irrefl, Nat.reduceBEq, tys0, tys1, tys2, tys3, tys4, tys5, tys6, tys7, tys8, tys9, tys10, Try.ntmps23, Try.results23, e2, f3, f4, List.append_assoc, List.cons_append, getL, setL, List.length_map, Int.toNat_natCast, Int.natCast_nonneg]
      exact ⟨by (try simp only [List.length_append, List.length_cons, List.length_nil, Nat.zero_add]); repeat constructor, by simp [twI]⟩
    · refine ⟨⟨k, d ++ [(if a < 12 then a else 12, if (d.length : Int) + 1 < 12 then (d.length : Int) + 1 else 12)], p4, s4⟩, ⟨by simp only [List.length_append, List.length_cons, List.length_nil]; omega, by simp only; omega⟩, by simp only; omega, ?_⟩
      refine W.sound hmix (E := []) ?_
      simp only [run0, run1, run2, run3, run4, run5, run6, run7, run8, run9, run10, run11, run12, run13, run14, run15, run16, run17, run18, run19, run20, run21, run22, reduceCtorEq, Nat.reduceEqDiff, Nat.reduceAdd, Nat.reduceSub, Nat.reduceLeDiff, indexAddrA, indexRefA, appendA, strA, Nat.reduceMul, Nat.zero_mul, Nat.reduceMod, Int.reduceEq, Int.reduceLT, Int.reduceLE, Nat.reduceLT, Nat.lt_irrefl, Nat.reduceBEq, tys0, tys1, tys2, tys3, tys4, tys5, tys6, tys7, tys8, tys9, tys10, Try.ntmps23, Try.results23, e1, e3, e4, getL]
      refine RunL.callM rfl rfl ok_f43 rfl rfl c2 rfl ?_
      simp only [run0, run1, run2, run3, run4, run5, run6, run7, run8, run9, run10, run11, run12, run13, run14, run15, run16, run17, run18, run19, run20, run21, run22, reduceCtorEq, Nat.reduceEqDiff, Nat.reduceAdd, Nat.reduceSub, Nat.reduceLeDiff, indexAddrA, indexRefA, appendA, strA, Nat.reduceMul, Nat.zero_mul, Nat.reduceMod, Int.reduceEq, Int.reduceLT, Int.reduceLE, Nat.reduceLT, Nat.lt_irrefl, Nat.reduceBEq, tys0, tys1, tys2, tys3, tys4, tys5, tys6, tys7, tys8, tys9, tys10, Try.ntmps23, Try.results23, e1, e3, e4, getL]
      refine RunL.callM rfl rfl ok_f43 rfl rfl c3 rfl ?_
      simp only [run0, run1, run2, run3, run4, run5, run6, run7, run8, run9, run10, run11, run12, run13, run14, run15, run16, run17, run18, run19, run20, run21, run22, reduceCtorEq, Nat.reduceEqDiff, Nat.reduceAdd, Nat.reduceSub, Nat.reduceLeDiff, indexAddrA, indexRefA, appendA, strA, Nat.reduceMul, Nat.zero_mul, Nat.reduceMod, Int.reduceEq, Int.reduceLT, Int.reduceLE, Nat.reduceLT, Nat.lt_irrefl, Nat.reduceBEq, tys0, tys1, tys2, tys3, tys4, tys5, tys6, tys7, tys8, tys9, tys10, Try.ntmps23, Try.results23, e1, e3, e4, getL]
      refine RunL.callM rfl rfl ok_f44 rfl rfl c4 rfl ?_
      simp only [run0, run1, run2, run3, run4, run5, run6, run7, run8, run9, run10, run11, run12, run13, run14, run15, run16, run17, run18, run19, run20, run21, run22, reduceCtorEq, Nat.reduceEqDiff, Nat.reduceAdd, Nat.reduceSub, Nat.reduceLeDiff, indexAddrA, indexRefA, appendA, strA, Nat.reduceMul, Nat.zero_mul, Nat.reduceMod, Int.reduceEq, Int.reduceLT, Int.reduceLE, Nat.reduceLT, Nat.lt_irrefl, Nat.reduceBEq, tys0, tys1, tys2, tys3, tys4, tys5, tys6, tys7, tys8, tys9, tys10, Try.ntmps23, Try.results23, e1, e3, e4, getL]
      refine RunL.callp rfl rfl ok_f45 (least_ok a 12) (by first | rfl | simp only [pureL, pureB, Bool.and_self, Bool.and_true, Bool.true_and]) rfl ?_
      simp only [run0, run1, run2, run3, run4, run5, run6, run7, run8, run9, run10, run11, run12, run13, run14, run15, run16, run17, run18, run19, run20, run21, run22, reduceCtorEq, Nat.reduceEqDiff, Nat.reduceAdd, Nat.reduceSub, Nat.reduceLeDiff, indexAddrA, indexRefA, appendA, strA, Nat.reduceMul, Nat.zero_mul, Nat.reduceMod, Int.reduceEq, Int.reduceLT, Int.reduceLE, Nat.reduceLT, Nat.lt_irrefl, Nat.reduceBEq, tys0, tys1, tys2, tys3, tys4, tys5, tys6, tys7, tys8, tys9, tys10, Try.ntmps23, Try.results23, e1]
      refine RunL.callp rfl rfl ok_f45 (least_ok ((d.length : Int) + 1) 12) (by first | rfl | simp only [pureL, pureB, Bool.and_self, Bool.and_true, Bool.true_and]) rfl ?_
      simp only [run0, run1, run2, run3, run4, run5, run6, run7, run8, run9, run10, run11, run12, run13, run14, run15, run16, run17, run18, run19, run20, run21, run22, reduceCtorEq, Nat.reduceEqDiff, Nat.reduceAdd, Nat.reduceSub, Nat.reduceLeDiff, indexAddrA, indexRefA, appendA, strA, Nat.reduceMul, Nat.zero_mul, Nat.reduceMod, Int.reduceEq, Int.reduceLT, Int.reduceLE, Nat.reduceLT, Nat.lt_irrefl, Nat.reduceBEq, tys0, tys1, tys2, tys3, tys4, tys5, tys6, tys7, tys8, tys9, tys10, Try.ntmps23, Try.results23, e2, f3, f4, List.append_assoc, List.cons_append, getL, setL, List.length_map, Int.toNat_natCast, Int.natCast_nonneg]
      exact ⟨by (try simp only [List.length_append, List.length_cons, List.length_nil, Nat.zero_add]); repeat constructor, by simp [twI]⟩

end Go.Proofs.Ytobdpkkmkbafbaa
/-
  A slice that is nil, told as a row of the call's own that was written any number of times.
-/
namespace Go.Proofs.Ytobdpkkmkbafbaa.K
set_option linter.unusedVariables false
set_option linter.unusedSimpArgs false
open Go Go.RowKit
set_option maxRecDepth 8000

theorem Inv.moreVecG {γ : Nat → Gh} {L : List AObj} {w : World} (h : Inv γ L w) (T : TypeId) (sz gen : Nat) : Inv γ (L ++ [AObj.vec T sz gen []]) w := by
  have get : ∀ {id : Nat} {o : AObj}, (L ++ [AObj.vec T sz gen []])[id]? = some o → (∀ T sz g es, o ≠ .vec T sz g es) → L[id]? = some o := by
    intro id o hL hne
    by_cases hid : id < L.length
    · rwa [List.getElem?_append_left hid] at hL
    · rw [List.getElem?_append_right (by omega)] at hL
      obtain ⟨h1, h2⟩ := List.getElem?_eq_some_iff.1 hL
      simp at h1
      have : id - L.length = 0 := by omega
      simp [this] at h2
      exact absurd h2.symm (hne _ _ _ _)
  refine ⟨h.ro, fun b id p c hb => ?_, h.inj, fun id T cs hL => h.box _ _ _ (get hL (by intros; simp)), fun id kt vt es hL => h.map _ _ _ _ (get hL (by intros; simp))⟩
  obtain ⟨o, ho, hr⟩ := h.ow _ _ _ _ hb
  exact ⟨o, ho, hr.grow (.more _ _ _) (h.idlt hb) (fun _ _ _ h => h) (fun _ _ _ h => h)⟩
theorem AWp.nilG {P : Program} {c : Code} {Q : Exit → St → Prop} {s : St} (j : Nat) (T : TypeId) (sz gen : Nat) (hj : s.t[j]? = some (.lit (.slice none 0 0)))
    (h : AWp P c Q ⟨s.t.set j (.ref s.L.length [] gen 0), s.L ++ [.vec T sz gen []]⟩) : AWp P c Q s := by
  intro ro γ a w hp hr
  have hE := Ext.more γ s.L [AObj.vec T sz gen []]
  have hI := hr.inv.moreVecG T sz gen
  have hr' : Rel γ ⟨s.t.set j (.ref s.L.length [] gen 0), s.L ++ [AObj.vec T sz gen []]⟩ a w := by
    have hm := hr.mono hE hI
    refine ⟨hm.defers, by simpa using hm.size, fun i x hx => ?_, hI⟩
    by_cases hij : j = i
    · subst hij
      have hlt := (List.getElem?_eq_some_iff.1 hj).1
      simp [hlt] at hx
      subst hx
      have hv := hr.tmps j _ hj
      generalize a.tmps.getD j undef = v at hv
      cases hv
      refine .ref _ _ _ _ _ ?_ rfl
      unfold RefOk
      simp only [List.getElem?_append_right (Nat.le_refl _), Nat.sub_self, List.getElem?_cons_zero]
      refine ⟨Nat.le_refl _, fun _ => ⟨[], rfl, Nat.le_refl _, .inl ⟨by trivial, by trivial, fun b c hb => ?_⟩⟩⟩
      have := hr.inv.idlt hb
      omega
    · rw [List.getElem?_set_ne hij] at hx
      exact hm.tmps i x hx
  refine wpIn_mono (h ro γ a w hp hr') ?_
  rintro e a' w' ⟨γ', s', h1, h2, h3, h4⟩
  exact ⟨γ', s', h1, hE.trans h2, h3, h4⟩

end Go.Proofs.Ytobdpkkmkbafbaa.K
/-
  Green pictures: drawn; right by the reference; cloned.
-/
namespace Go.Proofs.Ytobdpkkmkbafbaa
open Go K
set_option linter.unusedSimpArgs false
set_option linter.unusedVariables false
set_option maxHeartbeats 1600000
set_option maxRecDepth 8000

theorem Vw_twI {L : List AObj} {id g n : Nat} {T : TypeId} {es : List AV} {l : List TwZ} {o : Bool} (hL : L[id]? = some (.vec T 2 g es)) (he : es = l.map twI) (hn : n = l.length) : Vw L (.ref id [] g n) (.sl o (l.map twI)) := by
  subst he hn
  have := Vw.refPur (L := L) (id := id) (g := g) (n := l.length) (o := o) hL (by simp) (fun e he c hc => by
    obtain ⟨e', _, rfl⟩ := List.mem_map.1 he
    simp only [twI, AV.cells, List.mem_cons, List.not_mem_nil, or_false] at hc
    rcases hc with rfl | rfl <;> exact ⟨.of rfl, fun xs h => by cases h⟩)
  rwa [List.take_of_length_le (by simp)] at this
theorem drawJoin_ok (code : List Int) (hc : bytesOk code) : ∃ (l r : List TwZ), l.length ≤ 15 ∧ r.length ≤ 15 ∧ Ct Try.prog 7 [.sl false (bytesV code)] [] (.tup [.sl false (l.map twI), .sl false (r.map twI)]) [] := by
  obtain ⟨l, p1, s1, h1, h2, c1⟩ := green_ok code hc 0 (by omega) 0 7 (by omega) (by omega) [curB code 0 0] 0 rfl
  simp only [List.set_cons_zero, List.length_cons, List.length_nil, List.cons_append, List.nil_append] at c1
  obtain ⟨r, p2, s2, h3, h4, c2⟩ := green_ok code hc p1 (by omega) s1 7 (by omega) (by omega) [curB code p1 s1, .vec 30 2 l.length (l.map twI)] 0 rfl
  simp only [List.set_cons_zero, List.length_cons, List.length_nil, List.cons_append, List.nil_append] at c2
  refine ⟨l, r, h1, h3, ?_⟩
  refine Ct.by_ hmix [] Try.func7 rfl ?_
  simp only [run0, run1, run2, run3, run4, run5, run6, run7, run8, run9, run10, run11, run12, run13, run14, run15, run16, run17, run18, run19, run20, run21, run22, reduceCtorEq, Nat.reduceEqDiff, Nat.reduceAdd, Nat.reduceSub, Nat.reduceLeDiff, indexAddrA, indexRefA, appendA, strA, Nat.reduceMul, Nat.zero_mul, Nat.reduceMod, Int.reduceEq, Int.reduceLT, Int.reduceLE, Nat.reduceLT, Nat.lt_irrefl, Nat.reduceBEq, tys0, tys1, tys2, tys3, tys4, tys5, tys6, tys7, tys8, tys9, tys10, Try.ntmps7, Try.results7]
  refine RunL.callM rfl rfl ok_f23 rfl rfl c1 rfl ?_
  simp only [run0, run1, run2, run3, run4, run5, run6, run7, run8, run9, run10, run11, run12, run13, run14, run15, run16, run17, run18, run19, run20, run21, run22, reduceCtorEq, Nat.reduceEqDiff, Nat.reduceAdd, Nat.reduceSub, Nat.reduceLeDiff, indexAddrA, indexRefA, appendA, strA, Nat.reduceMul, Nat.zero_mul, Nat.reduceMod, Int.reduceEq, Int.reduceLT, Int.reduceLE, Nat.reduceLT, Nat.lt_irrefl, Nat.reduceBEq, tys0, tys1, tys2, tys3, tys4, tys5, tys6, tys7, tys8, tys9, tys10, Try.ntmps7, Try.results7]
  refine RunL.callM rfl rfl ok_f23 rfl rfl c2 rfl ?_
  simp only [run0, run1, run2, run3, run4, run5, run6, run7, run8, run9, run10, run11, run12, run13, run14, run15, run16, run17, run18, run19, run20, run21, run22, reduceCtorEq, Nat.reduceEqDiff, Nat.reduceAdd, Nat.reduceSub, Nat.reduceLeDiff, indexAddrA, indexRefA, appendA, strA, Nat.reduceMul, Nat.zero_mul, Nat.reduceMod, Int.reduceEq, Int.reduceLT, Int.reduceLE, Nat.reduceLT, Nat.lt_irrefl, Nat.reduceBEq, tys0, tys1, tys2, tys3, tys4, tys5, tys6, tys7, tys8, tys9, tys10, Try.ntmps7, Try.results7]
  exact Fin.value (.tup (.cons (Vw_twI (T := 30) (by rfl) rfl rfl) (.cons (Vw_twI (T := 30) (by rfl) rfl rfl) .nil)))
theorem drawPlay_ok (code : List Int) (hc : bytesOk code) : ∃ (l : List TwZ), l.length ≤ 15 ∧ Ct Try.prog 13 [.sl false (bytesV code)] [] (.sl false (l.map twI)) [] := by
  obtain ⟨l, p1, s1, h1, h2, c1⟩ := green_ok code hc 0 (by omega) 0 8 (by omega) (by omega) [curB code 0 0] 0 rfl
  simp only [List.set_cons_zero, List.length_cons, List.length_nil, List.cons_append, List.nil_append] at c1
  refine ⟨l, h1, ?_⟩
  refine Ct.by_ hmix [] Try.func13 rfl ?_
  simp only [run0, run1, run2, run3, run4, run5, run6, run7, run8, run9, run10, run11, run12, run13, run14, run15, run16, run17, run18, run19, run20, run21, run22, reduceCtorEq, Nat.reduceEqDiff, Nat.reduceAdd, Nat.reduceSub, Nat.reduceLeDiff, indexAddrA, indexRefA, appendA, strA, Nat.reduceMul, Nat.zero_mul, Nat.reduceMod, Int.reduceEq, Int.reduceLT, Int.reduceLE, Nat.reduceLT, Nat.lt_irrefl, Nat.reduceBEq, tys0, tys1, tys2, tys3, tys4, tys5, tys6, tys7, tys8, tys9, tys10, Try.ntmps13, Try.results13]
  refine RunL.callM rfl rfl ok_f23 rfl rfl c1 rfl ?_
  simp only [run0, run1, run2, run3, run4, run5, run6, run7, run8, run9, run10, run11, run12, run13, run14, run15, run16, run17, run18, run19, run20, run21, run22, reduceCtorEq, Nat.reduceEqDiff, Nat.reduceAdd, Nat.reduceSub, Nat.reduceLeDiff, indexAddrA, indexRefA, appendA, strA, Nat.reduceMul, Nat.zero_mul, Nat.reduceMod, Int.reduceEq, Int.reduceLT, Int.reduceLE, Nat.reduceLT, Nat.lt_irrefl, Nat.reduceBEq, tys0, tys1, tys2, tys3, tys4, tys5, tys6, tys7, tys8, tys9, tys10, Try.ntmps13, Try.results13]
  exact Fin.value (Vw_twI (T := 30) (by rfl) rfl rfl)
theorem drawWin_ok (code : List Int) (hc : bytesOk code) : ∃ (l : List TwZ), l.length ≤ 15 ∧ Ct Try.prog 18 [.sl false (bytesV code)] [] (.sl false (l.map twI)) [] := by
  obtain ⟨l, p1, s1, h1, h2, c1⟩ := green_ok code hc 0 (by omega) 0 8 (by omega) (by omega) [curB code 0 0] 0 rfl
  simp only [List.set_cons_zero, List.length_cons, List.length_nil, List.cons_append, List.nil_append] at c1
  refine ⟨l, h1, ?_⟩
  refine Ct.by_ hmix [] Try.func18 rfl ?_
  simp only [run0, run1, run2, run3, run4, run5, run6, run7, run8, run9, run10, run11, run12, run13, run14, run15, run16, run17, run18, run19, run20, run21, run22, reduceCtorEq, Nat.reduceEqDiff, Nat.reduceAdd, Nat.reduceSub, Nat.reduceLeDiff, indexAddrA, indexRefA, appendA, strA, Nat.reduceMul, Nat.zero_mul, Nat.reduceMod, Int.reduceEq, Int.reduceLT, Int.reduceLE, Nat.reduceLT, Nat.lt_irrefl, Nat.reduceBEq, tys0, tys1, tys2, tys3, tys4, tys5, tys6, tys7, tys8, tys9, tys10, Try.ntmps18, Try.results18]
  refine RunL.callM rfl rfl ok_f23 rfl rfl c1 rfl ?_
  simp only [run0, run1, run2, run3, run4, run5, run6, run7, run8, run9, run10, run11, run12, run13, run14, run15, run16, run17, run18, run19, run20, run21, run22, reduceCtorEq, Nat.reduceEqDiff, Nat.reduceAdd, Nat.reduceSub, Nat.reduceLeDiff, indexAddrA, indexRefA, appendA, strA, Nat.reduceMul, Nat.zero_mul, Nat.reduceMod, Int.reduceEq, Int.reduceLT, Int.reduceLE, Nat.reduceLT, Nat.lt_irrefl, Nat.reduceBEq, tys0, tys1, tys2, tys3, tys4, tys5, tys6, tys7, tys8, tys9, tys10, Try.ntmps18, Try.results18]
  exact Fin.value (Vw_twI (T := 30) (by rfl) rfl rfl)
theorem l1In_ok (n lo hi : Int) : Ct Try.prog 59 [.int .i64 n, .int .i64 lo, .int .i64 hi] [] (.bool (inK n lo hi)) [] := by
  refine Ct.by_ hmix [] Try.func59 rfl ?_
  by_cases h1 : lo ≤ n
  · by_cases h2 : n ≤ hi
    · simp only [run0, run1, run2, run3, run4, run5, run6, run7, run8, run9, run10, run11, run12, run13, run14, run15, run16, run17, run18, run19, run20, run21, run22, reduceCtorEq, Nat.reduceEqDiff, Nat.reduceAdd, Nat.reduceSub, Nat.reduceLeDiff, indexAddrA, indexRefA, appendA, strA, Nat.reduceMul, Nat.zero_mul, Nat.reduceMod, Int.reduceEq, Int.reduceLT, Int.reduceLE, Nat.reduceLT, Nat.lt_irrefl, Nat.reduceBEq, tys0, tys1, tys2, tys3, tys4, tys5, tys6, tys7, tys8, tys9, tys10, Try.ntmps59, Try.results59, h1, h2]
      exact Fin.eq (by simp [inK, h1, h2]) rfl
    · simp only [run0, run1, run2, run3, run4, run5, run6, run7, run8, run9, run10, run11, run12, run13, run14, run15, run16, run17, run18, run19, run20, run21, run22, reduceCtorEq, Nat.reduceEqDiff, Nat.reduceAdd, Nat.reduceSub, Nat.reduceLeDiff, indexAddrA, indexRefA, appendA, strA, Nat.reduceMul, Nat.zero_mul, Nat.reduceMod, Int.reduceEq, Int.reduceLT, Int.reduceLE, Nat.reduceLT, Nat.lt_irrefl, Nat.reduceBEq, tys0, tys1, tys2, tys3, tys4, tys5, tys6, tys7, tys8, tys9, tys10, Try.ntmps59, Try.results59, h1, h2]
      exact Fin.eq (by simp [inK, h1, h2]) rfl
  · simp only [run0, run1, run2, run3, run4, run5, run6, run7, run8, run9, run10, run11, run12, run13, run14, run15, run16, run17, run18, run19, run20, run21, run22, reduceCtorEq, Nat.reduceEqDiff, Nat.reduceAdd, Nat.reduceSub, Nat.reduceLeDiff, indexAddrA, indexRefA, appendA, strA, Nat.reduceMul, Nat.zero_mul, Nat.reduceMod, Int.reduceEq, Int.reduceLT, Int.reduceLE, Nat.reduceLT, Nat.lt_irrefl, Nat.reduceBEq, tys0, tys1, tys2, tys3, tys4, tys5, tys6, tys7, tys8, tys9, tys10, Try.ntmps59, Try.results59, h1]
    exact Fin.eq (by simp [inK, h1]) rfl
theorem grTwig_ok (t : TwZ) : Ct Try.prog 49 [twI t] [] (.bool (okTw t)) [] := by
  refine Ct.by_ hmix [] Try.func49 rfl ?_
  simp only [run0, run1, run2, run3, run4, run5, run6, run7, run8, run9, run10, run11, run12, run13, run14, run15, run16, run17, run18, run19, run20, run21, run22, reduceCtorEq, Nat.reduceEqDiff, Nat.reduceAdd, Nat.reduceSub, Nat.reduceLeDiff, indexAddrA, indexRefA, appendA, strA, Nat.reduceMul, Nat.zero_mul, Nat.reduceMod, Int.reduceEq, Int.reduceLT, Int.reduceLE, Nat.reduceLT, Nat.lt_irrefl, Nat.reduceBEq, tys0, tys1, tys2, tys3, tys4, tys5, tys6, tys7, tys8, tys9, tys10, Try.ntmps49, Try.results49, twI]
  refine RunL.callp rfl rfl ok_f59 (l1In_ok t.1 0 12) (by first | rfl | simp only [pureL, pureB, Bool.and_self, Bool.and_true, Bool.true_and]) rfl ?_
  cases h1 : inK t.1 0 12
  · simp only [run0, run1, run2, run3, run4, run5, run6, run7, run8, run9, run10, run11, run12, run13, run14, run15, run16, run17, run18, run19, run20, run21, run22, reduceCtorEq, Nat.reduceEqDiff, Nat.reduceAdd, Nat.reduceSub, Nat.reduceLeDiff, indexAddrA, indexRefA, appendA, strA, Nat.reduceMul, Nat.zero_mul, Nat.reduceMod, Int.reduceEq, Int.reduceLT, Int.reduceLE, Nat.reduceLT, Nat.lt_irrefl, Nat.reduceBEq, tys0, tys1, tys2, tys3, tys4, tys5, tys6, tys7, tys8, tys9, tys10, Try.ntmps49, Try.results49]
    exact Fin.eq (by simp [okTw, h1]) rfl
  · simp only [run0, run1, run2, run3, run4, run5, run6, run7, run8, run9, run10, run11, run12, run13, run14, run15, run16, run17, run18, run19, run20, run21, run22, reduceCtorEq, Nat.reduceEqDiff, Nat.reduceAdd, Nat.reduceSub, Nat.reduceLeDiff, indexAddrA, indexRefA, appendA, strA, Nat.reduceMul, Nat.zero_mul, Nat.reduceMod, Int.reduceEq, Int.reduceLT, Int.reduceLE, Nat.reduceLT, Nat.lt_irrefl, Nat.reduceBEq, tys0, tys1, tys2, tys3, tys4, tys5, tys6, tys7, tys8, tys9, tys10, Try.ntmps49, Try.results49]
    refine RunL.callp rfl rfl ok_f59 (l1In_ok t.2 0 12) (by first | rfl | simp only [pureL, pureB, Bool.and_self, Bool.and_true, Bool.true_and]) rfl ?_
    simp only [run0, run1, run2, run3, run4, run5, run6, run7, run8, run9, run10, run11, run12, run13, run14, run15, run16, run17, run18, run19, run20, run21, run22, reduceCtorEq, Nat.reduceEqDiff, Nat.reduceAdd, Nat.reduceSub, Nat.reduceLeDiff, indexAddrA, indexRefA, appendA, strA, Nat.reduceMul, Nat.zero_mul, Nat.reduceMod, Int.reduceEq, Int.reduceLT, Int.reduceLE, Nat.reduceLT, Nat.lt_irrefl, Nat.reduceBEq, tys0, tys1, tys2, tys3, tys4, tys5, tys6, tys7, tys8, tys9, tys10, Try.ntmps49, Try.results49]
    exact Fin.eq (by simp [okTw, h1]) rfl
structure GoS where
  d : List TwZ
  r : List TwZ
  X : List AObj
theorem grGood_ok (g : List TwZ) (hl : g.length ≤ 1048576) : Ct Try.prog 27 [.sl false (g.map twI)] [] (.bool (picB g)) [] := by
  refine Ct.by_ hmix [] Try.func27 rfl ?_
  simp only [run0, run1, run2, run3, run4, run5, run6, run7, run8, run9, run10, run11, run12, run13, run14, run15, run16, run17, run18, run19, run20, run21, run22, reduceCtorEq, Nat.reduceEqDiff, Nat.reduceAdd, Nat.reduceSub, Nat.reduceLeDiff, indexAddrA, indexRefA, appendA, strA, Nat.reduceMul, Nat.zero_mul, Nat.reduceMod, Int.reduceEq, Int.reduceLT, Int.reduceLE, Nat.reduceLT, Nat.lt_irrefl, Nat.reduceBEq, tys0, tys1, tys2, tys3, tys4, tys5, tys6, tys7, tys8, tys9, tys10, Try.ntmps27, Try.results27, List.length_map]
  refine AWp.loop_inv (ι := GoS) (fun p => ⟨[.sl false (g.map twI), .junk, .bool false, .junk, .junk, .sl false (g.map twI), .int .i64 g.length, .int .i64 p.d.length, .junk, .junk, .junk, .junk, .junk, .junk, .junk, .junk, .junk, .junk], p.X⟩)
    (fun p => g = p.d ++ p.r ∧ p.d.all okTw = true) (fun p => p.r.length) ⟨[], g, []⟩ ⟨rfl, rfl⟩ ⟨by simp only [List.length_nil, Int.natCast_zero]; repeat constructor, rfl⟩ ?_
  rintro ⟨d, r, X⟩ ⟨ha, h4⟩
  refine W.sound hmix (E := []) ?_
  simp only at ha h4
  have hda : d.length + r.length = g.length := by rw [ha, List.length_append]
  cases r with
  | nil =>
    have e1 : ¬ ((d.length : Int) < (g.length : Int)) := by simp at hda; omega
    rw [List.append_nil] at ha
    subst ha
    by_cases h14 : g.length ≤ 14
    · have e2 : (g.length : Int) ≤ 14 := by omega
      simp only [run0, run1, run2, run3, run4, run5, run6, run7, run8, run9, run10, run11, run12, run13, run14, run15, run16, run17, run18, run19, run20, run21, run22, reduceCtorEq, Nat.reduceEqDiff, Nat.reduceAdd, Nat.reduceSub, Nat.reduceLeDiff, indexAddrA, indexRefA, appendA, strA, Nat.reduceMul, Nat.zero_mul, Nat.reduceMod, Int.reduceEq, Int.reduceLT, Int.reduceLE, Nat.reduceLT, Nat.lt_irrefl, Nat.reduceBEq, tys0, tys1, tys2, tys3, tys4, tys5, tys6, tys7, tys8, tys9, tys10, Try.ntmps27, Try.results27, e1, e2, List.length_map]
      exact Fin.eq (by simp only [picB, h4, h14, decide_true, Bool.and_self]) rfl
    · have e2 : ¬ (g.length : Int) ≤ 14 := by omega
      simp only [run0, run1, run2, run3, run4, run5, run6, run7, run8, run9, run10, run11, run12, run13, run14, run15, run16, run17, run18, run19, run20, run21, run22, reduceCtorEq, Nat.reduceEqDiff, Nat.reduceAdd, Nat.reduceSub, Nat.reduceLeDiff, indexAddrA, indexRefA, appendA, strA, Nat.reduceMul, Nat.zero_mul, Nat.reduceMod, Int.reduceEq, Int.reduceLT, Int.reduceLE, Nat.reduceLT, Nat.lt_irrefl, Nat.reduceBEq, tys0, tys1, tys2, tys3, tys4, tys5, tys6, tys7, tys8, tys9, tys10, Try.ntmps27, Try.results27, e1, e2, List.length_map]
      exact Fin.eq (by simp only [picB, h14, decide_false, Bool.false_and]) rfl
  | cons t r =>
    simp only [List.length_cons] at hda
    have e1 : (d.length : Int) < (g.length : Int) := by omega
    have e2 : (g.map twI)[d.length]? = some (twI t) := by rw [ha]; simp
    have e5 : IntKind.i64.wrap ((d.length : Int) + 1) = ((d ++ [t]).length : Int) := by rw [s64_id (by omega) (by omega)]; simp
    have hcl := grTwig_ok t
    simp only [twI] at e2 hcl
    simp only [run0, run1, run2, run3, run4, run5, run6, run7, run8, run9, run10, run11, run12, run13, run14, run15, run16, run17, run18, run19, run20, run21, run22, reduceCtorEq, Nat.reduceEqDiff, Nat.reduceAdd, Nat.reduceSub, Nat.reduceLeDiff, indexAddrA, indexRefA, appendA, strA, Nat.reduceMul, Nat.zero_mul, Nat.reduceMod, Int.reduceEq, Int.reduceLT, Int.reduceLE, Nat.reduceLT, Nat.lt_irrefl, Nat.reduceBEq, tys0, tys1, tys2, tys3, tys4, tys5, tys6, tys7, tys8, tys9, tys10, Try.ntmps27, Try.results27, e1, e2, Int.toNat_natCast, Int.natCast_nonneg]
    refine RunL.callp rfl rfl ok_f49 hcl rfl rfl ?_
    cases h1 : okTw t
    · simp only [run0, run1, run2, run3, run4, run5, run6, run7, run8, run9, run10, run11, run12, run13, run14, run15, run16, run17, run18, run19, run20, run21, run22, reduceCtorEq, Nat.reduceEqDiff, Nat.reduceAdd, Nat.reduceSub, Nat.reduceLeDiff, indexAddrA, indexRefA, appendA, strA, Nat.reduceMul, Nat.zero_mul, Nat.reduceMod, Int.reduceEq, Int.reduceLT, Int.reduceLE, Nat.reduceLT, Nat.lt_irrefl, Nat.reduceBEq, tys0, tys1, tys2, tys3, tys4, tys5, tys6, tys7, tys8, tys9, tys10, Try.ntmps27, Try.results27]
      refine Fin.eq ?_ rfl
      have : picB g = false := by rw [ha]; simp [picB, h1]
      rw [this]
    · simp only [run0, run1, run2, run3, run4, run5, run6, run7, run8, run9, run10, run11, run12, run13, run14, run15, run16, run17, run18, run19, run20, run21, run22, reduceCtorEq, Nat.reduceEqDiff, Nat.reduceAdd, Nat.reduceSub, Nat.reduceLeDiff, indexAddrA, indexRefA, appendA, strA, Nat.reduceMul, Nat.zero_mul, Nat.reduceMod, Int.reduceEq, Int.reduceLT, Int.reduceLE, Nat.reduceLT, Nat.lt_irrefl, Nat.reduceBEq, tys0, tys1, tys2, tys3, tys4, tys5, tys6, tys7, tys8, tys9, tys10, Try.ntmps27, Try.results27, e5]
      exact ⟨⟨d ++ [t], r, _⟩, ⟨by rw [ha]; simp, by simp [h4, h1]⟩, by simp, by simp only [List.length_append, List.length_cons, List.length_nil]; repeat constructor, rfl⟩
theorem undTws : Try.prog.underlying 24 = some (.slice 30) := by kernel_rfl
theorem cloneT_ok (g : List TwZ) (o : Bool) (hl : g.length ≤ 1048576) : Ct Try.prog 26 [.sl o (g.map twI)] [] (.ref 0 [] 1 g.length) [.vec 30 2 1 (g.map twI)] := by
  have f3 : g.length ≤ 137438953472 := by omega
  have f4 := twI_noOwn g
  have f5 : ((g.map twI).all fun z => z.cells.length == 2) = true := by
    refine List.all_eq_true.2 fun e he => ?_
    obtain ⟨y, _, rfl⟩ := List.mem_map.1 he
    rfl
  refine Ct.intro Try.func26 rfl ?_
  refine AWp.seq ?_
  refine W.sound hmix (E := []) ?_
  simp only [run0, run1, run2, run3, run4, run5, run6, run7, run8, run9, run10, run11, run12, run13, run14, run15, run16, run17, run18, run19, run20, run21, run22, reduceCtorEq, Nat.reduceEqDiff, Nat.reduceAdd, Nat.reduceSub, Nat.reduceLeDiff, indexAddrA, indexRefA, appendA, strA, Nat.reduceMul, Nat.zero_mul, Nat.reduceMod, Int.reduceEq, Int.reduceLT, Int.reduceLE, Nat.reduceLT, Nat.lt_irrefl, Nat.reduceBEq, tys0, tys1, tys2, tys3, tys4, tys5, tys6, tys7, tys8, tys9, tys10, Try.ntmps26, Try.results26]
  refine AWp.seq (AWp.seq (AWp.nilTest rfl rfl rfl rfl rfl rfl undTws rfl ?_ (fun e he => ?_) ?_))
  · exact (by decide : 3 < 8)
  · obtain ⟨y, _, rfl⟩ := List.mem_map.1 he
    simp [AV.cells, twI]
  intro b hb
  refine AWp.cond (b := b) rfl (fun h => ?_) (fun h => ?_)
  · subst h
    have : g = [] := by
      cases g with
      | nil => rfl
      | cons a r => have := hb (by simp); cases this
    subst this
    refine AWp.seq ?_
    refine W.sound hmix (E := []) ?_
    simp only [run0, run1, run2, run3, run4, run5, run6, run7, run8, run9, run10, run11, run12, run13, run14, run15, run16, run17, run18, run19, run20, run21, run22, reduceCtorEq, Nat.reduceEqDiff, Nat.reduceAdd, Nat.reduceSub, Nat.reduceLeDiff, indexAddrA, indexRefA, appendA, strA, Nat.reduceMul, Nat.zero_mul, Nat.reduceMod, Int.reduceEq, Int.reduceLT, Int.reduceLE, Nat.reduceLT, Nat.lt_irrefl, Nat.reduceBEq, tys0, tys1, tys2, tys3, tys4, tys5, tys6, tys7, tys8, tys9, tys10, Try.ntmps26, Try.results26]
    refine AWp.nilG 2 30 2 1 rfl ?_
    refine W.sound hmix (E := []) ?_
    simp only [run0, run1, run2, run3, run4, run5, run6, run7, run8, run9, run10, run11, run12, run13, run14, run15, run16, run17, run18, run19, run20, run21, run22, reduceCtorEq, Nat.reduceEqDiff, Nat.reduceAdd, Nat.reduceSub, Nat.reduceLeDiff, indexAddrA, indexRefA, appendA, strA, Nat.reduceMul, Nat.zero_mul, Nat.reduceMod, Int.reduceEq, Int.reduceLT, Int.reduceLE, Nat.reduceLT, Nat.lt_irrefl, Nat.reduceBEq, tys0, tys1, tys2, tys3, tys4, tys5, tys6, tys7, tys8, tys9, tys10, Try.ntmps26, Try.results26]
    exact Fin.own rfl rfl
  · subst h
    refine W.sound hmix (E := []) ?_
    simp only [run0, run1, run2, run3, run4, run5, run6, run7, run8, run9, run10, run11, run12, run13, run14, run15, run16, run17, run18, run19, run20, run21, run22, reduceCtorEq, Nat.reduceEqDiff, Nat.reduceAdd, Nat.reduceSub, Nat.reduceLeDiff, indexAddrA, indexRefA, appendA, strA, Nat.reduceMul, Nat.zero_mul, Nat.reduceMod, Int.reduceEq, Int.reduceLT, Int.reduceLE, Nat.reduceLT, Nat.lt_irrefl, Nat.reduceBEq, tys0, tys1, tys2, tys3, tys4, tys5, tys6, tys7, tys8, tys9, tys10, Try.ntmps26, Try.results26]
    refine W.sound hmix (E := []) ?_
    simp only [run0, run1, run2, run3, run4, run5, run6, run7, run8, run9, run10, run11, run12, run13, run14, run15, run16, run17, run18, run19, run20, run21, run22, reduceCtorEq, Nat.reduceEqDiff, Nat.reduceAdd, Nat.reduceSub, Nat.reduceLeDiff, indexAddrA, indexRefA, appendA, strA, Nat.reduceMul, Nat.zero_mul, Nat.reduceMod, Int.reduceEq, Int.reduceLT, Int.reduceLE, Nat.reduceLT, Nat.lt_irrefl, Nat.reduceBEq, tys0, tys1, tys2, tys3, tys4, tys5, tys6, tys7, tys8, tys9, tys10, Try.ntmps26, Try.results26, List.length_map, f3, f4, f5, Nat.zero_add, List.nil_append]
    exact Fin.own rfl rfl

end Go.Proofs.Ytobdpkkmkbafbaa
/-
  Green pictures: their values, by fusion and by play.
-/
namespace Go.Proofs.Ytobdpkkmkbafbaa
open Go K
set_option linter.unusedSimpArgs false
set_option linter.unusedVariables false
set_option maxHeartbeats 1600000
set_option maxRecDepth 8000

def natG (g : List TwZ) : GTw := g.map fun t => (t.1.toNat, t.2.toNat)
theorem natG_len (g : List TwZ) : (natG g).length = g.length := by simp [natG]
theorem natG_at {g : List TwZ} {i : Nat} : (natG g)[i]? = (g[i]?).map fun t => (t.1.toNat, t.2.toNat) := by simp [natG]
theorem okTw_nat {t : TwZ} (h : okTw t = true) : (0 ≤ t.1 ∧ t.1 ≤ 12) ∧ (0 ≤ t.2 ∧ t.2 ≤ 12) := by
  simpa [okTw, inK, and_assoc] using h
theorem picB_nat {g : List TwZ} (h : picB g = true) : Pic (natG g) ∧ (natG g).map twE = g.map twI := by
  simp only [picB, Bool.and_eq_true, decide_eq_true_eq, List.all_eq_true] at h
  refine ⟨⟨by rw [natG_len]; exact h.1, fun t ht => ?_⟩, ?_⟩
  · simp only [natG, List.mem_map] at ht
    obtain ⟨u, hu, rfl⟩ := ht
    obtain ⟨⟨a1, a2⟩, b1, b2⟩ := okTw_nat (h.2 u hu)
    exact ⟨by simp only; omega, by simp only; omega⟩
  · simp only [natG, List.map_map]
    refine List.map_congr_left fun u hu => ?_
    obtain ⟨⟨a1, a2⟩, b1, b2⟩ := okTw_nat (h.2 u hu)
    simp only [Function.comp, twE, twI, Int.toNat_of_nonneg a1, Int.toNat_of_nonneg b1]
/-- The value of a picture, or 0. -/
noncomputable def valG (g : List TwZ) : Nat := if picB g then vB (natG g) (gSet (natG g)) else 0
theorem implFus_ok (g : List TwZ) (lg : g.length ≤ 1048576) : Ct Try.prog 10 [.sl false (g.map twI)] [] (.tup [.int .i64 (valG g : Nat), .bool (picB g)]) [] := by
  have pg := twI_pure g
  have ci := isGreen_ok g lg
  cases hp : picB g
  · rw [hp] at ci
    have hv : valG g = 0 := by simp [valG, hp]
    rw [hv]
    refine Ct.by_ hmix [] Try.func10 rfl ?_
    simp only [run0, run1, run2, run3, run4, run5, run6, run7, run8, run9, run10, run11, run12, run13, run14, run15, run16, run17, run18, run19, run20, run21, run22, reduceCtorEq, Nat.reduceEqDiff, Nat.reduceAdd, Nat.reduceSub, Nat.reduceLeDiff, indexAddrA, indexRefA, appendA, strA, Nat.reduceMul, Nat.zero_mul, Nat.reduceMod, Int.reduceEq, Int.reduceLT, Int.reduceLE, Nat.reduceLT, Nat.lt_irrefl, Nat.reduceBEq, tys0, tys1, tys2, tys3, tys4, tys5, tys6, tys7, tys8, tys9, tys10, Try.ntmps10, Try.results10]
    refine RunL.callp rfl rfl ok_f24 ci (by simp only [pureL, pureB, pg, Bool.and_self]) rfl ?_
    simp only [run0, run1, run2, run3, run4, run5, run6, run7, run8, run9, run10, run11, run12, run13, run14, run15, run16, run17, run18, run19, run20, run21, run22, reduceCtorEq, Nat.reduceEqDiff, Nat.reduceAdd, Nat.reduceSub, Nat.reduceLeDiff, indexAddrA, indexRefA, appendA, strA, Nat.reduceMul, Nat.zero_mul, Nat.reduceMod, Int.reduceEq, Int.reduceLT, Int.reduceLE, Nat.reduceLT, Nat.lt_irrefl, Nat.reduceBEq, tys0, tys1, tys2, tys3, tys4, tys5, tys6, tys7, tys8, tys9, tys10, Try.ntmps10, Try.results10]
    exact Fin.eq rfl rfl
  obtain ⟨P, hm⟩ := picB_nat hp
  have hv : valG g = vB (natG g) (gSet (natG g)) := by simp [valG, hp]
  rw [hp] at ci
  rw [hv]
  rw [← hm] at ci pg ⊢
  generalize natG g = G at *
  have hgs : gSet G < 2 ^ 14 := gRun_lt P
  have ca := all_ok G P
  have cg := grounded_ok G (allM G) P (allM_lt P)
  have cb := bridges_ok G P
  have cf := fused_ok G P (gSet G) hgs (sz G (gSet G).testBit (gSet G).testBit 0 + 1) 0 none (gSet G).testBit ⟨fun _ => rfl, fun i h => by cases h⟩ (by omega) (by omega)
  have hvs : vS G (gSet G).testBit 0 = vB G (gSet G) := rfl
  rw [hvs] at cf
  refine Ct.by_ hmix [] Try.func10 rfl ?_
  simp only [run0, run1, run2, run3, run4, run5, run6, run7, run8, run9, run10, run11, run12, run13, run14, run15, run16, run17, run18, run19, run20, run21, run22, reduceCtorEq, Nat.reduceEqDiff, Nat.reduceAdd, Nat.reduceSub, Nat.reduceLeDiff, indexAddrA, indexRefA, appendA, strA, Nat.reduceMul, Nat.zero_mul, Nat.reduceMod, Int.reduceEq, Int.reduceLT, Int.reduceLE, Nat.reduceLT, Nat.lt_irrefl, Nat.reduceBEq, tys0, tys1, tys2, tys3, tys4, tys5, tys6, tys7, tys8, tys9, tys10, Try.ntmps10, Try.results10]
  refine RunL.callp rfl rfl ok_f24 ci (by simp only [pureL, pureB, pg, Bool.and_self]) rfl ?_
  simp only [run0, run1, run2, run3, run4, run5, run6, run7, run8, run9, run10, run11, run12, run13, run14, run15, run16, run17, run18, run19, run20, run21, run22, reduceCtorEq, Nat.reduceEqDiff, Nat.reduceAdd, Nat.reduceSub, Nat.reduceLeDiff, indexAddrA, indexRefA, appendA, strA, Nat.reduceMul, Nat.zero_mul, Nat.reduceMod, Int.reduceEq, Int.reduceLT, Int.reduceLE, Nat.reduceLT, Nat.lt_irrefl, Nat.reduceBEq, tys0, tys1, tys2, tys3, tys4, tys5, tys6, tys7, tys8, tys9, tys10, Try.ntmps10, Try.results10]
  refine RunL.callp rfl rfl ok_f32 ca (by simp only [pureL, pureB, pg, Bool.and_self]) rfl ?_
  simp only [run0, run1, run2, run3, run4, run5, run6, run7, run8, run9, run10, run11, run12, run13, run14, run15, run16, run17, run18, run19, run20, run21, run22, reduceCtorEq, Nat.reduceEqDiff, Nat.reduceAdd, Nat.reduceSub, Nat.reduceLeDiff, indexAddrA, indexRefA, appendA, strA, Nat.reduceMul, Nat.zero_mul, Nat.reduceMod, Int.reduceEq, Int.reduceLT, Int.reduceLE, Nat.reduceLT, Nat.lt_irrefl, Nat.reduceBEq, tys0, tys1, tys2, tys3, tys4, tys5, tys6, tys7, tys8, tys9, tys10, Try.ntmps10, Try.results10]
  refine RunL.callp rfl rfl ok_f31 cg (by simp only [pureL, pureB, pg, Bool.and_self]) rfl ?_
  simp only [run0, run1, run2, run3, run4, run5, run6, run7, run8, run9, run10, run11, run12, run13, run14, run15, run16, run17, run18, run19, run20, run21, run22, reduceCtorEq, Nat.reduceEqDiff, Nat.reduceAdd, Nat.reduceSub, Nat.reduceLeDiff, indexAddrA, indexRefA, appendA, strA, Nat.reduceMul, Nat.zero_mul, Nat.reduceMod, Int.reduceEq, Int.reduceLT, Int.reduceLE, Nat.reduceLT, Nat.lt_irrefl, Nat.reduceBEq, tys0, tys1, tys2, tys3, tys4, tys5, tys6, tys7, tys8, tys9, tys10, Try.ntmps10, Try.results10]
  refine RunL.callp rfl rfl ok_f33 cb (by simp only [pureL, pureB, pg, Bool.and_self]) rfl ?_
  simp only [run0, run1, run2, run3, run4, run5, run6, run7, run8, run9, run10, run11, run12, run13, run14, run15, run16, run17, run18, run19, run20, run21, run22, reduceCtorEq, Nat.reduceEqDiff, Nat.reduceAdd, Nat.reduceSub, Nat.reduceLeDiff, indexAddrA, indexRefA, appendA, strA, Nat.reduceMul, Nat.zero_mul, Nat.reduceMod, Int.reduceEq, Int.reduceLT, Int.reduceLE, Nat.reduceLT, Nat.lt_irrefl, Nat.reduceBEq, tys0, tys1, tys2, tys3, tys4, tys5, tys6, tys7, tys8, tys9, tys10, Try.ntmps10, Try.results10]
  refine RunL.callp rfl rfl ok_f30 cf (by simp only [pureL, pureB, pg, Bool.and_self]) rfl ?_
  simp only [run0, run1, run2, run3, run4, run5, run6, run7, run8, run9, run10, run11, run12, run13, run14, run15, run16, run17, run18, run19, run20, run21, run22, reduceCtorEq, Nat.reduceEqDiff, Nat.reduceAdd, Nat.reduceSub, Nat.reduceLeDiff, indexAddrA, indexRefA, appendA, strA, Nat.reduceMul, Nat.zero_mul, Nat.reduceMod, Int.reduceEq, Int.reduceLT, Int.reduceLE, Nat.reduceLT, Nat.lt_irrefl, Nat.reduceBEq, tys0, tys1, tys2, tys3, tys4, tys5, tys6, tys7, tys8, tys9, tys10, Try.ntmps10, Try.results10]
  exact Fin.eq rfl rfl
theorem implPlay_ok (g : List TwZ) (lg : g.length ≤ 1048576) : Ct Try.prog 12 [.sl false (g.map twI)] [] (.tup [.int .i64 (valG g : Nat), .bool (picB g)]) [] := by
  have pg := twI_pure g
  have ci := isGreen_ok g lg
  cases hp : picB g
  · rw [hp] at ci
    have hv : valG g = 0 := by simp [valG, hp]
    rw [hv]
    refine Ct.by_ hmix [] Try.func12 rfl ?_
    simp only [run0, run1, run2, run3, run4, run5, run6, run7, run8, run9, run10, run11, run12, run13, run14, run15, run16, run17, run18, run19, run20, run21, run22, reduceCtorEq, Nat.reduceEqDiff, Nat.reduceAdd, Nat.reduceSub, Nat.reduceLeDiff, indexAddrA, indexRefA, appendA, strA, Nat.reduceMul, Nat.zero_mul, Nat.reduceMod, Int.reduceEq, Int.reduceLT, Int.reduceLE, Nat.reduceLT, Nat.lt_irrefl, Nat.reduceBEq, tys0, tys1, tys2, tys3, tys4, tys5, tys6, tys7, tys8, tys9, tys10, Try.ntmps12, Try.results12]
    refine RunL.callp rfl rfl ok_f24 ci (by simp only [pureL, pureB, pg, Bool.and_self]) rfl ?_
    simp only [run0, run1, run2, run3, run4, run5, run6, run7, run8, run9, run10, run11, run12, run13, run14, run15, run16, run17, run18, run19, run20, run21, run22, reduceCtorEq, Nat.reduceEqDiff, Nat.reduceAdd, Nat.reduceSub, Nat.reduceLeDiff, indexAddrA, indexRefA, appendA, strA, Nat.reduceMul, Nat.zero_mul, Nat.reduceMod, Int.reduceEq, Int.reduceLT, Int.reduceLE, Nat.reduceLT, Nat.lt_irrefl, Nat.reduceBEq, tys0, tys1, tys2, tys3, tys4, tys5, tys6, tys7, tys8, tys9, tys10, Try.ntmps12, Try.results12]
    exact Fin.eq rfl rfl
  obtain ⟨P, hm⟩ := picB_nat hp
  have hv : valG g = vB (natG g) (gSet (natG g)) := by simp [valG, hp]
  rw [hp] at ci
  rw [hv]
  rw [← hm] at ci pg ⊢
  generalize natG g = G at *
  have ca := all_ok G P
  have cg := grounded_ok G (allM G) P (allM_lt P)
  have cv := grundy_ok G P (szB G (gSet G) + 1) (gSet G) [] (grd_set P _) (by omega) (MemGOk.nil G) [memG []] 0 rfl rfl
  refine Ct.by_ hmix [] Try.func12 rfl ?_
  simp only [run0, run1, run2, run3, run4, run5, run6, run7, run8, run9, run10, run11, run12, run13, run14, run15, run16, run17, run18, run19, run20, run21, run22, reduceCtorEq, Nat.reduceEqDiff, Nat.reduceAdd, Nat.reduceSub, Nat.reduceLeDiff, indexAddrA, indexRefA, appendA, strA, Nat.reduceMul, Nat.zero_mul, Nat.reduceMod, Int.reduceEq, Int.reduceLT, Int.reduceLE, Nat.reduceLT, Nat.lt_irrefl, Nat.reduceBEq, tys0, tys1, tys2, tys3, tys4, tys5, tys6, tys7, tys8, tys9, tys10, Try.ntmps12, Try.results12]
  refine RunL.callp rfl rfl ok_f24 ci (by simp only [pureL, pureB, pg, Bool.and_self]) rfl ?_
  simp only [run0, run1, run2, run3, run4, run5, run6, run7, run8, run9, run10, run11, run12, run13, run14, run15, run16, run17, run18, run19, run20, run21, run22, reduceCtorEq, Nat.reduceEqDiff, Nat.reduceAdd, Nat.reduceSub, Nat.reduceLeDiff, indexAddrA, indexRefA, appendA, strA, Nat.reduceMul, Nat.zero_mul, Nat.reduceMod, Int.reduceEq, Int.reduceLT, Int.reduceLE, Nat.reduceLT, Nat.lt_irrefl, Nat.reduceBEq, tys0, tys1, tys2, tys3, tys4, tys5, tys6, tys7, tys8, tys9, tys10, Try.ntmps12, Try.results12]
  refine RunL.callp rfl rfl ok_f32 ca (by simp only [pureL, pureB, pg, Bool.and_self]) rfl ?_
  simp only [run0, run1, run2, run3, run4, run5, run6, run7, run8, run9, run10, run11, run12, run13, run14, run15, run16, run17, run18, run19, run20, run21, run22, reduceCtorEq, Nat.reduceEqDiff, Nat.reduceAdd, Nat.reduceSub, Nat.reduceLeDiff, indexAddrA, indexRefA, appendA, strA, Nat.reduceMul, Nat.zero_mul, Nat.reduceMod, Int.reduceEq, Int.reduceLT, Int.reduceLE, Nat.reduceLT, Nat.lt_irrefl, Nat.reduceBEq, tys0, tys1, tys2, tys3, tys4, tys5, tys6, tys7, tys8, tys9, tys10, Try.ntmps12, Try.results12]
  refine RunL.callp rfl rfl ok_f31 cg (by simp only [pureL, pureB, pg, Bool.and_self]) rfl ?_
  simp only [run0, run1, run2, run3, run4, run5, run6, run7, run8, run9, run10, run11, run12, run13, run14, run15, run16, run17, run18, run19, run20, run21, run22, reduceCtorEq, Nat.reduceEqDiff, Nat.reduceAdd, Nat.reduceSub, Nat.reduceLeDiff, indexAddrA, indexRefA, appendA, strA, Nat.reduceMul, Nat.zero_mul, Nat.reduceMod, Int.reduceEq, Int.reduceLT, Int.reduceLE, Nat.reduceLT, Nat.lt_irrefl, Nat.reduceBEq, tys0, tys1, tys2, tys3, tys4, tys5, tys6, tys7, tys8, tys9, tys10, Try.ntmps12, Try.results12]
  refine RunL.newMap 52 3 rfl rfl rfl ?_
  simp only [run0, run1, run2, run3, run4, run5, run6, run7, run8, run9, run10, run11, run12, run13, run14, run15, run16, run17, run18, run19, run20, run21, run22, reduceCtorEq, Nat.reduceEqDiff, Nat.reduceAdd, Nat.reduceSub, Nat.reduceLeDiff, indexAddrA, indexRefA, appendA, strA, Nat.reduceMul, Nat.zero_mul, Nat.reduceMod, Int.reduceEq, Int.reduceLT, Int.reduceLE, Nat.reduceLT, Nat.lt_irrefl, Nat.reduceBEq, tys0, tys1, tys2, tys3, tys4, tys5, tys6, tys7, tys8, tys9, tys10, Try.ntmps12, Try.results12]
  refine RunL.call rfl rfl rfl ok_f35 rfl (.inl rfl) cv ?_
  simp only [run0, run1, run2, run3, run4, run5, run6, run7, run8, run9, run10, run11, run12, run13, run14, run15, run16, run17, run18, run19, run20, run21, run22, reduceCtorEq, Nat.reduceEqDiff, Nat.reduceAdd, Nat.reduceSub, Nat.reduceLeDiff, indexAddrA, indexRefA, appendA, strA, Nat.reduceMul, Nat.zero_mul, Nat.reduceMod, Int.reduceEq, Int.reduceLT, Int.reduceLE, Nat.reduceLT, Nat.lt_irrefl, Nat.reduceBEq, tys0, tys1, tys2, tys3, tys4, tys5, tys6, tys7, tys8, tys9, tys10, Try.ntmps12, Try.results12]
  exact Fin.eq rfl rfl

end Go.Proofs.Ytobdpkkmkbafbaa
/-
  Green pictures: what is kept of them; trees.
-/
namespace Go.Proofs.Ytobdpkkmkbafbaa
open Go K
set_option linter.unusedSimpArgs false
set_option linter.unusedVariables false
set_option maxHeartbeats 1600000
set_option maxRecDepth 8000

/-- The twigs of a set. -/
def keptT (p : Nat → Bool) : Nat → List TwZ → List TwZ
  | _, [] => []
  | i, t :: r => if p i then t :: keptT p (i + 1) r else keptT p (i + 1) r
theorem keptT_app (p : Nat → Bool) : ∀ (d r : List TwZ) (i : Nat), keptT p i (d ++ r) = keptT p i d ++ keptT p (i + d.length) r
  | [], r, i => by simp [keptT]
  | t :: d, r, i => by
    have ih := keptT_app p d r (i + 1)
    simp only [List.cons_append, keptT, List.length_cons]
    rw [ih, show i + 1 + d.length = i + (d.length + 1) by omega]
    split <;> simp
theorem keptT_len (p : Nat → Bool) : ∀ (r : List TwZ) (i : Nat), (keptT p i r).length ≤ r.length
  | [], i => Nat.le_refl _
  | t :: r, i => by
    have ih := keptT_len p r (i + 1)
    simp only [keptT, List.length_cons]
    split
    · simp only [List.length_cons]; omega
    · omega
theorem chosen_ok (g : List TwZ) (hl : g.length ≤ 14) (set : Nat) (hs : set < 2 ^ 14) : Ct Try.prog 37 [.sl false (g.map twI), .int .u64 set] [] (.sl false ((keptT set.testBit 0 g).map twI)) [] := by
  refine Ct.by_ hmix [] Try.func37 rfl ?_
  simp only [run0, run1, run2, run3, run4, run5, run6, run7, run8, run9, run10, run11, run12, run13, run14, run15, run16, run17, run18, run19, run20, run21, run22, reduceCtorEq, Nat.reduceEqDiff, Nat.reduceAdd, Nat.reduceSub, Nat.reduceLeDiff, indexAddrA, indexRefA, appendA, strA, Nat.reduceMul, Nat.zero_mul, Nat.reduceMod, Int.reduceEq, Int.reduceLT, Int.reduceLE, Nat.reduceLT, Nat.lt_irrefl, Nat.reduceBEq, tys0, tys1, tys2, tys3, tys4, tys5, tys6, tys7, tys8, tys9, tys10, Try.ntmps37, Try.results37, List.length_map]
  refine AWp.loop_inv (ι := GoS) (fun q => ⟨[.sl false (g.map twI), .int .u64 set, .junk, .junk, .junk, .ref 0 [] (keptT set.testBit 0 q.d).length (keptT set.testBit 0 q.d).length, .junk, .junk, .junk, .sl false (g.map twI), .int .i64 g.length, .int .i64 q.d.length, .junk, .junk, .junk, .junk, .junk, .junk, .junk, .junk, .junk, .junk, .junk, .junk, .junk, .junk, .junk], .vec 30 2 (keptT set.testBit 0 q.d).length ((keptT set.testBit 0 q.d).map twI) :: q.X⟩)
    (fun q => g = q.d ++ q.r) (fun q => q.r.length) ⟨[], g, []⟩ rfl ⟨by simp only [List.length_nil, Int.natCast_zero]; repeat constructor, rfl⟩ ?_
  rintro ⟨d, r, X⟩ ha
  refine W.sound hmix (E := []) ?_
  simp only at ha
  have hda : d.length + r.length = g.length := by rw [ha, List.length_append]
  cases r with
  | nil =>
    have e1 : ¬ ((d.length : Int) < (g.length : Int)) := by simp at hda; omega
    rw [List.append_nil] at ha
    subst ha
    simp only [run0, run1, run2, run3, run4, run5, run6, run7, run8, run9, run10, run11, run12, run13, run14, run15, run16, run17, run18, run19, run20, run21, run22, reduceCtorEq, Nat.reduceEqDiff, Nat.reduceAdd, Nat.reduceSub, Nat.reduceLeDiff, indexAddrA, indexRefA, appendA, strA, Nat.reduceMul, Nat.zero_mul, Nat.reduceMod, Int.reduceEq, Int.reduceLT, Int.reduceLE, Nat.reduceLT, Nat.lt_irrefl, Nat.reduceBEq, tys0, tys1, tys2, tys3, tys4, tys5, tys6, tys7, tys8, tys9, tys10, Try.ntmps37, Try.results37, e1]
    exact Fin.value (Vw_twI rfl rfl rfl)
  | cons t r =>
    simp only [List.length_cons] at hda
    have e1 : (d.length : Int) < (g.length : Int) := by omega
    have e2 : (g.map twI)[d.length]? = some (twI t) := by rw [ha]; simp
    have e5 : IntKind.i64.wrap ((d.length : Int) + 1) = ((d ++ [t]).length : Int) := by rw [s64_id (by omega) (by omega)]; simp
    have hk := keptT_app set.testBit d [t] 0
    rw [Nat.zero_add] at hk
    simp only [keptT] at hk
    have hkl := keptT_len set.testBit d 0
    have b1 := bit_of set d.length (by omega)
    have z1 : ((1 : Int) == 1) = true := rfl
    have z0 : ((0 : Int) == 1) = false := rfl
    simp only [twI] at e2
    generalize hK : keptT set.testBit 0 d = K at *
    have f3 : K.length + 1 ≤ 137438953472 := by omega
    have f4 := twI_noOwn K
    have f5 : (K.map twI).length = K.length := by simp
    cases c1 : set.testBit d.length
    · rw [c1] at b1 hk
      have hk2 : keptT set.testBit 0 (d ++ [t]) = K := by simpa using hk
      simp only [run0, run1, run2, run3, run4, run5, run6, run7, run8, run9, run10, run11, run12, run13, run14, run15, run16, run17, run18, run19, run20, run21, run22, reduceCtorEq, Nat.reduceEqDiff, Nat.reduceAdd, Nat.reduceSub, Nat.reduceLeDiff, indexAddrA, indexRefA, appendA, strA, Nat.reduceMul, Nat.zero_mul, Nat.reduceMod, Int.reduceEq, Int.reduceLT, Int.reduceLE, Nat.reduceLT, Nat.lt_irrefl, Nat.reduceBEq, tys0, tys1, tys2, tys3, tys4, tys5, tys6, tys7, tys8, tys9, tys10, Try.ntmps37, Try.results37, e1, e2, e5, b1, Int.toNat_natCast, Int.natCast_nonneg, List.getElem?_append_right, Nat.le_refl, Nat.sub_self, Bool.toNat_false, Bool.toNat_true, Int.natCast_zero, Int.natCast_one, z0, z1]
      exact ⟨⟨d ++ [t], r, _⟩, by rw [ha]; simp, by simp, by simp only [hk2, List.length_append, List.length_cons, List.length_nil, Nat.zero_add]; repeat constructor, by simp only [hk2]; rfl⟩
    · rw [c1] at b1 hk
      have hk2 : keptT set.testBit 0 (d ++ [t]) = K ++ [t] := by simpa using hk
      simp only [run0, run1, run2, run3, run4, run5, run6, run7, run8, run9, run10, run11, run12, run13, run14, run15, run16, run17, run18, run19, run20, run21, run22, reduceCtorEq, Nat.reduceEqDiff, Nat.reduceAdd, Nat.reduceSub, Nat.reduceLeDiff, indexAddrA, indexRefA, appendA, strA, Nat.reduceMul, Nat.zero_mul, Nat.reduceMod, Int.reduceEq, Int.reduceLT, Int.reduceLE, Nat.reduceLT, Nat.lt_irrefl, Nat.reduceBEq, tys0, tys1, tys2, tys3, tys4, tys5, tys6, tys7, tys8, tys9, tys10, Try.ntmps37, Try.results37, e1, e2, e5, b1, f3, f4, f5, Int.toNat_natCast, Int.natCast_nonneg, List.getElem?_append_right, Nat.le_refl, Nat.sub_self, Bool.toNat_false, Bool.toNat_true, Int.natCast_zero, Int.natCast_one, z0, z1]
      exact ⟨⟨d ++ [t], r, _⟩, by rw [ha]; simp, by simp, by simp only [hk2, List.length_append, List.length_cons, List.length_nil, Nat.zero_add]; repeat constructor, by simp only [hk2, List.map_append, List.map_cons, List.map_nil, twI, List.length_append, List.length_cons, List.length_nil, Nat.zero_add]; rfl⟩
/-- The grounded part of a picture. -/
def grdT (g : List TwZ) : List TwZ := if picB g then keptT (gSet (natG g)).testBit 0 g else []
theorem grdOf_ok (g : List TwZ) (lg : g.length ≤ 1048576) : Ct Try.prog 15 [.sl false (g.map twI)] [] (.tup [.sl false ((grdT g).map twI), .bool (picB g)]) [] := by
  have pg := twI_pure g
  have ci := isGreen_ok g lg
  cases hp : picB g
  · rw [hp] at ci
    have hv : grdT g = [] := by simp [grdT, hp]
    rw [hv]
    refine Ct.by_ hmix [] Try.func15 rfl ?_
    simp only [run0, run1, run2, run3, run4, run5, run6, run7, run8, run9, run10, run11, run12, run13, run14, run15, run16, run17, run18, run19, run20, run21, run22, reduceCtorEq, Nat.reduceEqDiff, Nat.reduceAdd, Nat.reduceSub, Nat.reduceLeDiff, indexAddrA, indexRefA, appendA, strA, Nat.reduceMul, Nat.zero_mul, Nat.reduceMod, Int.reduceEq, Int.reduceLT, Int.reduceLE, Nat.reduceLT, Nat.lt_irrefl, Nat.reduceBEq, tys0, tys1, tys2, tys3, tys4, tys5, tys6, tys7, tys8, tys9, tys10, Try.ntmps15, Try.results15]
    refine RunL.callp rfl rfl ok_f24 ci (by simp only [pureL, pureB, pg, Bool.and_self]) rfl ?_
    simp only [run0, run1, run2, run3, run4, run5, run6, run7, run8, run9, run10, run11, run12, run13, run14, run15, run16, run17, run18, run19, run20, run21, run22, reduceCtorEq, Nat.reduceEqDiff, Nat.reduceAdd, Nat.reduceSub, Nat.reduceLeDiff, indexAddrA, indexRefA, appendA, strA, Nat.reduceMul, Nat.zero_mul, Nat.reduceMod, Int.reduceEq, Int.reduceLT, Int.reduceLE, Nat.reduceLT, Nat.lt_irrefl, Nat.reduceBEq, tys0, tys1, tys2, tys3, tys4, tys5, tys6, tys7, tys8, tys9, tys10, Try.ntmps15, Try.results15]
    exact Fin.value (.tup (.cons (Vw.nil false) (.cons (.pur (.bool _)) .nil)))
  obtain ⟨P, hm⟩ := picB_nat hp
  have hv : grdT g = keptT (gSet (natG g)).testBit 0 g := by simp [grdT, hp]
  have hl14 : g.length ≤ 14 := by have := P.1; rwa [natG_len] at this
  have hgs : gSet (natG g) < 2 ^ 14 := gRun_lt P
  have ca := all_ok (natG g) P
  have cg := grounded_ok (natG g) (allM (natG g)) P (allM_lt P)
  have cc := chosen_ok g hl14 (gSet (natG g)) hgs
  have pk := twI_pure (keptT (gSet (natG g)).testBit 0 g)
  rw [hp] at ci
  rw [hv]
  rw [hm] at ca cg
  refine Ct.by_ hmix [] Try.func15 rfl ?_
  simp only [run0, run1, run2, run3, run4, run5, run6, run7, run8, run9, run10, run11, run12, run13, run14, run15, run16, run17, run18, run19, run20, run21, run22, reduceCtorEq, Nat.reduceEqDiff, Nat.reduceAdd, Nat.reduceSub, Nat.reduceLeDiff, indexAddrA, indexRefA, appendA, strA, Nat.reduceMul, Nat.zero_mul, Nat.reduceMod, Int.reduceEq, Int.reduceLT, Int.reduceLE, Nat.reduceLT, Nat.lt_irrefl, Nat.reduceBEq, tys0, tys1, tys2, tys3, tys4, tys5, tys6, tys7, tys8, tys9, tys10, Try.ntmps15, Try.results15]
  refine RunL.callp rfl rfl ok_f24 ci (by simp only [pureL, pureB, pg, Bool.and_self]) rfl ?_
  simp only [run0, run1, run2, run3, run4, run5, run6, run7, run8, run9, run10, run11, run12, run13, run14, run15, run16, run17, run18, run19, run20, run21, run22, reduceCtorEq, Nat.reduceEqDiff, Nat.reduceAdd, Nat.reduceSub, Nat.reduceLeDiff, indexAddrA, indexRefA, appendA, strA, Nat.reduceMul, Nat.zero_mul, Nat.reduceMod, Int.reduceEq, Int.reduceLT, Int.reduceLE, Nat.reduceLT, Nat.lt_irrefl, Nat.reduceBEq, tys0, tys1, tys2, tys3, tys4, tys5, tys6, tys7, tys8, tys9, tys10, Try.ntmps15, Try.results15]
  refine RunL.callp rfl rfl ok_f32 ca (by simp only [pureL, pureB, pg, Bool.and_self]) rfl ?_
  simp only [run0, run1, run2, run3, run4, run5, run6, run7, run8, run9, run10, run11, run12, run13, run14, run15, run16, run17, run18, run19, run20, run21, run22, reduceCtorEq, Nat.reduceEqDiff, Nat.reduceAdd, Nat.reduceSub, Nat.reduceLeDiff, indexAddrA, indexRefA, appendA, strA, Nat.reduceMul, Nat.zero_mul, Nat.reduceMod, Int.reduceEq, Int.reduceLT, Int.reduceLE, Nat.reduceLT, Nat.lt_irrefl, Nat.reduceBEq, tys0, tys1, tys2, tys3, tys4, tys5, tys6, tys7, tys8, tys9, tys10, Try.ntmps15, Try.results15]
  refine RunL.callp rfl rfl ok_f31 cg (by simp only [pureL, pureB, pg, Bool.and_self]) rfl ?_
  simp only [run0, run1, run2, run3, run4, run5, run6, run7, run8, run9, run10, run11, run12, run13, run14, run15, run16, run17, run18, run19, run20, run21, run22, reduceCtorEq, Nat.reduceEqDiff, Nat.reduceAdd, Nat.reduceSub, Nat.reduceLeDiff, indexAddrA, indexRefA, appendA, strA, Nat.reduceMul, Nat.zero_mul, Nat.reduceMod, Int.reduceEq, Int.reduceLT, Int.reduceLE, Nat.reduceLT, Nat.lt_irrefl, Nat.reduceBEq, tys0, tys1, tys2, tys3, tys4, tys5, tys6, tys7, tys8, tys9, tys10, Try.ntmps15, Try.results15]
  refine RunL.callp rfl rfl ok_f37 cc (by simp only [pureL, pureB, pg, Bool.and_self]) rfl ?_
  simp only [run0, run1, run2, run3, run4, run5, run6, run7, run8, run9, run10, run11, run12, run13, run14, run15, run16, run17, run18, run19, run20, run21, run22, reduceCtorEq, Nat.reduceEqDiff, Nat.reduceAdd, Nat.reduceSub, Nat.reduceLeDiff, indexAddrA, indexRefA, appendA, strA, Nat.reduceMul, Nat.zero_mul, Nat.reduceMod, Int.reduceEq, Int.reduceLT, Int.reduceLE, Nat.reduceLT, Nat.lt_irrefl, Nat.reduceBEq, tys0, tys1, tys2, tys3, tys4, tys5, tys6, tys7, tys8, tys9, tys10, Try.ntmps15, Try.results15]
  exact Fin.eq rfl (by simp only [pureB, pureL, pk, Bool.and_self])
def treeB (g : List TwZ) : Bool := picB g && (((gSet (natG g) : Nat) : Int) == ((brSet (natG g) (gSet (natG g)) : Nat) : Int))
theorem isTree_ok (g : List TwZ) (lg : g.length ≤ 1048576) : Ct Try.prog 16 [.sl false (g.map twI)] [] (.tup [.bool (treeB g), .bool (picB g)]) [] := by
  have pg := twI_pure g
  have ci := isGreen_ok g lg
  cases hp : picB g
  · rw [hp] at ci
    have hv : treeB g = false := by simp [treeB, hp]
    rw [hv]
    refine Ct.by_ hmix [] Try.func16 rfl ?_
    simp only [run0, run1, run2, run3, run4, run5, run6, run7, run8, run9, run10, run11, run12, run13, run14, run15, run16, run17, run18, run19, run20, run21, run22, reduceCtorEq, Nat.reduceEqDiff, Nat.reduceAdd, Nat.reduceSub, Nat.reduceLeDiff, indexAddrA, indexRefA, appendA, strA, Nat.reduceMul, Nat.zero_mul, Nat.reduceMod, Int.reduceEq, Int.reduceLT, Int.reduceLE, Nat.reduceLT, Nat.lt_irrefl, Nat.reduceBEq, tys0, tys1, tys2, tys3, tys4, tys5, tys6, tys7, tys8, tys9, tys10, Try.ntmps16, Try.results16]
    refine RunL.callp rfl rfl ok_f24 ci (by simp only [pureL, pureB, pg, Bool.and_self]) rfl ?_
    simp only [run0, run1, run2, run3, run4, run5, run6, run7, run8, run9, run10, run11, run12, run13, run14, run15, run16, run17, run18, run19, run20, run21, run22, reduceCtorEq, Nat.reduceEqDiff, Nat.reduceAdd, Nat.reduceSub, Nat.reduceLeDiff, indexAddrA, indexRefA, appendA, strA, Nat.reduceMul, Nat.zero_mul, Nat.reduceMod, Int.reduceEq, Int.reduceLT, Int.reduceLE, Nat.reduceLT, Nat.lt_irrefl, Nat.reduceBEq, tys0, tys1, tys2, tys3, tys4, tys5, tys6, tys7, tys8, tys9, tys10, Try.ntmps16, Try.results16]
    exact Fin.eq rfl rfl
  obtain ⟨P, hm⟩ := picB_nat hp
  have ca := all_ok (natG g) P
  have cg := grounded_ok (natG g) (allM (natG g)) P (allM_lt P)
  have cb := bridges_ok (natG g) P
  have hv : treeB g = (((gSet (natG g) : Nat) : Int) == ((brPass (natG g) (gSet (natG g)) 0 (natG g) 0 : Nat) : Int)) := by rw [treeB, hp, Bool.true_and]; rfl
  have hgs : (gRun (natG g) (allM (natG g)).testBit ((natG g).length + 1) (1, 0)).2 = gSet (natG g) := rfl
  rw [hp] at ci
  rw [hm] at ca cg cb
  rw [hgs] at cg
  rw [hv]
  generalize gSet (natG g) = a at *
  generalize brPass (natG g) a 0 (natG g) 0 = b at *
  refine Ct.by_ hmix [] Try.func16 rfl ?_
  simp only [run0, run1, run2, run3, run4, run5, run6, run7, run8, run9, run10, run11, run12, run13, run14, run15, run16, run17, run18, run19, run20, run21, run22, reduceCtorEq, Nat.reduceEqDiff, Nat.reduceAdd, Nat.reduceSub, Nat.reduceLeDiff, indexAddrA, indexRefA, appendA, strA, Nat.reduceMul, Nat.zero_mul, Nat.reduceMod, Int.reduceEq, Int.reduceLT, Int.reduceLE, Nat.reduceLT, Nat.lt_irrefl, Nat.reduceBEq, tys0, tys1, tys2, tys3, tys4, tys5, tys6, tys7, tys8, tys9, tys10, Try.ntmps16, Try.results16]
  refine RunL.callp rfl rfl ok_f24 ci (by simp only [pureL, pureB, pg, Bool.and_self]) rfl ?_
  simp only [run0, run1, run2, run3, run4, run5, run6, run7, run8, run9, run10, run11, run12, run13, run14, run15, run16, run17, run18, run19, run20, run21, run22, reduceCtorEq, Nat.reduceEqDiff, Nat.reduceAdd, Nat.reduceSub, Nat.reduceLeDiff, indexAddrA, indexRefA, appendA, strA, Nat.reduceMul, Nat.zero_mul, Nat.reduceMod, Int.reduceEq, Int.reduceLT, Int.reduceLE, Nat.reduceLT, Nat.lt_irrefl, Nat.reduceBEq, tys0, tys1, tys2, tys3, tys4, tys5, tys6, tys7, tys8, tys9, tys10, Try.ntmps16, Try.results16]
  refine RunL.callp rfl rfl ok_f32 ca (by simp only [pureL, pureB, pg, Bool.and_self]) rfl ?_
  simp only [run0, run1, run2, run3, run4, run5, run6, run7, run8, run9, run10, run11, run12, run13, run14, run15, run16, run17, run18, run19, run20, run21, run22, reduceCtorEq, Nat.reduceEqDiff, Nat.reduceAdd, Nat.reduceSub, Nat.reduceLeDiff, indexAddrA, indexRefA, appendA, strA, Nat.reduceMul, Nat.zero_mul, Nat.reduceMod, Int.reduceEq, Int.reduceLT, Int.reduceLE, Nat.reduceLT, Nat.lt_irrefl, Nat.reduceBEq, tys0, tys1, tys2, tys3, tys4, tys5, tys6, tys7, tys8, tys9, tys10, Try.ntmps16, Try.results16]
  refine RunL.callp rfl rfl ok_f31 cg (by simp only [pureL, pureB, pg, Bool.and_self]) rfl ?_
  simp only [run0, run1, run2, run3, run4, run5, run6, run7, run8, run9, run10, run11, run12, run13, run14, run15, run16, run17, run18, run19, run20, run21, run22, reduceCtorEq, Nat.reduceEqDiff, Nat.reduceAdd, Nat.reduceSub, Nat.reduceLeDiff, indexAddrA, indexRefA, appendA, strA, Nat.reduceMul, Nat.zero_mul, Nat.reduceMod, Int.reduceEq, Int.reduceLT, Int.reduceLE, Nat.reduceLT, Nat.lt_irrefl, Nat.reduceBEq, tys0, tys1, tys2, tys3, tys4, tys5, tys6, tys7, tys8, tys9, tys10, Try.ntmps16, Try.results16]
  refine RunL.callp rfl rfl ok_f33 cb (by simp only [pureL, pureB, pg, Bool.and_self]) rfl ?_
  simp only [run0, run1, run2, run3, run4, run5, run6, run7, run8, run9, run10, run11, run12, run13, run14, run15, run16, run17, run18, run19, run20, run21, run22, reduceCtorEq, Nat.reduceEqDiff, Nat.reduceAdd, Nat.reduceSub, Nat.reduceLeDiff, indexAddrA, indexRefA, appendA, strA, Nat.reduceMul, Nat.zero_mul, Nat.reduceMod, Int.reduceEq, Int.reduceLT, Int.reduceLE, Nat.reduceLT, Nat.lt_irrefl, Nat.reduceBEq, tys0, tys1, tys2, tys3, tys4, tys5, tys6, tys7, tys8, tys9, tys10, Try.ntmps16, Try.results16]
  exact Fin.eq rfl rfl
theorem ofTree_ok (g : List TwZ) (lg : g.length ≤ 1048576) : Ct Try.prog 17 [.sl false (g.map twI)] [] (.tup [.int .i64 ((if treeB g then valG g else 0 : Nat) : Int), .bool (treeB g)]) [] := by
  have pg := twI_pure g
  have ct := isTree_ok g lg
  have cf := implFus_ok g lg
  cases hp : picB g
  · have ht : treeB g = false := by simp [treeB, hp]
    rw [ht, hp] at ct
    rw [ht]
    refine Ct.by_ hmix [] Try.func17 rfl ?_
    simp only [run0, run1, run2, run3, run4, run5, run6, run7, run8, run9, run10, run11, run12, run13, run14, run15, run16, run17, run18, run19, run20, run21, run22, reduceCtorEq, Nat.reduceEqDiff, Nat.reduceAdd, Nat.reduceSub, Nat.reduceLeDiff, indexAddrA, indexRefA, appendA, strA, Nat.reduceMul, Nat.zero_mul, Nat.reduceMod, Int.reduceEq, Int.reduceLT, Int.reduceLE, Nat.reduceLT, Nat.lt_irrefl, Nat.reduceBEq, tys0, tys1, tys2, tys3, tys4, tys5, tys6, tys7, tys8, tys9, tys10, Try.ntmps17, Try.results17]
    refine RunL.callp rfl rfl ok_f16 ct (by simp only [pureL, pureB, pg, Bool.and_self]) rfl ?_
    simp only [run0, run1, run2, run3, run4, run5, run6, run7, run8, run9, run10, run11, run12, run13, run14, run15, run16, run17, run18, run19, run20, run21, run22, reduceCtorEq, Nat.reduceEqDiff, Nat.reduceAdd, Nat.reduceSub, Nat.reduceLeDiff, indexAddrA, indexRefA, appendA, strA, Nat.reduceMul, Nat.zero_mul, Nat.reduceMod, Int.reduceEq, Int.reduceLT, Int.reduceLE, Nat.reduceLT, Nat.lt_irrefl, Nat.reduceBEq, tys0, tys1, tys2, tys3, tys4, tys5, tys6, tys7, tys8, tys9, tys10, Try.ntmps17, Try.results17]
    exact Fin.eq rfl rfl
  rw [hp] at ct cf
  cases ht : treeB g
  · rw [ht] at ct
    refine Ct.by_ hmix [] Try.func17 rfl ?_
    simp only [run0, run1, run2, run3, run4, run5, run6, run7, run8, run9, run10, run11, run12, run13, run14, run15, run16, run17, run18, run19, run20, run21, run22, reduceCtorEq, Nat.reduceEqDiff, Nat.reduceAdd, Nat.reduceSub, Nat.reduceLeDiff, indexAddrA, indexRefA, appendA, strA, Nat.reduceMul, Nat.zero_mul, Nat.reduceMod, Int.reduceEq, Int.reduceLT, Int.reduceLE, Nat.reduceLT, Nat.lt_irrefl, Nat.reduceBEq, tys0, tys1, tys2, tys3, tys4, tys5, tys6, tys7, tys8, tys9, tys10, Try.ntmps17, Try.results17]
    refine RunL.callp rfl rfl ok_f16 ct (by simp only [pureL, pureB, pg, Bool.and_self]) rfl ?_
    simp only [run0, run1, run2, run3, run4, run5, run6, run7, run8, run9, run10, run11, run12, run13, run14, run15, run16, run17, run18, run19, run20, run21, run22, reduceCtorEq, Nat.reduceEqDiff, Nat.reduceAdd, Nat.reduceSub, Nat.reduceLeDiff, indexAddrA, indexRefA, appendA, strA, Nat.reduceMul, Nat.zero_mul, Nat.reduceMod, Int.reduceEq, Int.reduceLT, Int.reduceLE, Nat.reduceLT, Nat.lt_irrefl, Nat.reduceBEq, tys0, tys1, tys2, tys3, tys4, tys5, tys6, tys7, tys8, tys9, tys10, Try.ntmps17, Try.results17]
    exact Fin.eq rfl rfl
  · rw [ht] at ct
    rw [if_pos rfl]
    refine Ct.by_ hmix [] Try.func17 rfl ?_
    simp only [run0, run1, run2, run3, run4, run5, run6, run7, run8, run9, run10, run11, run12, run13, run14, run15, run16, run17, run18, run19, run20, run21, run22, reduceCtorEq, Nat.reduceEqDiff, Nat.reduceAdd, Nat.reduceSub, Nat.reduceLeDiff, indexAddrA, indexRefA, appendA, strA, Nat.reduceMul, Nat.zero_mul, Nat.reduceMod, Int.reduceEq, Int.reduceLT, Int.reduceLE, Nat.reduceLT, Nat.lt_irrefl, Nat.reduceBEq, tys0, tys1, tys2, tys3, tys4, tys5, tys6, tys7, tys8, tys9, tys10, Try.ntmps17, Try.results17]
    refine RunL.callp rfl rfl ok_f16 ct (by simp only [pureL, pureB, pg, Bool.and_self]) rfl ?_
    simp only [run0, run1, run2, run3, run4, run5, run6, run7, run8, run9, run10, run11, run12, run13, run14, run15, run16, run17, run18, run19, run20, run21, run22, reduceCtorEq, Nat.reduceEqDiff, Nat.reduceAdd, Nat.reduceSub, Nat.reduceLeDiff, indexAddrA, indexRefA, appendA, strA, Nat.reduceMul, Nat.zero_mul, Nat.reduceMod, Int.reduceEq, Int.reduceLT, Int.reduceLE, Nat.reduceLT, Nat.lt_irrefl, Nat.reduceBEq, tys0, tys1, tys2, tys3, tys4, tys5, tys6, tys7, tys8, tys9, tys10, Try.ntmps17, Try.results17]
    refine RunL.callp rfl rfl ok_f10 cf (by simp only [pureL, pureB, pg, Bool.and_self]) rfl ?_
    simp only [run0, run1, run2, run3, run4, run5, run6, run7, run8, run9, run10, run11, run12, run13, run14, run15, run16, run17, run18, run19, run20, run21, run22, reduceCtorEq, Nat.reduceEqDiff, Nat.reduceAdd, Nat.reduceSub, Nat.reduceLeDiff, indexAddrA, indexRefA, appendA, strA, Nat.reduceMul, Nat.zero_mul, Nat.reduceMod, Int.reduceEq, Int.reduceLT, Int.reduceLE, Nat.reduceLT, Nat.lt_irrefl, Nat.reduceBEq, tys0, tys1, tys2, tys3, tys4, tys5, tys6, tys7, tys8, tys9, tys10, Try.ntmps17, Try.results17]
    exact Fin.eq rfl rfl

end Go.Proofs.Ytobdpkkmkbafbaa
/-
  The greatest of three whole numbers.
-/
namespace Go.Proofs.Ytobdpkkmkbafbaa.K
set_option linter.unusedVariables false
set_option linter.unusedSimpArgs false
open Go Go.RowKit
set_option maxRecDepth 8000

def mx2 (x y : Int) : Int := if y > x then y else x
theorem run_max_int3 {P : Program} (w : World) (ts : Array TypeId) (t : TypeId) (k k' k'' : IntKind) (x y z : Int) : (Builtin.max_ ts t #[.int k x, .int k' y, .int k'' z]).run P w = .ok (.int k (mx2 (mx2 x y) z)) w := by
  simp [Builtin.max_, Builtin.max2, mx2]
theorem max3_sound {P : Program} {o : Oper} {s : St} {x y z : Operand} {ats : Array TypeId} {k : IntKind} {a b c : Int} (ho : o.op = .call { callee := .builtin .max, args := #[x, y, z], argTypes := ats })
    (hx : s.ev x = .int k a) (hy : s.ev y = .int k b) (hz : s.ev z = .int k c) : OpS P o s (s.put o.dst (.int k (mx2 (mx2 a b) c))) := by
  refine OpS.pure fun γ ac w hr => ?_
  have h1 := hr.ev x
  have h2 := hr.ev y
  have h3 := hr.ev z
  rw [hx] at h1
  rw [hy] at h2
  rw [hz] at h3
  generalize hv1 : ac.eval x = v1 at h1
  generalize hv2 : ac.eval y = v2 at h2
  generalize hv3 : ac.eval z = v3 at h3
  cases h1; cases h2; cases h3
  exact ⟨_, by simp [execOp, ho, hv1, hv2, hv3, resolve, invoke, builtin, run_max_int3], .int _ _⟩
theorem RunL.max3 {P : Program} {k : Oper → Knd} {ops : Array Oper} {K : St → Prop} {o : Oper} {rest : List Oper} {s : St} {x y z : Operand} {ats : Array TypeId} {q : IntKind} (a b c : Int)
    (hg : guardA ops s o = some true) (ho : o.op = .call { callee := .builtin .max, args := #[x, y, z], argTypes := ats }) (hx : s.ev x = .int q a) (hy : s.ev y = .int q b) (hz : s.ev z = .int q c) (hkd : Knd.le .C (k o) = true)
    (hk : R P k ops rest (s.put o.dst (.int q (mx2 (mx2 a b) c))) K) : RunL P k ops (o :: rest) s K := by
  refine .op ⟨.C, .int q (mx2 (mx2 a b) c), s.L⟩ hkd ⟨⟨fun h _ => ⟨[], by simp⟩, fun h => (nomatch h)⟩, fun s1 ha hL1 => ⟨by rw [agree_guard ha]; exact hg, ?_⟩⟩ (R.sound hk)
  have hL1 : s1.L = s.L := hL1
  have e1 : s1.ev x = .int q a := by rw [agree_ev ha (by rw [ho]; simp [Op.operands, Call.operands]), hx]
  have e2 : s1.ev y = .int q b := by rw [agree_ev ha (by rw [ho]; simp [Op.operands, Call.operands]), hy]
  have e3 : s1.ev z = .int q c := by rw [agree_ev ha (by rw [ho]; simp [Op.operands, Call.operands]), hz]
  have := max3_sound (P := P) (s := s1) ho e1 e2 e3
  simp only [Sd.app]
  rw [← hL1]
  exact this

end Go.Proofs.Ytobdpkkmkbafbaa.K
/-
  Green pictures side by side, by the reference and by the program.
-/
namespace Go.Proofs.Ytobdpkkmkbafbaa
open Go K
set_option linter.unusedSimpArgs false
set_option linter.unusedVariables false
set_option maxHeartbeats 1600000
set_option maxRecDepth 8000

def topT : List TwZ → Int → Int
  | [], n => n
  | t :: r, n => topT r (mx2 (mx2 n t.1) t.2)
def movK (by_ k : Int) : Int := if k = 0 then 0 else k + by_
def movT (by_ : Int) (t : TwZ) : TwZ := (movK by_ t.1, movK by_ t.2)
def joinT (g h : List TwZ) : List TwZ := g ++ h.map (movT (topT g 0))
def jnB (g h : List TwZ) : Bool := picB g && picB h && picB (joinT g h)
theorem okTw_iff {t : TwZ} : okTw t = true ↔ (0 ≤ t.1 ∧ t.1 ≤ 12) ∧ (0 ≤ t.2 ∧ t.2 ≤ 12) := by
  simp [okTw, inK, and_assoc]
theorem mx2_le {x y n : Int} (h1 : x ≤ n) (h2 : y ≤ n) : mx2 x y ≤ n := by unfold mx2; split <;> omega
theorem le_mx2 (x y : Int) : x ≤ mx2 x y ∧ y ≤ mx2 x y := by unfold mx2; constructor <;> split <;> omega
theorem topT_rng : ∀ {g : List TwZ} {n : Int}, g.all okTw = true → 0 ≤ n ∧ n ≤ 12 → 0 ≤ topT g n ∧ topT g n ≤ 12
  | [], n, _, h => h
  | t :: r, n, hg, h => by
    rw [List.all_cons, Bool.and_eq_true] at hg
    obtain ⟨⟨a1, a2⟩, b1, b2⟩ := okTw_iff.1 hg.1
    have := (le_mx2 n t.1).1
    have := (le_mx2 (mx2 n t.1) t.2).1
    exact topT_rng (g := r) (n := mx2 (mx2 n t.1) t.2) hg.2 ⟨by omega, mx2_le (mx2_le h.2 a2) b2⟩
theorem topT_ge : ∀ (g : List TwZ) (n : Int), n ≤ topT g n ∧ ∀ t ∈ g, t.1 ≤ topT g n ∧ t.2 ≤ topT g n
  | [], n => ⟨Int.le_refl _, by simp⟩
  | t :: r, n => by
    obtain ⟨h1, h2⟩ := topT_ge r (mx2 (mx2 n t.1) t.2)
    have k1 := le_mx2 n t.1
    have k2 := le_mx2 (mx2 n t.1) t.2
    refine ⟨by simp only [topT]; omega, fun u hu => ?_⟩
    simp only [topT]
    rcases List.mem_cons.1 hu with rfl | hu
    · exact ⟨by omega, by omega⟩
    · exact h2 u hu
theorem most_ok (a b : Int) : Ct Try.prog 50 [.int .i64 a, .int .i64 b] [] (.int .i64 (if b < a then a else b)) [] := by
  refine Ct.by_ hmix [] Try.func50 rfl ?_
  by_cases h : b < a
  · simp only [run0, run1, run2, run3, run4, run5, run6, run7, run8, run9, run10, run11, run12, run13, run14, run15, run16, run17, run18, run19, run20, run21, run22, reduceCtorEq, Nat.reduceEqDiff, Nat.reduceAdd, Nat.reduceSub, Nat.reduceLeDiff, indexAddrA, indexRefA, appendA, strA, Nat.reduceMul, Nat.zero_mul, Nat.reduceMod, Int.reduceEq, Int.reduceLT, Int.reduceLE, Nat.reduceLT, Nat.lt_irrefl, Nat.reduceBEq, tys0, tys1, tys2, tys3, tys4, tys5, tys6, tys7, tys8, tys9, tys10, Try.ntmps50, Try.results50, h]
    exact Fin.eq rfl rfl
  · simp only [run0, run1, run2, run3, run4, run5, run6, run7, run8, run9, run10, run11, run12, run13, run14, run15, run16, run17, run18, run19, run20, run21, run22, reduceCtorEq, Nat.reduceEqDiff, Nat.reduceAdd, Nat.reduceSub, Nat.reduceLeDiff, indexAddrA, indexRefA, appendA, strA, Nat.reduceMul, Nat.zero_mul, Nat.reduceMod, Int.reduceEq, Int.reduceLT, Int.reduceLE, Nat.reduceLT, Nat.lt_irrefl, Nat.reduceBEq, tys0, tys1, tys2, tys3, tys4, tys5, tys6, tys7, tys8, tys9, tys10, Try.ntmps50, Try.results50, h]
    exact Fin.eq rfl rfl
theorem most_mx (n a b : Int) : (if (if b < a then a else b) < n then n else (if b < a then a else b)) = mx2 (mx2 n a) b := by
  unfold mx2
  by_cases h1 : b < a <;> by_cases h2 : a > n <;> simp only [h1, h2, if_true, if_false] <;> (repeat' split) <;> omega
theorem grTop_ok (g : List TwZ) (hl : g.length ≤ 1048576) : Ct Try.prog 29 [.sl false (g.map twI)] [] (.int .i64 (topT g 0)) [] := by
  refine Ct.by_ hmix [] Try.func29 rfl ?_
  simp only [run0, run1, run2, run3, run4, run5, run6, run7, run8, run9, run10, run11, run12, run13, run14, run15, run16, run17, run18, run19, run20, run21, run22, reduceCtorEq, Nat.reduceEqDiff, Nat.reduceAdd, Nat.reduceSub, Nat.reduceLeDiff, indexAddrA, indexRefA, appendA, strA, Nat.reduceMul, Nat.zero_mul, Nat.reduceMod, Int.reduceEq, Int.reduceLT, Int.reduceLE, Nat.reduceLT, Nat.lt_irrefl, Nat.reduceBEq, tys0, tys1, tys2, tys3, tys4, tys5, tys6, tys7, tys8, tys9, tys10, Try.ntmps29, Try.results29, List.length_map]
  refine AWp.loop_inv (ι := Int × GoS) (fun p => ⟨[.sl false (g.map twI), .junk, .junk, .int .i64 p.1, .junk, .junk, .sl false (g.map twI), .int .i64 g.length, .int .i64 p.2.d.length, .junk, .junk, .junk, .junk, .junk, .junk, .junk, .junk, .junk, .junk, .junk, .junk], p.2.X⟩)
    (fun p => g = p.2.d ++ p.2.r ∧ topT p.2.r p.1 = topT g 0) (fun p => p.2.r.length) (0, ⟨[], g, []⟩) ⟨rfl, rfl⟩ ⟨by simp only [List.length_nil, Int.natCast_zero]; repeat constructor, rfl⟩ ?_
  rintro ⟨n, d, r, X⟩ ⟨ha, h4⟩
  refine W.sound hmix (E := []) ?_
  simp only at ha h4
  have hda : d.length + r.length = g.length := by rw [ha, List.length_append]
  cases r with
  | nil =>
    have e1 : ¬ ((d.length : Int) < (g.length : Int)) := by simp at hda; omega
    simp only [run0, run1, run2, run3, run4, run5, run6, run7, run8, run9, run10, run11, run12, run13, run14, run15, run16, run17, run18, run19, run20, run21, run22, reduceCtorEq, Nat.reduceEqDiff, Nat.reduceAdd, Nat.reduceSub, Nat.reduceLeDiff, indexAddrA, indexRefA, appendA, strA, Nat.reduceMul, Nat.zero_mul, Nat.reduceMod, Int.reduceEq, Int.reduceLT, Int.reduceLE, Nat.reduceLT, Nat.lt_irrefl, Nat.reduceBEq, tys0, tys1, tys2, tys3, tys4, tys5, tys6, tys7, tys8, tys9, tys10, Try.ntmps29, Try.results29, e1]
    exact Fin.eq (by rw [← h4]; rfl) rfl
  | cons t r =>
    simp only [List.length_cons] at hda
    have e1 : (d.length : Int) < (g.length : Int) := by omega
    have e2 : (g.map twI)[d.length]? = some (twI t) := by rw [ha]; simp
    have e5 : IntKind.i64.wrap ((d.length : Int) + 1) = ((d ++ [t]).length : Int) := by rw [s64_id (by omega) (by omega)]; simp
    simp only [twI] at e2
    have m1 := most_ok t.1 t.2
    have m2 := most_ok n (if t.2 < t.1 then t.1 else t.2)
    rw [most_mx] at m2
    simp only [run0, run1, run2, run3, run4, run5, run6, run7, run8, run9, run10, run11, run12, run13, run14, run15, run16, run17, run18, run19, run20, run21, run22, reduceCtorEq, Nat.reduceEqDiff, Nat.reduceAdd, Nat.reduceSub, Nat.reduceLeDiff, indexAddrA, indexRefA, appendA, strA, Nat.reduceMul, Nat.zero_mul, Nat.reduceMod, Int.reduceEq, Int.reduceLT, Int.reduceLE, Nat.reduceLT, Nat.lt_irrefl, Nat.reduceBEq, tys0, tys1, tys2, tys3, tys4, tys5, tys6, tys7, tys8, tys9, tys10, Try.ntmps29, Try.results29, e1, e2, Int.toNat_natCast, Int.natCast_nonneg, List.getElem?_append_right, Nat.le_refl, Nat.sub_self]
    refine RunL.callp rfl rfl ok_f50 m1 rfl rfl ?_
    simp only [run0, run1, run2, run3, run4, run5, run6, run7, run8, run9, run10, run11, run12, run13, run14, run15, run16, run17, run18, run19, run20, run21, run22, reduceCtorEq, Nat.reduceEqDiff, Nat.reduceAdd, Nat.reduceSub, Nat.reduceLeDiff, indexAddrA, indexRefA, appendA, strA, Nat.reduceMul, Nat.zero_mul, Nat.reduceMod, Int.reduceEq, Int.reduceLT, Int.reduceLE, Nat.reduceLT, Nat.lt_irrefl, Nat.reduceBEq, tys0, tys1, tys2, tys3, tys4, tys5, tys6, tys7, tys8, tys9, tys10, Try.ntmps29, Try.results29]
    refine RunL.callp rfl rfl ok_f50 m2 rfl rfl ?_
    simp only [run0, run1, run2, run3, run4, run5, run6, run7, run8, run9, run10, run11, run12, run13, run14, run15, run16, run17, run18, run19, run20, run21, run22, reduceCtorEq, Nat.reduceEqDiff, Nat.reduceAdd, Nat.reduceSub, Nat.reduceLeDiff, indexAddrA, indexRefA, appendA, strA, Nat.reduceMul, Nat.zero_mul, Nat.reduceMod, Int.reduceEq, Int.reduceLT, Int.reduceLE, Nat.reduceLT, Nat.lt_irrefl, Nat.reduceBEq, tys0, tys1, tys2, tys3, tys4, tys5, tys6, tys7, tys8, tys9, tys10, Try.ntmps29, Try.results29, e5]
    exact ⟨⟨mx2 (mx2 n t.1) t.2, d ++ [t], r, _⟩, ⟨by rw [ha]; simp, h4⟩, by simp, by simp only [List.length_append, List.length_cons, List.length_nil]; repeat constructor, rfl⟩
theorem grMoved_ok (k n : Int) (h1 : 0 ≤ k ∧ k ≤ 12) (h2 : 0 ≤ n ∧ n ≤ 12) : Ct Try.prog 28 [.int .i64 k, .int .i64 n] [] (.int .i64 (movK n k)) [] := by
  refine Ct.by_ hmix [] Try.func28 rfl ?_
  by_cases h : k = 0
  · subst h
    simp only [run0, run1, run2, run3, run4, run5, run6, run7, run8, run9, run10, run11, run12, run13, run14, run15, run16, run17, run18, run19, run20, run21, run22, reduceCtorEq, Nat.reduceEqDiff, Nat.reduceAdd, Nat.reduceSub, Nat.reduceLeDiff, indexAddrA, indexRefA, appendA, strA, Nat.reduceMul, Nat.zero_mul, Nat.reduceMod, Int.reduceEq, Int.reduceLT, Int.reduceLE, Nat.reduceLT, Nat.lt_irrefl, Nat.reduceBEq, tys0, tys1, tys2, tys3, tys4, tys5, tys6, tys7, tys8, tys9, tys10, Try.ntmps28, Try.results28]
    exact Fin.eq rfl rfl
  · have e1 : (k == 0) = false := by simpa using h
    have e2 : IntKind.i64.wrap (k + n) = k + n := s64_id (by omega) (by omega)
    simp only [run0, run1, run2, run3, run4, run5, run6, run7, run8, run9, run10, run11, run12, run13, run14, run15, run16, run17, run18, run19, run20, run21, run22, reduceCtorEq, Nat.reduceEqDiff, Nat.reduceAdd, Nat.reduceSub, Nat.reduceLeDiff, indexAddrA, indexRefA, appendA, strA, Nat.reduceMul, Nat.zero_mul, Nat.reduceMod, Int.reduceEq, Int.reduceLT, Int.reduceLE, Nat.reduceLT, Nat.lt_irrefl, Nat.reduceBEq, tys0, tys1, tys2, tys3, tys4, tys5, tys6, tys7, tys8, tys9, tys10, Try.ntmps28, Try.results28, e1, e2]
    exact Fin.eq (by simp [movK, h]) rfl
theorem specJoin_ok (g h : List TwZ) (lg : g.length ≤ 1048576) (lh : h.length ≤ 1048576) : Ct Try.prog 9 [.sl false (g.map twI), .sl false (h.map twI)] [] (.tup [.sl false ((if jnB g h then joinT g h else []).map twI), .bool (jnB g h)]) [] := by
  have pg := twI_pure g
  have ph := twI_pure h
  refine Ct.by_ hmix [] Try.func9 rfl ?_
  simp only [run0, run1, run2, run3, run4, run5, run6, run7, run8, run9, run10, run11, run12, run13, run14, run15, run16, run17, run18, run19, run20, run21, run22, reduceCtorEq, Nat.reduceEqDiff, Nat.reduceAdd, Nat.reduceSub, Nat.reduceLeDiff, indexAddrA, indexRefA, appendA, strA, Nat.reduceMul, Nat.zero_mul, Nat.reduceMod, Int.reduceEq, Int.reduceLT, Int.reduceLE, Nat.reduceLT, Nat.lt_irrefl, Nat.reduceBEq, tys0, tys1, tys2, tys3, tys4, tys5, tys6, tys7, tys8, tys9, tys10, Try.ntmps9, Try.results9]
  refine RunL.callp rfl rfl ok_f27 (grGood_ok g lg) (by simp only [pureL, pureB, pg, Bool.and_self]) rfl ?_
  cases hp : picB g
  · have hj : jnB g h = false := by simp [jnB, hp]
    rw [hj]
    simp only [run0, run1, run2, run3, run4, run5, run6, run7, run8, run9, run10, run11, run12, run13, run14, run15, run16, run17, run18, run19, run20, run21, run22, reduceCtorEq, Nat.reduceEqDiff, Nat.reduceAdd, Nat.reduceSub, Nat.reduceLeDiff, indexAddrA, indexRefA, appendA, strA, Nat.reduceMul, Nat.zero_mul, Nat.reduceMod, Int.reduceEq, Int.reduceLT, Int.reduceLE, Nat.reduceLT, Nat.lt_irrefl, Nat.reduceBEq, tys0, tys1, tys2, tys3, tys4, tys5, tys6, tys7, tys8, tys9, tys10, Try.ntmps9, Try.results9]
    exact Fin.value (.tup (.cons (Vw.nil false) (.cons (.pur (.bool _)) .nil)))
  simp only [run0, run1, run2, run3, run4, run5, run6, run7, run8, run9, run10, run11, run12, run13, run14, run15, run16, run17, run18, run19, run20, run21, run22, reduceCtorEq, Nat.reduceEqDiff, Nat.reduceAdd, Nat.reduceSub, Nat.reduceLeDiff, indexAddrA, indexRefA, appendA, strA, Nat.reduceMul, Nat.zero_mul, Nat.reduceMod, Int.reduceEq, Int.reduceLT, Int.reduceLE, Nat.reduceLT, Nat.lt_irrefl, Nat.reduceBEq, tys0, tys1, tys2, tys3, tys4, tys5, tys6, tys7, tys8, tys9, tys10, Try.ntmps9, Try.results9]
  refine RunL.callp rfl rfl ok_f27 (grGood_ok h lh) (by simp only [pureL, pureB, ph, Bool.and_self]) rfl ?_
  cases hq : picB h
  · have hj : jnB g h = false := by simp [jnB, hq]
    rw [hj]
    simp only [run0, run1, run2, run3, run4, run5, run6, run7, run8, run9, run10, run11, run12, run13, run14, run15, run16, run17, run18, run19, run20, run21, run22, reduceCtorEq, Nat.reduceEqDiff, Nat.reduceAdd, Nat.reduceSub, Nat.reduceLeDiff, indexAddrA, indexRefA, appendA, strA, Nat.reduceMul, Nat.zero_mul, Nat.reduceMod, Int.reduceEq, Int.reduceLT, Int.reduceLE, Nat.reduceLT, Nat.lt_irrefl, Nat.reduceBEq, tys0, tys1, tys2, tys3, tys4, tys5, tys6, tys7, tys8, tys9, tys10, Try.ntmps9, Try.results9]
    exact Fin.value (.tup (.cons (Vw.nil false) (.cons (.pur (.bool _)) .nil)))
  have hp2 := hp
  have hq2 := hq
  simp only [picB, Bool.and_eq_true, decide_eq_true_eq] at hp2 hq2
  obtain ⟨top0, top1⟩ := topT_rng (n := 0) hp2.2 ⟨by omega, by omega⟩
  have f3 : g.length ≤ 137438953472 := by omega
  have f4 := twI_noOwn g
  have f5 : ((g.map twI).all fun z => z.cells.length == 2) = true := by
    refine List.all_eq_true.2 fun e he => ?_
    obtain ⟨y, _, rfl⟩ := List.mem_map.1 he
    rfl
  simp only [run0, run1, run2, run3, run4, run5, run6, run7, run8, run9, run10, run11, run12, run13, run14, run15, run16, run17, run18, run19, run20, run21, run22, reduceCtorEq, Nat.reduceEqDiff, Nat.reduceAdd, Nat.reduceSub, Nat.reduceLeDiff, indexAddrA, indexRefA, appendA, strA, Nat.reduceMul, Nat.zero_mul, Nat.reduceMod, Int.reduceEq, Int.reduceLT, Int.reduceLE, Nat.reduceLT, Nat.lt_irrefl, Nat.reduceBEq, tys0, tys1, tys2, tys3, tys4, tys5, tys6, tys7, tys8, tys9, tys10, Try.ntmps9, Try.results9, List.length_map, f3, f4, f5, Nat.zero_add, List.nil_append]
  refine AWp.loop_inv (ι := GoS) (fun p => ⟨[.sl false (g.map twI), .sl false (h.map twI), .junk, .junk, .junk, .junk, .ref 0 [] (1 + p.d.length) (g.length + p.d.length), .junk, .junk, .junk, .junk, .junk, .junk, .junk, .junk, .junk, .junk, .junk, .junk, .junk, .sl false (h.map twI), .int .i64 h.length, .int .i64 p.d.length, .junk, .junk, .junk, .junk, .junk, .junk, .junk, .junk, .junk, .junk, .junk, .junk, .junk, .junk, .junk, .junk, .junk, .junk, .junk, .junk, .junk, .junk], .vec 30 2 (1 + p.d.length) ((g ++ p.d.map (movT (topT g 0))).map twI) :: p.X⟩)
    (fun p => h = p.d ++ p.r) (fun p => p.r.length) ⟨[], h, []⟩ rfl ⟨by simp only [List.length_nil, Int.natCast_zero, Nat.add_zero]; repeat constructor, by simp⟩ ?_
  rintro ⟨d, r, X⟩ ha
  refine W.sound hmix (E := []) ?_
  simp only at ha
  have hda : d.length + r.length = h.length := by rw [ha, List.length_append]
  cases r with
  | nil =>
    have e1 : ¬ ((d.length : Int) < (h.length : Int)) := by simp at hda; omega
    rw [List.append_nil] at ha
    subst ha
    have hv : ∀ X : List AObj, Vw (.vec 30 2 (1 + h.length) ((g ++ h.map (movT (topT g 0))).map twI) :: X) (.ref 0 [] (1 + h.length) (g.length + h.length)) (.sl false ((g ++ h.map (movT (topT g 0))).map twI)) := fun X => Vw_twI rfl rfl (by simp)
    have cg := grGood_ok (g ++ h.map (movT (topT g 0))) (by simp; omega)
    simp only [run0, run1, run2, run3, run4, run5, run6, run7, run8, run9, run10, run11, run12, run13, run14, run15, run16, run17, run18, run19, run20, run21, run22, reduceCtorEq, Nat.reduceEqDiff, Nat.reduceAdd, Nat.reduceSub, Nat.reduceLeDiff, indexAddrA, indexRefA, appendA, strA, Nat.reduceMul, Nat.zero_mul, Nat.reduceMod, Int.reduceEq, Int.reduceLT, Int.reduceLE, Nat.reduceLT, Nat.lt_irrefl, Nat.reduceBEq, tys0, tys1, tys2, tys3, tys4, tys5, tys6, tys7, tys8, tys9, tys10, Try.ntmps9, Try.results9, e1]
    refine RunL.lendV rfl rfl ok_f27 rfl cg (.cons (hv _) .nil) rfl rfl ?_
    cases hj : picB (g ++ h.map (movT (topT g 0)))
    · have hj2 : jnB g h = false := by simp [jnB, joinT, hj]
      rw [hj2]
      simp only [run0, run1, run2, run3, run4, run5, run6, run7, run8, run9, run10, run11, run12, run13, run14, run15, run16, run17, run18, run19, run20, run21, run22, reduceCtorEq, Nat.reduceEqDiff, Nat.reduceAdd, Nat.reduceSub, Nat.reduceLeDiff, indexAddrA, indexRefA, appendA, strA, Nat.reduceMul, Nat.zero_mul, Nat.reduceMod, Int.reduceEq, Int.reduceLT, Int.reduceLE, Nat.reduceLT, Nat.lt_irrefl, Nat.reduceBEq, tys0, tys1, tys2, tys3, tys4, tys5, tys6, tys7, tys8, tys9, tys10, Try.ntmps9, Try.results9]
      exact Fin.value (.tup (.cons (Vw.nil false) (.cons (.pur (.bool _)) .nil)))
    · have hj2 : jnB g h = true := by simp [jnB, joinT, hj, hp, hq]
      rw [hj2, if_pos rfl]
      simp only [run0, run1, run2, run3, run4, run5, run6, run7, run8, run9, run10, run11, run12, run13, run14, run15, run16, run17, run18, run19, run20, run21, run22, reduceCtorEq, Nat.reduceEqDiff, Nat.reduceAdd, Nat.reduceSub, Nat.reduceLeDiff, indexAddrA, indexRefA, appendA, strA, Nat.reduceMul, Nat.zero_mul, Nat.reduceMod, Int.reduceEq, Int.reduceLT, Int.reduceLE, Nat.reduceLT, Nat.lt_irrefl, Nat.reduceBEq, tys0, tys1, tys2, tys3, tys4, tys5, tys6, tys7, tys8, tys9, tys10, Try.ntmps9, Try.results9]
      exact Fin.value (.tup (.cons (hv _) (.cons (.pur (.bool _)) .nil)))
  | cons t r =>
    simp only [List.length_cons] at hda
    have e1 : (d.length : Int) < (h.length : Int) := by omega
    have e2 : (h.map twI)[d.length]? = some (twI t) := by rw [ha]; simp
    have e5 : IntKind.i64.wrap ((d.length : Int) + 1) = ((d ++ [t]).length : Int) := by rw [s64_id (by omega) (by omega)]; simp
    simp only [twI] at e2
    have ct := grTop_ok g lg
    obtain ⟨a1, a2⟩ := okTw_iff.1 (List.all_eq_true.1 hq2.2 t (by rw [ha]; simp))
    have m1 := grMoved_ok t.1 (topT g 0) a1 ⟨top0, top1⟩
    have m2 := grMoved_ok t.2 (topT g 0) a2 ⟨top0, top1⟩
    have q3 : g.length + d.length + 1 ≤ 137438953472 := by omega
    have q4 := twI_noOwn (g ++ d.map (movT (topT g 0)))
    have q5 : ((g ++ d.map (movT (topT g 0))).map twI).length = g.length + d.length := by simp
    simp only [run0, run1, run2, run3, run4, run5, run6, run7, run8, run9, run10, run11, run12, run13, run14, run15, run16, run17, run18, run19, run20, run21, run22, reduceCtorEq, Nat.reduceEqDiff, Nat.reduceAdd, Nat.reduceSub, Nat.reduceLeDiff, indexAddrA, indexRefA, appendA, strA, Nat.reduceMul, Nat.zero_mul, Nat.reduceMod, Int.reduceEq, Int.reduceLT, Int.reduceLE, Nat.reduceLT, Nat.lt_irrefl, Nat.reduceBEq, tys0, tys1, tys2, tys3, tys4, tys5, tys6, tys7, tys8, tys9, tys10, Try.ntmps9, Try.results9, e1, e2, Int.toNat_natCast, Int.natCast_nonneg, List.getElem?_append_right, Nat.le_refl, Nat.sub_self]
    refine ⟨by kernel_rfl, ?_⟩
    try simp only [run0, run1, run2, run3, run4, run5, run6, run7, run8, run9, run10, run11, run12, run13, run14, run15, run16, run17, run18, run19, run20, run21, run22, reduceCtorEq, Nat.reduceEqDiff, Nat.reduceAdd, Nat.reduceSub, Nat.reduceLeDiff, indexAddrA, indexRefA, appendA, strA, Nat.reduceMul, Nat.zero_mul, Nat.reduceMod, Int.reduceEq, Int.reduceLT, Int.reduceLE, Nat.reduceLT, Nat.lt_irrefl, Nat.reduceBEq, tys0, tys1, tys2, tys3, tys4, tys5, tys6, tys7, tys8, tys9, tys10, Try.ntmps9, Try.results9]
    refine RunL.callp rfl rfl ok_f29 ct (by simp only [pureL, pureB, pg, Bool.and_self]) rfl ?_
    simp only [run0, run1, run2, run3, run4, run5, run6, run7, run8, run9, run10, run11, run12, run13, run14, run15, run16, run17, run18, run19, run20, run21, run22, reduceCtorEq, Nat.reduceEqDiff, Nat.reduceAdd, Nat.reduceSub, Nat.reduceLeDiff, indexAddrA, indexRefA, appendA, strA, Nat.reduceMul, Nat.zero_mul, Nat.reduceMod, Int.reduceEq, Int.reduceLT, Int.reduceLE, Nat.reduceLT, Nat.lt_irrefl, Nat.reduceBEq, tys0, tys1, tys2, tys3, tys4, tys5, tys6, tys7, tys8, tys9, tys10, Try.ntmps9, Try.results9]
    refine RunL.callp rfl rfl ok_f28 m1 rfl rfl ?_
    simp only [run0, run1, run2, run3, run4, run5, run6, run7, run8, run9, run10, run11, run12, run13, run14, run15, run16, run17, run18, run19, run20, run21, run22, reduceCtorEq, Nat.reduceEqDiff, Nat.reduceAdd, Nat.reduceSub, Nat.reduceLeDiff, indexAddrA, indexRefA, appendA, strA, Nat.reduceMul, Nat.zero_mul, Nat.reduceMod, Int.reduceEq, Int.reduceLT, Int.reduceLE, Nat.reduceLT, Nat.lt_irrefl, Nat.reduceBEq, tys0, tys1, tys2, tys3, tys4, tys5, tys6, tys7, tys8, tys9, tys10, Try.ntmps9, Try.results9]
    refine RunL.callp rfl rfl ok_f29 ct (by simp only [pureL, pureB, pg, Bool.and_self]) rfl ?_
    simp only [run0, run1, run2, run3, run4, run5, run6, run7, run8, run9, run10, run11, run12, run13, run14, run15, run16, run17, run18, run19, run20, run21, run22, reduceCtorEq, Nat.reduceEqDiff, Nat.reduceAdd, Nat.reduceSub, Nat.reduceLeDiff, indexAddrA, indexRefA, appendA, strA, Nat.reduceMul, Nat.zero_mul, Nat.reduceMod, Int.reduceEq, Int.reduceLT, Int.reduceLE, Nat.reduceLT, Nat.lt_irrefl, Nat.reduceBEq, tys0, tys1, tys2, tys3, tys4, tys5, tys6, tys7, tys8, tys9, tys10, Try.ntmps9, Try.results9]
    refine RunL.callp rfl rfl ok_f28 m2 rfl rfl ?_
    simp only [run0, run1, run2, run3, run4, run5, run6, run7, run8, run9, run10, run11, run12, run13, run14, run15, run16, run17, run18, run19, run20, run21, run22, reduceCtorEq, Nat.reduceEqDiff, Nat.reduceAdd, Nat.reduceSub, Nat.reduceLeDiff, indexAddrA, indexRefA, appendA, strA, Nat.reduceMul, Nat.zero_mul, Nat.reduceMod, Int.reduceEq, Int.reduceLT, Int.reduceLE, Nat.reduceLT, Nat.lt_irrefl, Nat.reduceBEq, tys0, tys1, tys2, tys3, tys4, tys5, tys6, tys7, tys8, tys9, tys10, Try.ntmps9, Try.results9, e5, q3, q4, q5]
    exact ⟨⟨d ++ [t], r, _⟩, by rw [ha]; simp, by simp, by simp only [List.length_append, List.length_cons, List.length_nil]; repeat constructor, by simp [movT, twI]; exact ⟨by omega, rfl⟩⟩

end Go.Proofs.Ytobdpkkmkbafbaa
/-
  Side by side, values add as nim sums (plain law).
-/
namespace Go.Proofs.Ytobdpkkmkbafbaa
open Go K
set_option linter.unusedSimpArgs false
set_option linter.unusedVariables false
set_option maxHeartbeats 1600000

theorem valA (X : GTw) : vB X (gSet X) = vS X (fun _ => true) 0 := by
  have h1 : vS X (allM X).testBit 0 = vS X (gSet X).testBit 0 := vS_grd fun j hj => gRun_is X (allM X).testBit j
  have I : Iso X X (allM X).testBit (fun _ => true) id id 0 := ⟨fun _ _ h => h, fun _ _ h => h, fun j a b h => ⟨a, b, h, rfl, rfl⟩, fun j hj => by rw [id, allM_bit]; simp [hj], fun i ⟨a, b, hT⟩ => ⟨i, (List.getElem?_eq_some_iff.1 hT.1).1, rfl⟩⟩
  have := vS_iso _ (Nat.le_refl _) I
  unfold vB
  rw [← h1, ← this]; rfl
def mvN (top k : Nat) : Nat := if k = 0 then 0 else k + top
theorem joinN {g h : List TwZ} {top : Nat} (ht : topT g 0 = (top : Int)) (hh : h.all okTw = true) : natG (joinT g h) = natG g ++ (natG h).map fun t => (mvN top t.1, mvN top t.2) := by
  have key : ∀ k : Int, 0 ≤ k → (movK (top : Int) k).toNat = mvN top k.toNat := fun k hk => by
    unfold movK mvN
    by_cases e : k = 0
    · subst e; rfl
    · rw [if_neg e, if_neg (by omega)]; omega
  simp only [natG, joinT, List.map_append, List.map_map, ht]
  congr 1
  refine List.map_congr_left fun t hm => ?_
  obtain ⟨⟨a1, a2⟩, b1, b2⟩ := okTw_nat (List.all_eq_true.1 hh t hm)
  simp only [Function.comp, movT, key _ a1, key _ b1]
theorem sum_plain (G H : GTw) (top : Nat) (hG : ∀ t ∈ G, t.1 ≤ top ∧ t.2 ≤ top) (hH : ∀ t ∈ H, t.1 ≤ 12 ∧ t.2 ≤ 12) :
    vS (G ++ H.map fun t => (mvN top t.1, mvN top t.2)) (fun _ => true) 0 = vS G (fun _ => true) 0 ^^^ vS H (fun _ => true) 0 := by
  have hjl : (G ++ H.map fun t => (mvN top t.1, mvN top t.2)).length = G.length + H.length := by simp
  have g1 : ∀ j, j < G.length → (G ++ H.map fun t => (mvN top t.1, mvN top t.2))[j]? = G[j]? := fun j hj => List.getElem?_append_left hj
  have g2 : ∀ j, (G ++ H.map fun t => (mvN top t.1, mvN top t.2))[G.length + j]? = (H[j]?).map fun t => (mvN top t.1, mvN top t.2) := fun j => by
    rw [List.getElem?_append_right (by omega), Nat.add_sub_cancel_left, List.getElem?_map]
  generalize (G ++ H.map fun t => (mvN top t.1, mvN top t.2)) = J at *
  have IG : Iso J G (fun j => decide (j < G.length)) (fun _ => true) id id 0 := ⟨fun _ _ h => h, fun _ _ h => h, fun j a b h => ⟨a, b, by rw [id, g1 j (List.getElem?_eq_some_iff.1 h).1, h], rfl, rfl⟩, fun j hj => by simp [hj], fun i ⟨a, b, hT⟩ => ⟨i, by simpa using hT.2.1, rfl⟩⟩
  have IH : Iso J H (fun j => decide (G.length ≤ j)) (fun _ => true) (fun j => G.length + j) (fun k => if k = 0 then 0 else if top < k ∧ k ≤ top + 12 then k - top else k + 100) 0 := by
    have ps : ∀ a, a ≤ 12 → a = (if mvN top a = 0 then 0 else if top < mvN top a ∧ mvN top a ≤ top + 12 then mvN top a - top else mvN top a + 100) := fun a ha => by
      unfold mvN
      by_cases e : a = 0
      · subst e; rfl
      · rw [if_neg e, if_neg (by omega), if_pos (by omega)]; omega
    refine ⟨fun i j h => by omega, fun a b h => ?_, fun j a b h => ?_, fun j hj => by simp, fun i ⟨a, b, hT⟩ => ?_⟩
    · split at h <;> split at h <;> (try split at h) <;> (try split at h) <;> omega
    · obtain ⟨b1, b2⟩ := hH (a, b) (List.mem_of_getElem? h)
      exact ⟨mvN top a, mvN top b, by simp only [g2, h, Option.map_some], ps a b1, ps b b2⟩
    · have h1 := hT.2.1
      have h2 := (List.getElem?_eq_some_iff.1 hT.1).1
      simp only [decide_eq_true_eq] at h1
      exact ⟨i - G.length, by omega, by omega⟩
  have hA := vS_iso _ (Nat.le_refl _) IG
  have hB := vS_iso _ (Nat.le_refl _) IH
  have hu : unK (fun j => decide (j < G.length)) (fun j => decide (G.length ≤ j)) = fun _ => true := by
    funext j
    simp only [unK, Bool.or_eq_true, decide_eq_true_eq]
    omega
  have hAp : Apart J (fun j => decide (j < G.length)) (fun j => decide (G.length ≤ j)) 0 (fun k => k ≤ top) := by
    refine ⟨fun j h1 h2 => ?_, Nat.zero_le _, fun j a b h1 h2 => ?_, fun j a b h1 h2 => ?_⟩
    · simp only [decide_eq_true_eq] at h1 h2; omega
    · simp only [decide_eq_true_eq] at h2
      rw [g1 j h2] at h1
      exact hG (a, b) (List.mem_of_getElem? h1)
    · simp only [decide_eq_true_eq] at h2
      obtain ⟨i, rfl⟩ : ∃ i, j = G.length + i := ⟨j - G.length, by omega⟩
      rw [g2] at h1
      obtain ⟨t, _, ht⟩ := Option.map_eq_some_iff.1 h1
      cases ht
      have mk : ∀ k, mvN top k = 0 ∨ ¬ mvN top k ≤ top := fun k => by
        unfold mvN
        by_cases e : k = 0
        · rw [if_pos e]; exact .inl rfl
        · rw [if_neg e]; omega
      exact ⟨mk _, mk _⟩
  have hs := vS_sum _ (Nat.le_refl _) hAp
  rw [hu] at hs
  rw [hs]
  simp only [id, if_pos] at hA hB
  rw [hA, hB]
theorem val_join {g h : List TwZ} (hj : jnB g h = true) : valG (joinT g h) = valG g ^^^ valG h := by
  simp only [jnB, Bool.and_eq_true] at hj
  obtain ⟨⟨h1, h2⟩, h3⟩ := hj
  have hp2 := h1
  have hq2 := h2
  simp only [picB, Bool.and_eq_true, decide_eq_true_eq] at hp2 hq2
  obtain ⟨top0, top1⟩ := topT_rng (n := 0) hp2.2 ⟨by omega, by omega⟩
  obtain ⟨top, ht⟩ := Int.eq_ofNat_of_zero_le top0
  have e : ∀ x : List TwZ, picB x = true → valG x = vS (natG x) (fun _ => true) 0 := fun x hx => by rw [valG, if_pos hx, valA]
  rw [e _ h1, e _ h2, e _ h3, joinN ht hq2.2]
  refine sum_plain _ _ top (fun t hm => ?_) (picB_nat h2).1.2
  simp only [natG, List.mem_map] at hm
  obtain ⟨u, hu, rfl⟩ := hm
  obtain ⟨k1, k2⟩ := (topT_ge g 0).2 u hu
  exact ⟨by simp only; omega, by simp only; omega⟩
theorem valG_le (g : List TwZ) : valG g ≤ 14 := by
  unfold valG
  by_cases h : picB g = true
  · rw [if_pos h]
    have := vB_le (natG g) (gSet (natG g))
    have := (picB_nat h).1.1
    omega
  · rw [if_neg h]; omega

end Go.Proofs.Ytobdpkkmkbafbaa
/-
  Fallen twigs change nothing (plain law).
-/
namespace Go.Proofs.Ytobdpkkmkbafbaa
open Go K
set_option linter.unusedSimpArgs false
set_option linter.unusedVariables false
set_option maxHeartbeats 1600000

/-- Where the twigs of a set stand. -/
def posT (p : Nat → Bool) : Nat → List TwZ → List Nat
  | _, [] => []
  | i, t :: r => if p i then i :: posT p (i + 1) r else posT p (i + 1) r
theorem posT_at (p : Nat → Bool) : ∀ (g : List TwZ) (i j : Nat), (keptT p i g)[j]? = (posT p i g)[j]?.bind (fun k => g[k - i]?) ∧ ((posT p i g)[j]? = none ∨ ∃ k, (posT p i g)[j]? = some k ∧ i ≤ k ∧ k < i + g.length ∧ p k = true)
  | [], i, j => by simp [keptT, posT]
  | t :: r, i, j => by
    have step : ∀ j, (keptT p (i + 1) r)[j]? = (posT p (i + 1) r)[j]?.bind (fun k => (t :: r)[k - i]?) ∧ ((posT p (i + 1) r)[j]? = none ∨ ∃ k, (posT p (i + 1) r)[j]? = some k ∧ i + 1 ≤ k ∧ k < i + (t :: r).length ∧ p k = true) := fun j => by
      obtain ⟨h1, h2⟩ := posT_at p r (i + 1) j
      rcases h2 with h2 | ⟨k, h2, h3, h4, h5⟩
      · exact ⟨by rw [h1, h2]; rfl, .inl h2⟩
      · refine ⟨?_, .inr ⟨k, h2, h3, by simp only [List.length_cons]; omega, h5⟩⟩
        rw [h1, h2, Option.bind_some, Option.bind_some, show k - i = (k - (i + 1)) + 1 by omega, List.getElem?_cons_succ]
    unfold keptT posT
    cases hp : p i
    · obtain ⟨h1, h2⟩ := step j
      refine ⟨h1, ?_⟩
      rcases h2 with h2 | ⟨k, h2, h3, h4, h5⟩
      · exact .inl h2
      · exact .inr ⟨k, h2, by omega, h4, h5⟩
    · cases j with
      | zero => exact ⟨by simp, .inr ⟨i, by simp, Nat.le_refl _, by simp, hp⟩⟩
      | succ j =>
        obtain ⟨h1, h2⟩ := step j
        simp only [if_true, List.getElem?_cons_succ]
        refine ⟨h1, ?_⟩
        rcases h2 with h2 | ⟨k, h2, h3, h4, h5⟩
        · exact .inl h2
        · exact .inr ⟨k, h2, by omega, h4, h5⟩
theorem posT_len (p : Nat → Bool) : ∀ (g : List TwZ) (i : Nat), (posT p i g).length = (keptT p i g).length
  | [], i => rfl
  | t :: r, i => by
    have := posT_len p r (i + 1)
    unfold keptT posT
    split
    · simp [this]
    · exact this
theorem posT_mem {p : Nat → Bool} : ∀ {g : List TwZ} {i k : Nat}, k ∈ posT p i g ↔ i ≤ k ∧ k < i + g.length ∧ p k = true
  | [], i, k => by simp [posT]; omega
  | t :: r, i, k => by
    have ih := posT_mem (p := p) (g := r) (i := i + 1) (k := k)
    unfold posT
    cases hp : p i
    · simp only [Bool.false_eq_true, if_false, ih, List.length_cons]
      constructor
      · rintro ⟨h1, h2, h3⟩; exact ⟨by omega, by omega, h3⟩
      · rintro ⟨h1, h2, h3⟩
        have : k ≠ i := fun e => by rw [e, hp] at h3; cases h3
        exact ⟨by omega, by omega, h3⟩
    · simp only [if_true, List.mem_cons, ih, List.length_cons]
      constructor
      · rintro (rfl | ⟨h1, h2, h3⟩)
        · exact ⟨Nat.le_refl _, by omega, hp⟩
        · exact ⟨by omega, by omega, h3⟩
      · rintro ⟨h1, h2, h3⟩
        by_cases e : k = i
        · exact .inl e
        · exact .inr ⟨by omega, by omega, h3⟩
theorem posT_nodup (p : Nat → Bool) : ∀ (g : List TwZ) (i : Nat), (posT p i g).Nodup
  | [], i => by simp [posT]
  | t :: r, i => by
    have ih := posT_nodup p r (i + 1)
    unfold posT
    split
    · refine List.nodup_cons.2 ⟨fun h => ?_, ih⟩
      have := posT_mem.1 h
      omega
    · exact ih
/-- The picture of a grounded set has the set's value; all of it is grounded. -/
theorem kept_iso {g : List TwZ} {p : Nat → Bool} (hp : ∀ i, p i = true → Grd (natG g) p i) :
    Iso (natG g) (natG (keptT p 0 g)) p (fun _ => true) (fun j => (posT p 0 g).getD j (g.length + j)) id 0 := by
  have hpl := posT_len p g 0
  have hget : ∀ j, j < (keptT p 0 g).length → ∃ k, (posT p 0 g)[j]? = some k ∧ k < g.length ∧ p k = true ∧ (keptT p 0 g)[j]? = g[k]? := fun j hj => by
    obtain ⟨h1, h2⟩ := posT_at p g 0 j
    rcases h2 with h2 | ⟨k, h2, h3, h4, h5⟩
    · rw [List.getElem?_eq_none_iff] at h2; omega
    · exact ⟨k, h2, by omega, h5, by rw [h1, h2]; rfl⟩
  have phi1 : ∀ j k, (posT p 0 g)[j]? = some k → (posT p 0 g).getD j (g.length + j) = k := fun j k h => by rw [List.getD_eq_getElem?_getD, h]; rfl
  have phi2 : ∀ j, (posT p 0 g)[j]? = none → (posT p 0 g).getD j (g.length + j) = g.length + j := fun j h => by rw [List.getD_eq_getElem?_getD, h]; rfl
  refine ⟨fun i j h => ?_, fun _ _ h => h, fun j a b h => ?_, fun j hj => ?_, fun i ⟨a, b, hT⟩ => ?_⟩
  · cases hi : (posT p 0 g)[i]? with
    | none =>
      rw [phi2 i hi] at h
      cases hj : (posT p 0 g)[j]? with
      | none => rw [phi2 j hj] at h; omega
      | some k =>
        rw [phi1 j k hj] at h
        have := (posT_mem.1 (List.mem_of_getElem? hj)).2.1
        omega
    | some k =>
      rw [phi1 i k hi] at h
      have hk := (posT_mem.1 (List.mem_of_getElem? hi)).2.1
      cases hj : (posT p 0 g)[j]? with
      | none => rw [phi2 j hj] at h; omega
      | some k2 =>
        rw [phi1 j k2 hj] at h
        subst h
        obtain ⟨hi1, hi2⟩ := List.getElem?_eq_some_iff.1 hi
        obtain ⟨hj1, hj2⟩ := List.getElem?_eq_some_iff.1 hj
        have hn := List.pairwise_iff_getElem.1 (posT_nodup p g 0)
        rcases Nat.lt_trichotomy i j with e | e | e
        · exact absurd (hi2.trans hj2.symm) (hn i j hi1 hj1 e)
        · exact e
        · exact absurd (hj2.trans hi2.symm) (hn j i hj1 hi1 e)
  · rw [natG_at] at h
    obtain ⟨t, ht, e⟩ := Option.map_eq_some_iff.1 h
    obtain ⟨k, k1, k2, k3, k4⟩ := hget j (List.getElem?_eq_some_iff.1 ht).1
    refine ⟨a, b, ?_, rfl, rfl⟩
    simp only [phi1 j k k1]
    rw [natG_at, ← k4, ht, Option.map_some, e]
  · rw [natG_len] at hj
    obtain ⟨k, k1, k2, k3, k4⟩ := hget j hj
    simp only [phi1 j k k1, k3]
  · have hl := (List.getElem?_eq_some_iff.1 hT.1).1
    rw [natG_len] at hl
    have hm : i ∈ posT p 0 g := posT_mem.2 ⟨Nat.zero_le _, by omega, hT.2.1⟩
    obtain ⟨j, hj⟩ := List.mem_iff_getElem?.1 hm
    refine ⟨j, ?_, phi1 j i hj⟩
    rw [natG_len, ← hpl]
    exact (List.getElem?_eq_some_iff.1 hj).1
theorem keptT_ok {p : Nat → Bool} : ∀ {g : List TwZ} {i : Nat}, g.all okTw = true → (keptT p i g).all okTw = true
  | [], i, _ => rfl
  | t :: r, i, h => by
    rw [List.all_cons, Bool.and_eq_true] at h
    have ih := keptT_ok (p := p) (g := r) (i := i + 1) h.2
    unfold keptT
    split
    · rw [List.all_cons, h.1, ih]; rfl
    · exact ih
theorem kept_pic {g : List TwZ} (p : Nat → Bool) (h : picB g = true) : picB (keptT p 0 g) = true := by
  simp only [picB, Bool.and_eq_true, decide_eq_true_eq] at h ⊢
  exact ⟨by have := keptT_len p g 0; omega, keptT_ok h.2⟩
theorem kept_val {g : List TwZ} (h : picB g = true) {p : Nat → Bool} (hp : ∀ i, p i = true → Grd (natG g) p i) : valG (keptT p 0 g) = vS (natG g) p 0 := by
  rw [valG, if_pos (kept_pic p h), valA]
  exact vS_iso _ (Nat.le_refl _) (kept_iso hp)
theorem keptT_all {p : Nat → Bool} : ∀ {g : List TwZ} {i : Nat}, (∀ j, j < g.length → p (i + j) = true) → keptT p i g = g
  | [], i, _ => rfl
  | t :: r, i, h => by
    have h0 := h 0 (by simp)
    rw [Nat.add_zero] at h0
    unfold keptT
    rw [if_pos h0, keptT_all fun j hj => by
      have := h (j + 1) (by simp only [List.length_cons]; omega)
      rwa [show i + (j + 1) = i + 1 + j by omega] at this]
theorem gSet_grd {g : List TwZ} (h : picB g = true) : ∀ i, (gSet (natG g)).testBit i = true → Grd (natG g) (gSet (natG g)).testBit i := (grd_set (picB_nat h).1 _).grd
theorem grdT_pic {g : List TwZ} (h : picB g = true) : picB (grdT g) = true := by rw [grdT, if_pos h]; exact kept_pic _ h
theorem grdT_val {g : List TwZ} (h : picB g = true) : valG (grdT g) = valG g := by
  rw [grdT, if_pos h, kept_val h (gSet_grd h), valG, if_pos h]; rfl
theorem grdT_twice {g : List TwZ} (h : picB g = true) : grdT (grdT g) = grdT g := by
  have hk := grdT_pic h
  rw [grdT, if_pos hk]
  refine keptT_all fun j hj => ?_
  rw [Nat.zero_add]
  have I := kept_iso (gSet_grd h)
  have hG : grdT g = keptT (gSet (natG g)).testBit 0 g := by rw [grdT, if_pos h]
  rw [← hG] at I
  obtain ⟨⟨a, b⟩, hab⟩ : ∃ t, (natG (grdT g))[j]? = some t := ⟨(natG (grdT g))[j]'(by rw [natG_len]; exact hj), by rw [List.getElem?_eq_getElem]⟩
  obtain ⟨a', b', h1, h2, h3⟩ := I.tw j a b hab
  have hkp := I.keep j (by rw [natG_len]; exact hj)
  obtain ⟨a2, b2, k1, k2, k3⟩ := gSet_grd h _ hkp.symm
  rw [k1] at h1
  cases h1
  have hr := I.up k3
  refine (gRun_is _ _ _).2 ⟨a, b, hab, by rw [allM_bit]; simp [natG_len, hj], ?_⟩
  have hr : Rch (natG (grdT g)) (fun _ => true) 0 a := by rw [h2]; exact hr
  clear h2 h3 k1 k2 k3 hkp I hab
  induction hr with
  | refl => exact .refl
  | fwd q1 _ _ ih => exact .fwd q1 (by rw [allM_bit]; simp [(List.getElem?_eq_some_iff.1 q1).1]) ih
  | bwd q1 _ _ ih => exact .bwd q1 (by rw [allM_bit]; simp [(List.getElem?_eq_some_iff.1 q1).1]) ih

end Go.Proofs.Ytobdpkkmkbafbaa
/-
  Winning cuts (plain law).
-/
namespace Go.Proofs.Ytobdpkkmkbafbaa
open Go K
set_option linter.unusedSimpArgs false
set_option linter.unusedVariables false
set_option maxHeartbeats 1600000

/-- The first twig whose cut leaves 0. -/
noncomputable def winI (G : GTw) (set : Nat) : Nat → Nat → Option Nat
  | 0, _ => none
  | f + 1, i => if set.testBit i && (vB G (cutS G set i) == 0) then some i else winI G set f (i + 1)
theorem winI_some {G : GTw} {set b : Nat} : ∀ {f i : Nat}, winI G set f i = some b → (i ≤ b ∧ b < i + f) ∧ (set.testBit b = true ∧ vB G (cutS G set b) = 0) ∧ ∀ j, i ≤ j → j < b → set.testBit j = true → vB G (cutS G set j) ≠ 0
  | 0, i, h => by cases h
  | f + 1, i, h => by
    unfold winI at h
    split at h
    · rename_i hc
      cases h
      simp only [Bool.and_eq_true, beq_iff_eq] at hc
      exact ⟨⟨Nat.le_refl _, by omega⟩, hc, fun j h1 h2 => by omega⟩
    · rename_i hc
      obtain ⟨h1, h2, h3⟩ := winI_some h
      refine ⟨⟨by omega, by omega⟩, h2, fun j j1 j2 j3 j4 => ?_⟩
      by_cases e : j = i
      · subst e; exact hc (by simp [j3, j4])
      · exact h3 j (by omega) j2 j3 j4
theorem winI_none {G : GTw} {set : Nat} : ∀ {f i : Nat}, winI G set f i = none → ∀ j, i ≤ j → j < i + f → set.testBit j = true → vB G (cutS G set j) ≠ 0
  | 0, i, _, j, h1, h2, _ => by omega
  | f + 1, i, h, j, h1, h2, h3 => by
    unfold winI at h
    split at h
    · cases h
    · rename_i hc
      by_cases e : j = i
      · subst e; exact fun h4 => hc (by simp [h3, h4])
      · exact winI_none h j (by omega) (by omega) h3
theorem winI_ok {G : GTw} {set : Nat} (hs : GSet G set) : (winI G set G.length 0).isSome = decide (0 < vB G set) := by
  cases h : winI G set G.length 0 with
  | none =>
    have hn := winI_none h
    have : ¬ 0 < vB G set := fun h0 => by
      obtain ⟨i, hc, hval⟩ := vS_lt h0
      obtain ⟨a, b, hT⟩ := hc
      exact hn i (Nat.zero_le _) (by have := hT.lt; omega) hT.2.1 (by rw [vB_cut hs.lt, hval])
    simp [this]
  | some b =>
    obtain ⟨_, ⟨h1, h2⟩, _⟩ := winI_some h
    have hne := vS_ne (hs.cn h1)
    rw [← vB_cut hs.lt, h2] at hne
    have : 0 < vB G set := by
      unfold vB
      omega
    simp [this]
/-- Cutting a grounded twig from all twigs, or from the grounded ones. -/
theorem cut_all {G : GTw} (P : Pic G) (i : Nat) : vB G (cutS G (allM G) i) = vB G (cutS G (gSet G) i) := by
  have hgs : gSet G < 2 ^ 14 := gRun_lt P
  rw [vB_cut (allM_lt P), vB_cut hgs]
  have hB : ∀ j, (gSet G).testBit j = true ↔ Grd G (allM G).testBit j := fun j => gRun_is G (allM G).testBit j
  have sub : ∀ j, butK (gSet G).testBit i j = true → butK (allM G).testBit i j = true := fun j h => by
    obtain ⟨h1, h2⟩ := butK_ne.1 h
    obtain ⟨a, b, _, h3, _⟩ := (hB j).1 h1
    exact butK_ne.2 ⟨h3, h2⟩
  have mono : ∀ {k}, Rch G (butK (allM G).testBit i) 0 k → Rch G (allM G).testBit 0 k := fun h => h.mono fun j hj => (butK_ne.1 hj).1
  have up : ∀ {k}, Rch G (butK (allM G).testBit i) 0 k → Rch G (butK (gSet G).testBit i) 0 k := fun {k} hk => by
    induction hk with
    | refl => exact .refl
    | fwd hg hA hr ih =>
      obtain ⟨h1, h2⟩ := butK_ne.1 hA
      exact .fwd hg (butK_ne.2 ⟨(hB _).2 ⟨_, _, hg, h1, mono hr⟩, h2⟩) ih
    | bwd hg hA hr ih =>
      obtain ⟨h1, h2⟩ := butK_ne.1 hA
      exact .bwd hg (butK_ne.2 ⟨(hB _).2 ⟨_, _, hg, h1, .bwd hg h1 (mono hr)⟩, h2⟩) ih
  refine vS_local fun j a b => ⟨fun ⟨hg, hA, hr⟩ => ?_, fun ⟨hg, hA, hr⟩ => ⟨hg, sub j hA, hr.mono sub⟩⟩
  obtain ⟨h1, h2⟩ := butK_ne.1 hA
  exact ⟨hg, butK_ne.2 ⟨(hB _).2 ⟨_, _, hg, h1, mono hr⟩, h2⟩, up hr⟩
/-- What the program's cut leaves. -/
def cutT (g : List TwZ) (i : Nat) : List TwZ := keptT (cutS (natG g) (allM (natG g)) i).testBit 0 g
theorem cutT_val {g : List TwZ} (h : picB g = true) (i : Nat) : valG (cutT g i) = vB (natG g) (cutS (natG g) (gSet (natG g)) i) := by
  have P := (picB_nat h).1
  rw [cutT, kept_val h (cutS_ok P _ i).grd, ← cut_all P]; rfl
theorem cutT_pic {g : List TwZ} (h : picB g = true) (i : Nat) : picB (cutT g i) = true := kept_pic _ h
noncomputable def winT (g : List TwZ) : Option Nat := if picB g then winI (natG g) (gSet (natG g)) g.length 0 else none
noncomputable def winV (g : List TwZ) : AV := .tup [.int .i64 (((winT g).getD 0 : Nat) : Int), .bool (winT g).isSome]

end Go.Proofs.Ytobdpkkmkbafbaa
/-
  The nim sum of small numbers.
-/
namespace Go.Proofs.Ytobdpkkmkbafbaa
open Go K
set_option linter.unusedSimpArgs false
set_option linter.unusedVariables false
set_option maxHeartbeats 1600000
set_option maxRecDepth 8000

def nats (l : List Nat) : List AV := l.map fun n : Nat => .int .i64 (n : Int)
theorem nats_pure : ∀ l : List Nat, pureL (nats l) = true
  | [] => rfl
  | t :: g => by simp only [nats, List.map_cons, pureL, pureB, Bool.true_and]; exact nats_pure g
theorem xor_i64 {a b : Nat} (ha : a < 2 ^ 32) (hb : b < 2 ^ 32) : Go.bits .xor .i64 a b = ((a ^^^ b : Nat) : Int) := by
  have h : a ^^^ b < 2 ^ 32 := Nat.xor_lt_two_pow ha hb
  show IntKind.i64.wrap ((BitVec.ofInt 64 (a : Int) ^^^ BitVec.ofInt 64 (b : Int)).toNat : Int) = _
  rw [bv_nat, bv_nat, BitVec.toNat_xor, BitVec.toNat_ofNat, BitVec.toNat_ofNat, Nat.mod_eq_of_lt (by omega), Nat.mod_eq_of_lt (by omega)]
  exact s64_id (by omega) (by omega)
theorem isNimber_ok (n : Nat) (h : n < 2 ^ 5) : Ct Try.prog 34 [.int .i64 n] [] (.bool true) [] := by
  have ci := inK_ok (n : Int) 0 65535
  have hk : inK (n : Int) 0 65535 = true := by simp [inK]; omega
  rw [hk] at ci
  refine Ct.by_ hmix [] Try.func34 rfl ?_
  simp only [run0, run1, run2, run3, run4, run5, run6, run7, run8, run9, run10, run11, run12, run13, run14, run15, run16, run17, run18, run19, run20, run21, run22, reduceCtorEq, Nat.reduceEqDiff, Nat.reduceAdd, Nat.reduceSub, Nat.reduceLeDiff, indexAddrA, indexRefA, appendA, strA, Nat.reduceMul, Nat.zero_mul, Nat.reduceMod, Int.reduceEq, Int.reduceLT, Int.reduceLE, Nat.reduceLT, Nat.lt_irrefl, Nat.reduceBEq, tys0, tys1, tys2, tys3, tys4, tys5, tys6, tys7, tys8, tys9, tys10, Try.ntmps34, Try.results34]
  refine RunL.callp rfl rfl ok_f42 ci rfl rfl ?_
  simp only [run0, run1, run2, run3, run4, run5, run6, run7, run8, run9, run10, run11, run12, run13, run14, run15, run16, run17, run18, run19, run20, run21, run22, reduceCtorEq, Nat.reduceEqDiff, Nat.reduceAdd, Nat.reduceSub, Nat.reduceLeDiff, indexAddrA, indexRefA, appendA, strA, Nat.reduceMul, Nat.zero_mul, Nat.reduceMod, Int.reduceEq, Int.reduceLT, Int.reduceLE, Nat.reduceLT, Nat.lt_irrefl, Nat.reduceBEq, tys0, tys1, tys2, tys3, tys4, tys5, tys6, tys7, tys8, tys9, tys10, Try.ntmps34, Try.results34]
  exact Fin.eq rfl rfl
theorem nimSum_ok (l : List Nat) (hl : l.length ≤ 30) (hb : ∀ n ∈ l, n < 2 ^ 5) : Ct Try.prog 11 [.sl false (nats l)] [] (.tup [.int .i64 (l.foldl (· ^^^ ·) 0 : Nat), .bool true]) [] := by
  have hnl : (nats l).length = l.length := by simp [nats]
  refine Ct.by_ hmix [] Try.func11 rfl ?_
  simp only [run0, run1, run2, run3, run4, run5, run6, run7, run8, run9, run10, run11, run12, run13, run14, run15, run16, run17, run18, run19, run20, run21, run22, reduceCtorEq, Nat.reduceEqDiff, Nat.reduceAdd, Nat.reduceSub, Nat.reduceLeDiff, indexAddrA, indexRefA, appendA, strA, Nat.reduceMul, Nat.zero_mul, Nat.reduceMod, Int.reduceEq, Int.reduceLT, Int.reduceLE, Nat.reduceLT, Nat.lt_irrefl, Nat.reduceBEq, tys0, tys1, tys2, tys3, tys4, tys5, tys6, tys7, tys8, tys9, tys10, Try.ntmps11, Try.results11, hnl]
  refine AWp.loop_inv (ι := Nat × List Nat × List Nat) (fun p => ⟨[.sl false (nats l), .junk, .junk, .junk, .int .i64 p.1, .junk, .junk, .sl false (nats l), .int .i64 l.length, .int .i64 p.2.1.length, .junk, .junk, .junk, .junk, .junk, .junk, .junk, .junk, .junk, .junk, .junk, .junk, .junk, .junk, .junk, .junk], []⟩)
    (fun p => l = p.2.1 ++ p.2.2 ∧ p.1 < 2 ^ 5 ∧ p.2.2.foldl (· ^^^ ·) p.1 = l.foldl (· ^^^ ·) 0) (fun p => p.2.2.length) (0, [], l) ⟨rfl, by simp only; omega, rfl⟩ ⟨by simp only [List.length_nil, Int.natCast_zero]; repeat constructor, rfl⟩ ?_
  rintro ⟨n, d, r⟩ ⟨ha, hn, h4⟩
  refine W.sound hmix (E := []) ?_
  simp only at ha hn h4
  have hda : d.length + r.length = l.length := by rw [ha, List.length_append]
  cases r with
  | nil =>
    have e1 : ¬ ((d.length : Int) < (l.length : Int)) := by simp at hda; omega
    simp only [run0, run1, run2, run3, run4, run5, run6, run7, run8, run9, run10, run11, run12, run13, run14, run15, run16, run17, run18, run19, run20, run21, run22, reduceCtorEq, Nat.reduceEqDiff, Nat.reduceAdd, Nat.reduceSub, Nat.reduceLeDiff, indexAddrA, indexRefA, appendA, strA, Nat.reduceMul, Nat.zero_mul, Nat.reduceMod, Int.reduceEq, Int.reduceLT, Int.reduceLE, Nat.reduceLT, Nat.lt_irrefl, Nat.reduceBEq, tys0, tys1, tys2, tys3, tys4, tys5, tys6, tys7, tys8, tys9, tys10, Try.ntmps11, Try.results11, e1]
    exact Fin.eq (by rw [← h4]; rfl) rfl
  | cons t r =>
    simp only [List.length_cons] at hda
    have e1 : (d.length : Int) < (l.length : Int) := by omega
    have e2 : (nats l)[d.length]? = some (.int .i64 t) := by rw [ha]; simp [nats]
    have e5 : IntKind.i64.wrap ((d.length : Int) + 1) = ((d ++ [t]).length : Int) := by rw [s64_id (by omega) (by omega)]; simp
    have ht := hb t (by rw [ha]; simp)
    have hx := xor_i64 (a := n) (b := t) (by omega) (by omega)
    have e6 : ((d.length : Int) == 40) = false := by simp; omega
    simp only [run0, run1, run2, run3, run4, run5, run6, run7, run8, run9, run10, run11, run12, run13, run14, run15, run16, run17, run18, run19, run20, run21, run22, reduceCtorEq, Nat.reduceEqDiff, Nat.reduceAdd, Nat.reduceSub, Nat.reduceLeDiff, indexAddrA, indexRefA, appendA, strA, Nat.reduceMul, Nat.zero_mul, Nat.reduceMod, Int.reduceEq, Int.reduceLT, Int.reduceLE, Nat.reduceLT, Nat.lt_irrefl, Nat.reduceBEq, tys0, tys1, tys2, tys3, tys4, tys5, tys6, tys7, tys8, tys9, tys10, Try.ntmps11, Try.results11, e1, e2, Int.toNat_natCast, Int.natCast_nonneg]
    refine RunL.callp rfl rfl ok_f34 (isNimber_ok t ht) rfl rfl ?_
    simp only [run0, run1, run2, run3, run4, run5, run6, run7, run8, run9, run10, run11, run12, run13, run14, run15, run16, run17, run18, run19, run20, run21, run22, reduceCtorEq, Nat.reduceEqDiff, Nat.reduceAdd, Nat.reduceSub, Nat.reduceLeDiff, indexAddrA, indexRefA, appendA, strA, Nat.reduceMul, Nat.zero_mul, Nat.reduceMod, Int.reduceEq, Int.reduceLT, Int.reduceLE, Nat.reduceLT, Nat.lt_irrefl, Nat.reduceBEq, tys0, tys1, tys2, tys3, tys4, tys5, tys6, tys7, tys8, tys9, tys10, Try.ntmps11, Try.results11, e5, e6, hx]
    exact ⟨(n ^^^ t, d ++ [t], r), ⟨by rw [ha]; simp, Nat.xor_lt_two_pow hn ht, h4⟩, by simp, by simp only [List.length_append, List.length_cons, List.length_nil]; repeat constructor⟩

end Go.Proofs.Ytobdpkkmkbafbaa
