/-
  A logic of values for Go's functions (part 20): the end of a call that gives rows of its own and forgets all else that it owned.
-/
import Derived.Test.YtolfjeedgedblaaK19
namespace Go.Proofs.Ytolfjeedgedblaa.K
set_option linter.unusedVariables false
set_option linter.unusedSimpArgs false
open Go

mutual
/-- Values that lead to rows of the call's own at most. -/
def okT : AV → Bool
  | .sl _ [] => true
  | .sl _ (_ :: _) => false
  | .rptr _ _ => false
  | .ptr _ _ => false
  | .eptr _ _ _ _ _ => false
  | .map _ => false
  | .agg cs => okTL cs
  | .tup vs => okTL vs
  | .fn _ cap => okTL cap
  | _ => true
def okTL : List AV → Bool
  | [] => true
  | x :: xs => okT x && okTL xs
end
theorem okTL_mem {xs : List AV} : okTL xs = true ↔ ∀ x ∈ xs, okT x = true := by
  induction xs with
  | nil => simp [okTL]
  | cons x xs ih => simp [okTL, ih]
mutual
theorem okT_okS : ∀ {x : AV}, okT x = true → okS x = true
  | .sl _ [], _ => rfl
  | .sl _ (_ :: _), h => by simp [okT] at h
  | .rptr _ _, h => by simp [okT] at h
  | .ptr _ _, _ => rfl
  | .eptr _ _ _ _ _, _ => rfl
  | .map _, _ => rfl
  | .agg cs, h => by simp only [okT] at h; simp only [okS]; exact okTL_okSL h
  | .tup cs, h => by simp only [okT] at h; simp only [okS]; exact okTL_okSL h
  | .fn _ cs, h => by simp only [okT] at h; simp only [okS]; exact okTL_okSL h
  | .int _ _, _ => rfl
  | .bool _, _ => rfl
  | .str _, _ => rfl
  | .ref _ _ _ _, _ => rfl
  | .lit _, _ => rfl
  | .junk, _ => rfl
theorem okTL_okSL : ∀ {xs : List AV}, okTL xs = true → okSL xs = true
  | [], _ => rfl
  | x :: xs, h => by
    simp only [okTL, Bool.and_eq_true] at h
    simp only [okSL, Bool.and_eq_true]
    exact ⟨okT_okS h.1, okTL_okSL h.2⟩
end
theorem okT_cells {x c : AV} (h : okT x = true) (hc : c ∈ x.cells) : okT c = true := by
  cases x <;> first
    | (simp only [AV.cells, List.mem_singleton] at hc; subst hc; exact h)
    | (simp only [AV.cells] at hc; simp only [okT] at h; exact okTL_mem.1 h c hc)

/-- Rows whose cells lead to rows at most. -/
def okTO : AObj → Bool
  | .vec _ _ _ es => okTL es && noOwn es
  | _ => false

/-- Only the rows 'S' are kept. -/
def keepS (S : List Nat) (L : List AObj) : List AObj := L.mapIdx fun i o => if S.contains i && okTO o then o else .dead

theorem keepS_get (S : List Nat) (L : List AObj) (i : Nat) : (keepS S L)[i]? = (L[i]?).map fun o => if S.contains i && okTO o then o else .dead := by
  simp [keepS, List.getElem?_mapIdx]

theorem keepS_in {S : List Nat} {L : List AObj} {i : Nat} {o : AObj} (hi : i ∈ S) (ho : okTO o = true) (hL : L[i]? = some o) : (keepS S L)[i]? = some o := by
  have : S.contains i = true := by simpa using hi
  rw [keepS_get, hL, Option.map_some, if_pos (by rw [this, ho]; rfl)]

theorem keepS_of {S : List Nat} {L : List AObj} {i : Nat} {o : AObj} (h : (keepS S L)[i]? = some o) : o = .dead ∧ (∃ o', L[i]? = some o') ∨ (L[i]? = some o ∧ okTO o = true ∧ S.contains i = true) := by
  rw [keepS_get, Option.map_eq_some_iff] at h
  obtain ⟨o', h1, h2⟩ := h
  split at h2
  · rename_i hc
    simp only [Bool.and_eq_true] at hc
    subst h2
    exact .inr ⟨h1, hc.2, hc.1⟩
  · exact .inl ⟨h2.symm, o', h1⟩

theorem keepS_okSO (S : List Nat) (L : List AObj) : (keepS S L).all okSO = true := by
  refine List.all_eq_true.2 fun o ho => ?_
  obtain ⟨i, hi, rfl⟩ := List.getElem_of_mem ho
  rcases keepS_of (List.getElem?_eq_getElem hi) with ⟨h, _⟩ | ⟨_, h, _⟩
  · rw [h]; rfl
  · generalize (keepS S L)[i] = o at h
    cases o <;> simp [okTO] at h
    simp only [okSO]; exact okTL_okSL h.1

def keepG (S : List Nat) (L : List AObj) (γ : Nat → Gh) : Nat → Gh := fun b =>
  match γ b with
  | .ow id p c => match L[id]? with | some o => if S.contains id && okTO o then .ow id p c else .out | none => .out
  | x => x

theorem keepG_ow {S : List Nat} {L : List AObj} {γ : Nat → Gh} {b id c : Nat} {p : Pth} (h : keepG S L γ b = .ow id p c) : γ b = .ow id p c ∧ ∃ o, L[id]? = some o ∧ okTO o = true ∧ (keepS S L)[id]? = some o := by
  unfold keepG at h
  split at h
  · rename_i id' p' c' hb
    split at h
    · rename_i o hL
      split at h
      · rename_i hc
        cases h
        simp only [Bool.and_eq_true] at hc
        exact ⟨hb, o, hL, hc.2, keepS_in (by simpa using hc.1) hc.2 hL⟩
      · cases h
    · cases h
  · rename_i hne
    exact absurd h (hne _ _ _)

theorem keepG_up {S : List Nat} {L : List AObj} {γ : Nat → Gh} {b id c : Nat} {p : Pth} {o : AObj} (hb : γ b = .ow id p c) (h : (keepS S L)[id]? = some o) (hd : o ≠ .dead) : keepG S L γ b = .ow id p c := by
  rcases keepS_of h with ⟨h1, _⟩ | ⟨h1, h2, h3⟩
  · exact absurd h1 hd
  · simp only [keepG, hb, h1]; rw [if_pos (by rw [h3, h2]; rfl)]

theorem keep_rv {S : List Nat} {L : List AObj} {γ : Nat → Gh} {x : AV} {v : Value} (h : RV γ L x v) : okT x = true → RV (keepG S L γ) (keepS S L) x v := by
  induction h with
  | int k n => intro _; exact .int k n
  | bool b => intro _; exact .bool b
  | str s => intro _; exact .str s
  | lit v h => intro _; exact .lit v h
  | sl own es A n c sz vals hn hc hsz h2 h1 h3 ih =>
    intro hok
    cases es with
    | nil => exact .sl own [] A n c sz vals hn hc hsz (by simp) (by simp) (by simp)
    | cons e es => simp [okT] at hok
  | agg cs vs hn h1 h ih => intro hok; exact .agg cs vs hn h1 fun i x hx => ih i x hx (okTL_mem.1 (by simpa [okT] using hok) x (List.mem_of_getElem? hx))
  | tup cs vs hn h ih => intro hok; exact .tup cs vs hn fun i x hx => ih i x hx (okTL_mem.1 (by simpa [okT] using hok) x (List.mem_of_getElem? hx))
  | ref id p g n v h h1 =>
    intro _
    refine .ref _ _ _ _ _ ?_ h1
    unfold RefOk at *
    split at h
    · rename_i T sz g' es hL
      by_cases hk : (S.contains id && okTO (.vec T sz g' es)) = true
      · have hkeep : (keepS S L)[id]? = some (.vec T sz g' es) := by rw [keepS_get, hL, Option.map_some, if_pos hk]
        rw [hkeep]
        refine ⟨h.1, fun hg => ?_⟩
        obtain ⟨es', k1, k2, k3⟩ := h.2 hg
        refine ⟨es', k1, k2, ?_⟩
        rcases k3 with ⟨k3, k4, k5⟩ | ⟨b, c, k3, k4⟩
        · exact .inl ⟨k3, k4, fun b c hb => k5 b c (keepG_ow hb).1⟩
        · exact .inr ⟨b, c, k3, keepG_up k4 hkeep (by simp)⟩
      · have hkeep : (keepS S L)[id]? = some .dead := by rw [keepS_get, hL, Option.map_some, if_neg hk]
        rw [hkeep]; trivial
    · rename_i o hne hL
      cases hk : (keepS S L)[id]? with
      | none => rw [keepS_get, hL] at hk; cases hk
      | some o' =>
        rcases keepS_of hk with ⟨h1, _⟩ | ⟨h1, _⟩
        · subst h1; trivial
        · rw [hL] at h1; cases h1
          cases o <;> first | trivial | exact absurd rfl (hne _ _ _ _)
    · exact h.elim
  | ptr id off b c T cs hL h => intro hok; simp [okT] at hok
  | eptr id p g i off v h h1 => intro hok; simp [okT] at hok
  | rptr x off b o vals h2 h1 h3 ih => intro hok; simp [okT] at hok
  | fn f cs vs hn h ih => intro hok; exact .fn f cs vs hn fun i x hx => ih i x hx (okTL_mem.1 (by simpa [okT] using hok) x (List.mem_of_getElem? hx))
  | map id b c kt vt es hL h => intro hok; simp [okT] at hok
  | junk v => intro _; exact .junk v

/-- The end of a call that gives rows of its own. -/
theorem Fin.keep {L1 : List AObj} {r1 r : AV} (S : List Nat) (hr : okT r1 = true) (h : r1 = r) : K.Fin [] L1 r1 (keepS S L1) r := by
  subst h
  intro γ0 w0 γ w v hI0 hI hv hE hS
  refine ⟨keepG S L1 γ, ⟨fun b o hb => ?_, fun b id p c hb => ?_, fun b b' id p c c' hb hb' => hI.inj _ _ _ _ _ _ (keepG_ow hb).1 (keepG_ow hb').1, fun id T cs hL => ?_, fun id kt vt es hL => ?_⟩, keep_rv hv hr,
    ⟨fun b o hb => ?_, fun id o hL => by simp at hL, fun b id p c hb => ?_, fun id T sz g es T' sz' es' hL => by simp at hL⟩,
    hS.os, hS.tape, hS.output, hS.size, fun b o hb => ?_, fun b hb ho => ?_⟩
  · unfold keepG at hb
    split at hb
    · split at hb
      · split at hb <;> cases hb
      · cases hb
    · exact hI.ro b o hb
  · obtain ⟨hb0, o, hL, hok, hk⟩ := keepG_ow hb
    obtain ⟨o', ho', hrep⟩ := hI.ow _ _ _ _ hb0
    refine ⟨o', ho', ?_⟩
    unfold BlockRep at hrep ⊢
    rw [hL] at hrep
    rw [hk]
    cases o <;> simp [okTO] at hok
    rename_i T sz g es
    obtain ⟨es', s, arr, T', k1, k2, k3, k4, k5, k6, k7⟩ := hrep
    obtain ⟨rfl, rfl⟩ := noOwn_sub hok.2 k1
    refine ⟨es', s, arr, T', k1, k2, k3, k4, k5, k6, k7.1, fun i e j x he hx => ?_⟩
    obtain ⟨u, m1, m2, m3⟩ := k7.2 i e j x he hx
    exact ⟨u, m1, m2, (noOwn_CV hok.2 he hx).2 (keep_rv ((noOwn_CV hok.2 he hx).1 m3) (okT_cells (okTL_mem.1 hok.1 e (List.mem_of_getElem? he)) (List.mem_of_getElem? hx)))⟩
  · rcases keepS_of hL with ⟨h, _⟩ | ⟨_, h, _⟩
    · cases h
    · simp [okTO] at h
  · rcases keepS_of hL with ⟨h, _⟩ | ⟨_, h, _⟩
    · cases h
    · simp [okTO] at h
  · have := hE.ro b o hb
    simp [keepG, this]
  · have := hI0.idlt hb; simp at this
  · have := hS.ro b o hb
    simp [keepG, this]
  · have := hS.out b hb ho
    exact ⟨by simp [keepG, this.1], this.2⟩

def nilV : AV := .lit (.slice none 0 0)

end Go.Proofs.Ytolfjeedgedblaa.K
