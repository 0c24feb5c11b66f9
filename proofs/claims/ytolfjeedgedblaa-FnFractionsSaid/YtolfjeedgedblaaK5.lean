/-
  A logic of values for Go's functions (part 5): all operations that only compute or read, and what each leads to.
-/
import Derived.Test.YtolfjeedgedblaaK4
import Derived.Laws.Build
namespace Go.Proofs.Ytolfjeedgedblaa.K
set_option linter.unusedVariables false
set_option linter.unusedSimpArgs false
open Go

def lenA (P : Program) (L : List AObj) (t : TypeId) (x : AV) : Option AV :=
  match x with
  | .str s => match P.underlying t with | some .string => some (.int .i64 s.size) | _ => none
  | .sl _ es => match P.underlying t with | some (.slice _) => some (.int .i64 es.length) | _ => none
  | .lit (.slice none 0 0) => match P.underlying t with | some (.slice _) => some (.int .i64 0) | _ => none
  | .ref id _ g n => match P.underlying t with | some (.slice _) => if eptrNow L id g then some (.int .i64 n) else none | _ => none
  | _ => none

theorem RefOk.form {γ : Nat → Gh} {L : List AObj} {id : Nat} {p : Pth} {g n : Nat} {v : Value} (hn : eptrNow L id g = true) (h : RefOk γ L id p g n v) :
    ∃ T sz es es', L[id]? = some (.vec T sz g es) ∧ sub es p = some es' ∧ n ≤ es'.length ∧
      ((v = .slice none 0 0 ∧ es' = [] ∧ n = 0 ∧ ∀ b c, γ b ≠ .ow id p c) ∨ ∃ b c, v = .slice (some ⟨b, 0, none⟩) n c ∧ γ b = .ow id p c) := by
  unfold eptrNow at hn
  split at hn
  case h_2 => cases hn
  rename_i T sz g' es hL
  have hg : g = g' := by simpa using hn
  subst hg
  rw [RefOk, hL] at h
  obtain ⟨es2, hs2, hl, hv⟩ := h.2 rfl
  refine ⟨T, sz, es, es2, hL, hs2, hl, ?_⟩
  rcases hv with ⟨rfl, rfl, hb⟩ | hv
  · exact .inl ⟨rfl, rfl, by simpa using hl, hb⟩
  · exact .inr hv

theorem lenA_run {P : Program} {γ : Nat → Gh} {L : List AObj} {w : World} {t ty : TypeId} {x z : AV} {u : Value} (hx : RV γ L x u) (h : lenA P L t x = some z) :
    ∃ r, (Builtin.len_ #[t] ty #[u]).run P w = .ok r w ∧ RV γ L z r := by
  unfold lenA at h
  split at h
  · cases hx
    split at h <;> cases h
    rename_i ht
    exact ⟨_, by simp [Builtin.len_, run_underlying ht, goInt], .int _ _⟩
  · rename_i own es
    split at h <;> cases h
    rename_i ht
    cases hx with
    | sl _ _ A n c sz vals hn hc hszs h2 h1 h3 =>
      subst hn
      exact ⟨_, by simp [Builtin.len_, run_underlying ht, goInt], .int _ _⟩
  · cases hx
    split at h <;> cases h
    rename_i ht
    exact ⟨_, by simp [Builtin.len_, run_underlying ht, goInt], .int _ _⟩
  · split at h
    case h_2 => cases h
    rename_i _ e ht
    split at h
    case isFalse => cases h
    rename_i hn
    cases h
    cases hx with
    | ref _ _ _ _ _ hok ho =>
      obtain ⟨T, sz, es, es', hL, hs, hl, hv⟩ := hok.form hn
      rcases hv with ⟨rfl, rfl, rfl, _⟩ | ⟨b, c, rfl, _⟩
      · exact ⟨_, by simp [Builtin.len_, run_underlying ht, goInt], .int _ _⟩
      · exact ⟨_, by simp [Builtin.len_, run_underlying ht, goInt], .int _ _⟩
  · cases h

def mmA (max : Bool) (x y : AV) : Option AV :=
  match x, y with
  | .int k a, .int k' b => if k = k' then some (.int k (if max then (if a < b then b else a) else (if b < a then b else a))) else none
  | _, _ => none

theorem maxA_run {P : Program} {γ : Nat → Gh} {L : List AObj} {w : World} {ts : Array TypeId} {t : TypeId} {x y z : AV} {u v : Value} (hx : RV γ L x u) (hy : RV γ L y v) (h : mmA true x y = some z) :
    ∃ r, (Builtin.max_ ts t #[u, v]).run P w = .ok r w ∧ RV γ L z r := by
  unfold mmA at h
  split at h
  case h_2 => cases h
  cases hx; cases hy
  split at h <;> cases h
  exact ⟨_, run_max_int2 w ts t _ _ _ _, .int _ _⟩

theorem minA_run {P : Program} {γ : Nat → Gh} {L : List AObj} {w : World} {ts : Array TypeId} {t : TypeId} {x y z : AV} {u v : Value} (hx : RV γ L x u) (hy : RV γ L y v) (h : mmA false x y = some z) :
    ∃ r, (Builtin.min_ ts t #[u, v]).run P w = .ok r w ∧ RV γ L z r := by
  unfold mmA at h
  split at h
  case h_2 => cases h
  cases hx; cases hy
  split at h <;> cases h
  exact ⟨_, run_min_int2 w ts t _ _ _ _, .int _ _⟩

/-- A type's zero value, as cells. -/
def zeroOf (P : Program) (t : TypeId) : Option Value := (P.info? t).bind (·.zero)

def absVs (v : Value) : AV :=
  match v with
  | .agg cs => .agg (cs.toList.map absV)
  | v => absV v

theorem RV.absVs {γ : Nat → Gh} {L : List AObj} {v : Value} (h : ∀ c ∈ v.cells, c.oneCell' = true) : RV γ L (absVs v) v := by
  unfold K.absVs
  split
  · rename_i cs
    refine .agg _ _ (by simp) (by simpa [Value.cells] using h) (fun i x hx => ?_)
    simp only [List.getElem?_map, Option.map_eq_some_iff] at hx
    obtain ⟨c, hc, rfl⟩ := hx
    have : cs.getD i undef = c := by
      have hlt := (List.getElem?_eq_some_iff.1 hc).1
      simp at hlt
      simp [Array.getD, hlt]
      simpa [hlt] using hc
    rw [this]
    exact .absV _
  · exact .absV _

/-- Parts laid into a record. -/
def fillA (place : Nat → Option (Nat × Nat)) (cells : List AV) : List (Nat × AV) → Option (List AV)
  | [] => some cells
  | (i, v) :: rest =>
    match place i with
    | none => none
    | some (off, size) =>
      if v.cells.length ≠ size ∨ off + size > cells.length then none
      else match v with
        | .junk => none
        | .tup _ => none
        | v => fillA place (cells.take off ++ v.cells ++ cells.drop (off + size)) rest

theorem fill_step (cs : Array Value) (off : Nat) : ∀ (vs : List Value) (k : Nat), off + k + vs.length ≤ cs.size →
    ((vs.zipIdx k).foldl (fun (cs : Array Value) (x : Value × Nat) => cs.setIfInBounds (off + x.2) x.1) cs).toList = cs.toList.take (off + k) ++ vs ++ cs.toList.drop (off + k + vs.length)
  | [], k, h => by simp
  | v :: vs, k, h => by
    simp only [List.zipIdx_cons, List.foldl_cons]
    have ih := fill_step (cs.setIfInBounds (off + k) v) off vs (k + 1) (by simp at h ⊢; omega)
    rw [ih]
    simp only [List.length_cons] at h
    have := list_seg_step cs.toList (off + k) v vs (by simp; omega)
    simp only [Array.toList_setIfInBounds, List.length_cons]
    rw [show off + (k + 1) = off + k + 1 by omega, show off + k + (vs.length + 1) = off + k + 1 + vs.length by omega]
    rw [show off + k + (vs.length + 1) = off + k + 1 + vs.length by omega] at this
    exact this

def CellsR (γ : Nat → Gh) (L : List AObj) (xs : List AV) (cs : Array Value) : Prop :=
  cs.size = xs.length ∧ ∀ (j : Nat) x, xs[j]? = some x → ∃ u, cs[j]? = some u ∧ u.oneCell' = true ∧ RV γ L x u

theorem CellsR.splice {γ : Nat → Gh} {L : List AObj} {xs ys : List AV} {cs vs : Array Value} {off size : Nat} (h : CellsR γ L xs cs) (k : CellsR γ L ys vs) (hs : ys.length = size) (hle : off + size ≤ xs.length) :
    CellsR γ L (xs.take off ++ ys ++ xs.drop (off + size)) (cs.toList.take off ++ vs.toList ++ cs.toList.drop (off + size)).toArray := by
  refine ⟨?_, ?_⟩
  · have := h.1; have := k.1
    simp only [List.size_toArray, List.length_append, List.length_take, List.length_drop, Array.length_toList]; omega
  · intro j x hx
    have h1 := h.1; have k1 := k.1
    simp only [List.append_assoc, List.getElem?_append, List.length_take] at hx
    simp only [List.getElem?_toArray, List.append_assoc, List.getElem?_append, List.length_take, Array.length_toList]
    have hm : min off xs.length = off := by omega
    have hm' : min off cs.size = off := by omega
    rw [hm] at hx; rw [hm']
    split at hx
    · rename_i hlt
      simp only [hlt, if_true, List.getElem?_take] at hx ⊢
      obtain ⟨u, hu, r⟩ := h.2 j x hx
      exact ⟨u, by simpa using hu, r⟩
    · rename_i hlt
      simp only [hlt, if_false]
      split at hx
      · rename_i hlt2
        rw [k1] 
        simp only [hlt2, if_true]
        obtain ⟨u, hu, r⟩ := k.2 _ x hx
        exact ⟨u, by simpa using hu, r⟩
      · rename_i hlt2
        rw [k1]
        simp only [hlt2, if_false, List.getElem?_drop] at hx ⊢
        obtain ⟨u, hu, r⟩ := h.2 _ x hx
        exact ⟨u, by simpa using hu, r⟩

theorem RV.cellsR {γ : Nat → Gh} {L : List AObj} {x : AV} {v : Value} (h : RV γ L x v) (hj : x ≠ .junk) (ht : ∀ vs, x ≠ .tup vs) : CellsR γ L x.cells v.cells := h.cells hj ht

theorem fillA_run {γ : Nat → Gh} {L : List AObj} {place : Nat → Option (Nat × Nat)} : ∀ (parts : List (Nat × AV)) (vparts : List (Nat × Value)) (xs zs : List AV) (cs : Array Value),
    CellsR γ L xs cs → parts.length = vparts.length → (∀ (i : Nat) p q, parts[i]? = some p → vparts[i]? = some q → p.1 = q.1 ∧ RV γ L p.2 q.2) →
    fillA place xs parts = some zs → ∃ cs', Instr.fill place cs vparts = some cs' ∧ CellsR γ L zs cs'
  | [], [], xs, zs, cs, h, _, _, hf => by simp [fillA] at hf; subst hf; exact ⟨cs, rfl, h⟩
  | (i, x) :: parts, (i', v) :: vparts, xs, zs, cs, h, hl, hp, hf => by
    obtain ⟨rfl, hv⟩ := hp 0 _ _ rfl rfl
    simp only [fillA] at hf
    simp only [Instr.fill]
    cases hpl : place i with
    | none => simp only [hpl] at hf; cases hf
    | some os =>
      obtain ⟨off, size⟩ := os
      simp only [hpl] at hf
      split at hf
      · cases hf
      rename_i hc
      simp only [not_or, Decidable.not_not, Nat.not_lt] at hc
      have key : ∀ {zs}, x ≠ .junk → (∀ vs, x ≠ .tup vs) → fillA place (xs.take off ++ x.cells ++ xs.drop (off + size)) parts = some zs →
          ∃ cs', (if (v.cells.size ≠ size || decide (off + v.cells.size > cs.size)) = true then none else Instr.fill place (v.cells.zipIdx.foldl (fun cs (x : Value × Nat) => cs.setIfInBounds (off + x.2) x.1) cs) vparts) = some cs' ∧ CellsR γ L zs cs' := by
        intro zs hj ht hf
        have hvc := hv.cellsR hj ht
        have h1 : v.cells.size = size := by rw [hvc.1]; exact hc.1
        have h2 : ¬ (off + v.cells.size > cs.size) := by rw [h.1]; omega
        have hst := fill_step cs off v.cells.toList 0 (by simp [h1, h.1]; omega)
        have hfold : v.cells.zipIdx.foldl (fun cs (x : Value × Nat) => cs.setIfInBounds (off + x.2) x.1) cs = (cs.toList.take off ++ v.cells.toList ++ cs.toList.drop (off + size)).toArray := by
          apply Array.toList_inj.1
          rw [← Array.foldl_toList, Array.toList_zipIdx]
          simpa [h1] using hst
        simp only [h1, ne_eq, not_true_eq_false, decide_false, Bool.false_or, decide_eq_true_eq]
        rw [if_neg (by omega), hfold]
        exact fillA_run parts vparts _ zs _ (h.splice hvc hc.1 (by omega)) (by simpa using hl) (fun j p q hp' hq' => hp (j + 1) p q (by simpa using hp') (by simpa using hq')) hf
      cases x with
      | junk => cases hf
      | tup vs => cases hf
      | _ => exact key (by intro h; cases h) (by intro vs h; cases h) hf
  | [], _ :: _, _, _, _, _, hl, _, _ => by simp at hl
  | _ :: _, [], _, _, _, _, hl, _, _ => by simp at hl

end Go.Proofs.Ytolfjeedgedblaa.K
