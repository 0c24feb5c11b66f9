/-
  A logic of values for Go's functions (part 8): stores; slices out of literals.
-/
import Derived.Test.YtolfjeedgedblaaK7
namespace Go.Proofs.Ytolfjeedgedblaa.K
set_option linter.unusedVariables false
set_option linter.unusedSimpArgs false
open Go Go.RowKit

theorem BlockRep.upd {γ : Nat → Gh} {L L' : List AObj} (E : Ext γ L γ L') {o : Obj} {id c : Nat} {p : Pth} (hid : L'[id]? = L[id]?)
    (h : BlockRep γ L o id p c) : BlockRep γ L' o id p c := by
  unfold BlockRep at *
  rw [hid]
  split at h
  · rename_i T cs hL
    obtain ⟨h1, arr, h2, h3, h4⟩ := h
    refine ⟨h1, arr, h2, h3, fun j x hx => ?_⟩
    obtain ⟨v, a1, a2, a3⟩ := h4 j x hx
    exact ⟨v, a1, a2, a3.mono E⟩
  · rename_i T sz g es hL
    obtain ⟨es', s, arr, T', h1, h2, h3, h4, h5, h6, h7⟩ := h
    refine ⟨es', s, arr, T', h1, h2, h3, h4, h5, h6, h7.1, fun i e j x he hx => ?_⟩
    obtain ⟨v, a1, a2, a3⟩ := h7.2 i e j x he hx
    exact ⟨v, a1, a2, a3.mono E (fun b c hb => hb) (fun b c hb => hb)⟩
  · exact h
  · exact h.elim

theorem Ext.set {γ : Nat → Gh} {L : List AObj} {id : Nat} {x x' : AObj} (hL : L[id]? = some x) (ho : OStep x x') : Ext γ L γ (L.set id x') := by
  have hlt := (List.getElem?_eq_some_iff.1 hL).1
  refine ⟨fun _ _ h => h, fun id' o' hL' => ?_, fun _ _ _ _ h => .inl h, fun _ _ _ _ _ _ _ _ _ _ _ _ _ _ _ h => h⟩
  by_cases h : id = id'
  · subst h
    rw [hL] at hL'; cases hL'
    exact ⟨x', by simp [hlt], ho⟩
  · exact ⟨o', by rw [List.getElem?_set_ne h]; exact hL', OStep.refl _⟩

/-- A block of the call's own is written. -/
theorem Inv.write {γ : Nat → Gh} {L : List AObj} {w w' : World} (h : Inv γ L w) {b id c : Nat} {p : Pth} {x x' : AObj} {o' : Obj} (hb : γ b = .ow id p c)
    (hL : L[id]? = some x) (ho : OStep x x') (hk : (∀ T cs, x' = .box T cs → ∃ T cs, x = .box T cs) ∧ (∀ kt vt es, x' = .map kt vt es → ∃ kt vt es, x = .map kt vt es))
    (hw : ∀ k, k ≠ b → w'.heap[k]? = w.heap[k]?) (hwb : w'.heap[b]? = some o') (hs : w.heap.size ≤ w'.heap.size) (hos : w'.os = w.os) (htape : w'.tape = w.tape) (hout : w'.output = w.output)
    (hrep : Ext γ L γ (L.set id x') → BlockRep γ (L.set id x') o' id p c)
    (hoth : Ext γ L γ (L.set id x') → ∀ b2 p2 c2 o2, b2 ≠ b → γ b2 = .ow id p2 c2 → BlockRep γ L o2 id p2 c2 → BlockRep γ (L.set id x') o2 id p2 c2) :
    Ext γ L γ (L.set id x') ∧ Inv γ (L.set id x') w' ∧ Stp γ w γ w' := by
  have E : Ext γ L γ (L.set id x') := .set hL ho
  refine ⟨E, ⟨fun b2 o2 hb2 => ?_, fun b2 id2 p2 c2 hb2 => ?_, h.inj, fun id2 T cs hL2 => ?_, fun id2 kt vt es hL2 => ?_⟩, hos, htape, hout, hs, fun _ _ h => h, fun b2 hb2 ho2 => ⟨ho2, ?_⟩⟩
  · have hne : b2 ≠ b := by rintro rfl; rw [hb] at hb2; cases hb2
    rw [hw b2 hne]; exact h.ro _ _ hb2
  · by_cases hne : b2 = b
    · subst hne
      rw [hb] at hb2; cases hb2
      exact ⟨o', hwb, hrep E⟩
    · obtain ⟨o2, ho2, hr2⟩ := h.ow _ _ _ _ hb2
      refine ⟨o2, by rw [hw b2 hne]; exact ho2, ?_⟩
      by_cases hid : id2 = id
      · subst hid; exact hoth E b2 p2 c2 o2 hne hb2 hr2
      · exact hr2.upd E (List.getElem?_set_ne (fun e => hid e.symm))
  · by_cases hid : id = id2
    · subst hid
      have hlt := (List.getElem?_eq_some_iff.1 hL).1
      simp [hlt] at hL2
      obtain ⟨T', cs', rfl⟩ := hk.1 T cs hL2
      exact h.box _ _ _ hL
    · rw [List.getElem?_set_ne hid] at hL2; exact h.box _ _ _ hL2
  · by_cases hid : id = id2
    · subst hid
      have hlt := (List.getElem?_eq_some_iff.1 hL).1
      simp [hlt] at hL2
      obtain ⟨_, _, _, rfl⟩ := hk.2 _ _ _ hL2
      exact h.map _ _ _ _ hL
    · rw [List.getElem?_set_ne hid] at hL2; exact h.map _ _ _ _ hL2
  · have hne : b2 ≠ b := by rintro rfl; rw [hb] at ho2; cases ho2
    exact hw b2 hne

/-- The state behind a store into a variable. -/
def storeA (P : Program) (s : St) (t : TypeId) (p x : AV) : Option St :=
  match p with
  | .ptr id off =>
    match s.L[id]? with
    | some (.box T cs) =>
      if (P.info? t).isSome ∧ x.cells.length = P.cellsOf t ∧ off + P.cellsOf t ≤ cs.length then
        match x with
        | .junk => none
        | .tup _ => none
        | x => some { s with L := s.L.set id (.box T (cs.take off ++ x.cells ++ cs.drop (off + P.cellsOf t))) }
      else none
    | _ => none
  | _ => none

theorem store_sound {P : Program} {o : Oper} {s s' : St} {t : TypeId} {p x : Operand} (ho : o.op = .store t p x) (hd : o.dst = none) (h : storeA P s t (s.ev p) (s.ev x) = some s') : OpS P o s s' := by
  intro γ a w K Q hr hK
  unfold storeA at h
  split at h
  case h_2 => cases h
  rename_i id off hp
  split at h
  case h_2 => cases h
  rename_i T cs hL
  split at h
  case isFalse => cases h
  rename_i hc
  obtain ⟨hi, hlen, hle⟩ := hc
  have key : s.ev x ≠ .junk → (∀ vs, s.ev x ≠ .tup vs) → s' = { s with L := s.L.set id (.box T (cs.take off ++ (s.ev x).cells ++ cs.drop (off + P.cellsOf t))) } → o.wp P a w K Q := by
    intro hj ht hs'
    subst hs'
    have hpv := hr.ev p
    rw [hp] at hpv
    generalize hpe : a.eval p = pv at hpv
    cases hpv with
    | ptr _ _ b c T' cs' hL' hb =>
      rw [hL] at hL'; cases hL'
      have hcr := (hr.ev x).cellsR hj ht
      obtain ⟨arr, harr, hasz, hcell⟩ := hr.inv.boxCell hL hb
      have hbox : CellsR γ s.L cs arr := ⟨hasz, fun j y hy => by
        obtain ⟨u, h1, _, h3, h4⟩ := hcell j y hy
        exact ⟨u, h1, h3, h4⟩⟩
      have hone : ∀ v ∈ (a.eval x).cells.toList, v.oneCell' = true := by
        intro v hv
        obtain ⟨j, hj', rfl⟩ := List.getElem_of_mem hv
        have hj2 : j < (a.eval x).cells.size := by simpa using hj'
        obtain ⟨u, hu, h1, _⟩ := hcr.2 j ((s.ev x).cells[j]'(by have := hcr.1; omega)) (by simp)
        rw [Array.getElem?_eq_getElem hj2] at hu
        cases hu
        simpa using h1
      have hst := run_storeCells_at P b off T (a.eval x).cells.toList 0 arr w harr (by simp; rw [hcr.1, hlen, hasz]; omega) hone
      simp only [Nat.add_zero] at hst
      have hsz2 : (a.eval x).cells.size = P.cellsOf t := by rw [hcr.1, hlen]
      have hrun : (Instr.storeAt t (.pointer (some ⟨b, off, none⟩)) (a.eval x)).run P w = .ok () (w.setRow b (arr.toList.take off ++ (a.eval x).cells.toList ++ arr.toList.drop (off + P.cellsOf t)).toArray) := by
        simp only [Instr.storeAt, Instr.sureAddr, Sem.run_bind, Sem.run_pure, Result.andThen_ok, storeVar, run_sizeOf w hi, hsz2, ne_eq, not_true_eq_false, if_false]
        rw [hst]
        simp [hsz2]
      have hspl := hbox.splice hcr hlen (by omega)
      have hW := hr.inv.write (x' := AObj.box T (cs.take off ++ (s.ev x).cells ++ cs.drop (off + P.cellsOf t))) (w' := w.setRow b (arr.toList.take off ++ (a.eval x).cells.toList ++ arr.toList.drop (off + P.cellsOf t)).toArray)
        (o' := .cells (arr.toList.take off ++ (a.eval x).cells.toList ++ arr.toList.drop (off + P.cellsOf t)).toArray T (0, 0)) hb hL
        ⟨rfl, by simp [List.length_take, List.length_drop, hlen]; omega⟩ ⟨fun _ _ _ => ⟨_, _, rfl⟩, fun _ _ _ h => by cases h⟩
        (fun k hk => setRow_other w b k _ hk) (setRow_heap w b arr _ T (0, 0) harr) (by simp [World.setRow]) rfl rfl rfl
        (fun E => by
          have hlt := (List.getElem?_eq_some_iff.1 hL).1
          unfold BlockRep
          simp only [List.getElem?_set_self hlt]
          refine ⟨trivial, _, rfl, hspl.1, fun j y hy => ?_⟩
          obtain ⟨u, h1, h2, h3⟩ := hspl.2 j y hy
          exact ⟨u, h1, h2, h3.mono E⟩)
        (fun E b2 p2 c2 o2 hne hb2 hr2 => by
          exfalso
          unfold BlockRep at hr2
          simp only [hL] at hr2
          obtain ⟨rfl, _⟩ := hr2
          exact hne (hr.inv.inj _ _ _ _ _ _ hb2 hb))
      obtain ⟨E, hI, hS⟩ := hW
      unfold Oper.wp execOp
      rw [ho]
      simp only [Sem.run_bind, hpe, hrun, Result.andThen_ok, Sem.run_pure]
      have := hK _ _ _ (hr.mono E hI) E hS
      show K (a.put o.dst undef) _
      rw [hd]
      exact this
  split at h
  · cases h
  · cases h
  · rename_i h1 h2
    cases h
    exact key h1 h2 rfl

/-- A literal slice that is only read from then on. -/
def litRo (P : Program) (t : TypeId) (n : Nat) (parts : List (Nat × AV)) : Option AV :=
  match P.underlying t with
  | some (.slice e) =>
    if (P.info? e).isSome ∧ parts.map (·.1) = List.range n ∧ (∀ p ∈ parts, p.2.cells.length = P.cellsOf e) ∧ n * P.cellsOf e ≤ 2 ^ 24 ∧ (zeroOf P e).isSome then
      some (.sl false (parts.map (·.2)))
    else none
  | _ => none

end Go.Proofs.Ytolfjeedgedblaa.K
