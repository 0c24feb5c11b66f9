/-
  A logic of values for Go's functions (part 10a): literal slices; appending to a row of the call's own.
-/
import Derived.Test.YtolfjeedgedblaaK10
namespace Go.Proofs.Ytolfjeedgedblaa.K
set_option linter.unusedVariables false
set_option linter.unusedSimpArgs false
open Go Go.RowKit

/-- No element of these has a row of its own. -/
def noOwn (es : List AV) : Bool := es.all fun e => e.cells.all fun c => match c with | .sl true _ => false | _ => true

def noOwn1 (e : AV) : Bool := e.cells.all fun c => match c with | .sl true _ => false | _ => true
theorem noOwn_nil : noOwn [] = true := rfl
theorem noOwn_cons (e : AV) (l : List AV) : noOwn (e :: l) = (noOwn1 e && noOwn l) := rfl

theorem noOwn_sub {es : List AV} (h : noOwn es = true) {p : Pth} {es' : List AV} (hs : sub es p = some es') : p = [] ∧ es' = es := by
  cases p with
  | nil => simp [sub] at hs; exact ⟨rfl, hs.symm⟩
  | cons q p =>
    obtain ⟨i, j⟩ := q
    simp only [sub] at hs
    split at hs
    · rename_i e he
      split at hs
      · rename_i hc
        have := List.all_eq_true.1 (List.all_eq_true.1 h e (List.mem_of_getElem? he)) _ (List.mem_of_getElem? hc)
        simp at this
      · cases hs
    · cases hs

theorem noOwn_CV {es : List AV} (h : noOwn es = true) {i j : Nat} {e c : AV} (he : es[i]? = some e) (hc : e.cells[j]? = some c) {γ : Nat → Gh} {L : List AObj} {id : Nat} {q : Pth} {v : Value} : CV γ L id q c v ↔ RV γ L c v := by
  have := List.all_eq_true.1 (List.all_eq_true.1 h e (List.mem_of_getElem? he)) _ (List.mem_of_getElem? hc)
  unfold CV
  split
  · simp at this
  · exact Iff.rfl

theorem BlockRep.keep {γ γ' : Nat → Gh} {L L' : List AObj} (E : Ext γ L γ' L') {o : Obj} {id c : Nat} {p : Pth} (hid : L'[id]? = L[id]?)
    (hlab : ∀ b p c, γ b = .ow id p c → γ' b = .ow id p c) (hnil : ∀ b p c, γ' b = .ow id p c → γ b = .ow id p c)
    (h : BlockRep γ L o id p c) : BlockRep γ' L' o id p c := by
  unfold BlockRep at *
  rw [hid]
  split at h
  · rename_i T cs hL
    obtain ⟨h1, arr, h2, h3, h4⟩ := h
    refine ⟨h1, arr, h2, h3, fun j x hx => ?_⟩
    obtain ⟨v, a1, a2, a3⟩ := h4 j x hx
    exact ⟨v, a1, a2, a3.mono E⟩
  · rename_i T sz g es hL
    obtain ⟨es', s, arr, T', h1, h2, h3, h4, h5, h6, h7⟩ := h
    refine ⟨es', s, arr, T', h1, h2, h3, h4, h5, h6, h7.1, fun i e j x he hx => ?_⟩
    obtain ⟨v, a1, a2, a3⟩ := h7.2 i e j x he hx
    exact ⟨v, a1, a2, a3.mono E (fun b c hb => hlab b _ c hb) (fun b c hb => hnil b _ c hb)⟩
  · exact h
  · exact h.elim

/-- The blocks when the row 'id' is laid into the block 'b''. -/
def reG (γ : Nat → Gh) (id b' c' : Nat) : Nat → Gh := fun k =>
  if k = b' then .ow id [] c' else match γ k with | .ow id' p c => if id' = id then .out else .ow id' p c | x => x

/-- A row of the call's own gets new elements, in its old block or in a new one. -/
theorem Inv.regen {γ : Nat → Gh} {L : List AObj} {w w' : World} (h : Inv γ L w) {id b' c' g sz : Nat} {T : TypeId} {es es2 : List AV} {cur' : Array Value} (hL : L[id]? = some (.vec T sz g es))
    (hw : ∀ k, k < w.heap.size → (∀ p c, γ k ≠ .ow id p c) → w'.heap[k]? = w.heap[k]?) (hs : w.heap.size ≤ w'.heap.size) (hos : w'.os = w.os) (htape : w'.tape = w.tape) (hout : w'.output = w.output)
    (hb' : w'.heap[b']? = some (.cells cur' T (0, 0))) (hbb : (∃ c, γ b' = .ow id [] c) ∨ w.heap.size ≤ b') (hsz : cur'.size = c' * sz) (hle : es2.length ≤ c') (hm : c' ≤ maxLen)
    (hrow : Ext γ L (reG γ id b' c') (L.set id (.vec T sz (g + 1) es2)) → RowRep (reG γ id b' c') (L.set id (.vec T sz (g + 1) es2)) id [] sz es2 cur') :
    Ext γ L (reG γ id b' c') (L.set id (.vec T sz (g + 1) es2)) ∧ Inv (reG γ id b' c') (L.set id (.vec T sz (g + 1) es2)) w' ∧ Stp γ w (reG γ id b' c') w' := by
  have hlt := (List.getElem?_eq_some_iff.1 hL).1
  have ltb : ∀ {b}, γ b ≠ .out → b < w.heap.size := fun hb => Nat.lt_of_not_le fun hle => hb (h.out hle)
  have hbG : ∀ {id' p c}, γ b' = .ow id' p c → id' = id := by
    intro id' p c hb
    rcases hbb with ⟨c2, hb2⟩ | hb2
    · rw [hb] at hb2; cases hb2; rfl
    · rw [h.out hb2] at hb; cases hb
  have hro : ∀ b o, γ b = .ro o → b ≠ b' := by
    rintro b o hb rfl
    rcases hbb with ⟨c2, hb2⟩ | hb2
    · rw [hb] at hb2; cases hb2
    · rw [h.out hb2] at hb; cases hb
  have up : ∀ {b id' p c}, γ b = .ow id' p c → id' ≠ id → reG γ id b' c' b = .ow id' p c := by
    intro b id' p c hb hne
    have : b ≠ b' := by rintro rfl; exact hne (hbG hb)
    simp [reG, this, hb, hne]
  have down : ∀ {b id' p c}, reG γ id b' c' b = .ow id' p c → (b = b' ∧ id' = id ∧ p = [] ∧ c = c') ∨ (b ≠ b' ∧ id' ≠ id ∧ γ b = .ow id' p c) := by
    intro b id' p c hb
    by_cases hne1 : b = b'
    · simp only [reG, hne1, if_true] at hb
      cases hb; exact .inl ⟨hne1, rfl, rfl, rfl⟩
    · simp only [reG, hne1, if_false] at hb
      cases hg : γ b with
      | out => simp [hg] at hb
      | ro o => simp [hg] at hb
      | ow i2 p2 c2 =>
        simp only [hg] at hb
        by_cases hne : i2 = id
        · simp [hne] at hb
        · simp only [hne, if_false] at hb
          cases hb
          exact .inr ⟨hne1, hne, rfl⟩
  have roU : ∀ {b o}, γ b = .ro o → reG γ id b' c' b = .ro o := by
    intro b o hb
    simp [reG, hro b o hb, hb]
  have roD : ∀ {b o}, reG γ id b' c' b = .ro o → γ b = .ro o := by
    intro b o hb
    unfold reG at hb
    split at hb
    · cases hb
    · split at hb
      · split at hb <;> cases hb
      · exact hb
  have E : Ext γ L (reG γ id b' c') (L.set id (.vec T sz (g + 1) es2)) := by
    refine ⟨fun b o hb => roU hb, fun id1 o hL1 => ?_, fun b id1 p c hb => ?_, fun id1 T1 sz1 g1 es1 T1' sz1' es1' hL1 hL2 p e1 _ b c hb => ?_⟩
    · by_cases hid : id = id1
      · subst hid
        rw [hL] at hL1; cases hL1
        exact ⟨.vec T sz (g + 1) es2, by simp [hlt], rfl, rfl, .inl (by omega)⟩
      · exact ⟨o, by rw [List.getElem?_set_ne hid]; exact hL1, OStep.refl o⟩
    · by_cases hid : id1 = id
      · subst hid
        refine .inr fun o ho => ?_
        rw [hL] at ho; cases ho
        refine ⟨_, _, _, _, rfl, fun T' sz' es' he => ?_⟩
        simp [hlt] at he
      · exact .inl (up hb hid)
    · rcases down hb with ⟨_, rfl, _, _⟩ | ⟨_, _, hg⟩
      · rw [hL] at hL1; cases hL1
        simp [hlt] at hL2
      · exact hg
  refine ⟨E, ⟨fun b o hb => ?_, fun b id1 p c hb => ?_, fun b b2 id1 p c c2 hb hb2 => ?_, fun id1 T1 cs hL1 => ?_, fun id1 kt vt es1 hL1 => ?_⟩, hos, htape, hout, hs, fun b o hb => roU hb, fun b hb ho => ?_⟩
  · have h1 := roD hb
    rw [hw b (ltb (by rw [h1]; simp)) (fun p c he => by rw [h1] at he; cases he)]
    exact h.ro b o h1
  · rcases down hb with ⟨rfl, rfl, rfl, rfl⟩ | ⟨hne, hid, hg⟩
    · refine ⟨_, hb', ?_⟩
      unfold BlockRep
      simp only [List.getElem?_set_self hlt]
      exact ⟨es2, sz, cur', T, rfl, rfl, fun _ => ⟨rfl, rfl⟩, hsz, hle, hm, hrow E⟩
    · obtain ⟨o, ho, hr⟩ := h.ow _ _ _ _ hg
      refine ⟨o, ?_, hr.keep E (List.getElem?_set_ne (fun e => hid e.symm)) (fun b p c hb => up hb hid) (fun b p c hb => ?_)⟩
      · rw [hw b (ltb (by rw [hg]; simp)) (fun p c he => by rw [hg] at he; cases he; exact hid rfl)]; exact ho
      · rcases down hb with ⟨_, h2, _, _⟩ | ⟨_, _, hg2⟩
        · exact absurd h2 hid
        · exact hg2
  · rcases down hb with ⟨h1, h2, h3, h4⟩ | ⟨h1, h2, h3⟩ <;> rcases down hb2 with ⟨k1, k2, k3, k4⟩ | ⟨k1, k2, k3⟩
    · omega
    · exact absurd h2 k2
    · exact absurd k2 h2
    · exact h.inj _ _ _ _ _ _ h3 k3
  · by_cases hid : id = id1
    · subst hid; simp [hlt] at hL1
    · rw [List.getElem?_set_ne hid] at hL1
      obtain ⟨b, c, hb⟩ := h.box _ _ _ hL1
      exact ⟨b, c, up hb (fun e => hid e.symm)⟩
  · by_cases hid : id = id1
    · subst hid; simp [hlt] at hL1
    · rw [List.getElem?_set_ne hid] at hL1
      obtain ⟨b, c, hb⟩ := h.map _ _ _ _ hL1
      exact ⟨b, c, up hb (fun e => hid e.symm)⟩
  · have hne : b ≠ b' := by
      rintro rfl
      rcases hbb with ⟨c2, hb2⟩ | hb2
      · rw [ho] at hb2; cases hb2
      · omega
    refine ⟨by simp [reG, hne, ho], hw b hb (fun p c he => by rw [ho] at he; cases he)⟩

/-! ### literal slices -/
theorem mapM_some {α β : Type} {f : α → Option β} : ∀ {l : List α} {r : List β}, l.mapM f = some r → r.length = l.length ∧ ∀ (i : Nat) x, l[i]? = some x → ∃ y, r[i]? = some y ∧ f x = some y
  | [], r, h => by simp at h; subst h; exact ⟨rfl, fun i x hx => by simp at hx⟩
  | a :: l, r, h => by
    simp only [List.mapM_cons, Option.bind_eq_bind, Option.bind_eq_some_iff, Option.pure_def, Option.some.injEq] at h
    obtain ⟨y, hy, ys, hys, rfl⟩ := h
    obtain ⟨h1, h2⟩ := mapM_some hys
    refine ⟨by simp [h1], fun i x hx => ?_⟩
    cases i with
    | zero => simp at hx; subst hx; exact ⟨y, rfl, hy⟩
    | succ i => simpa using h2 i x (by simpa using hx)


def upTo : Nat → Nat → List Nat
  | 0, _ => []
  | n + 1, k => k :: upTo n (k + 1)
theorem upTo_eq : ∀ (n k : Nat), upTo n k = List.range' k n
  | 0, k => rfl
  | n + 1, k => by simp [upTo, upTo_eq n (k + 1), List.range'_succ]

/-- An element out of a row's cells. -/
def elemA (ag : Bool) (sz : Nat) (cs : List AV) (off : Nat) : Option AV :=
  match ag with
  | true => if off + sz ≤ cs.length then some (.agg ((cs.drop off).take sz)) else none
  | false =>
    match cs[off]? with
    | some (.agg _) => none
    | some c => if sz = 1 then some c else none
    | none => none

theorem elemA_spec {ag : Bool} {sz off : Nat} {cs : List AV} {x : AV} (h : elemA ag sz cs off = some x) : x.cells.length = sz ∧ ∀ (j : Nat) y, x.cells[j]? = some y → cs[off + j]? = some y := by
  unfold elemA at h
  split at h
  · split at h
    · cases h
      refine ⟨by simp [AV.cells]; omega, fun j y hy => ?_⟩
      simp only [AV.cells] at hy
      rw [List.getElem?_take] at hy
      split at hy
      · rw [List.getElem?_drop] at hy; exact hy
      · cases hy
    · cases h
  · split at h
    · cases h
    · rename_i c hne hc
      split at h
      · cases h
        subst_vars
        have hcc : x.cells = [x] := by
          cases x <;> first | rfl | exact absurd rfl (hne _)
        refine ⟨by rw [hcc]; rfl, fun j y hy => ?_⟩
        rw [hcc] at hy
        cases j with
        | zero => simp at hy; subst hy; simpa using hc
        | succ j => simp at hy
      · cases h
    · cases h

def litA (P : Program) (t : TypeId) (n : Nat) (parts : List (Nat × AV)) : Option AV :=
  match P.underlying t with
  | some (.slice e) =>
    match zeroOf P e with
    | some z =>
      if (P.info? e).isSome ∧ n * P.cellsOf e ≤ 16777216 ∧ n * P.cellsOf e ≠ 0 ∧ n ≤ 16777216 ∧ z.cells.size = P.cellsOf e ∧ z.cells.all (·.oneCell') = true then
        match fillA (fun i => some (i * P.cellsOf e, P.cellsOf e)) ((upTo (n * P.cellsOf e) 0).map fun q => absV z.cells[q % z.cells.size]!) parts with
        | some zs => ((upTo n 0).mapM fun i => elemA (aggT P e) (P.cellsOf e) zs (i * P.cellsOf e)).map (.sl false)
        | none => none
      else none
    | none => none
  | _ => none

theorem mapM_upTo {α : Type} {f : Nat → Option α} {n : Nat} {l : List α} (h : (upTo n 0).mapM f = some l) : l.length = n ∧ ∀ (i : Nat) x, l[i]? = some x → f i = some x := by
  rw [upTo_eq] at h
  obtain ⟨h1, h2⟩ := mapM_some h
  simp at h1
  refine ⟨h1, fun i x hx => ?_⟩
  have hi : i < n := by have := (List.getElem?_eq_some_iff.1 hx).1; omega
  obtain ⟨y, hy, hf⟩ := h2 i i (by simp [List.getElem?_range', hi])
  rw [hx] at hy; cases hy; exact hf

theorem lit_sound {P : Program} {o : Oper} {s : St} {t : TypeId} {n : Nat} {parts : Array (Nat × Operand)} {x : AV} (ho : o.op = .buildSlice t n parts)
    (h : litA P t n (parts.toList.map fun p => (p.1, s.ev p.2)) = some x) : OpS P o s (s.put o.dst x) := by
  intro γ a w K Q hr hK
  unfold litA at h
  split at h
  case h_2 => cases h
  rename_i e ht
  split at h
  case h_2 => cases h
  rename_i z hz
  split at h
  case isFalse => cases h
  rename_i hc
  obtain ⟨hi, h24, h0, hn24, hzs, hz1⟩ := hc
  split at h
  case h_2 => cases h
  rename_i zs hfill
  obtain ⟨es, hes, rfl⟩ := Option.map_eq_some_iff.1 h
  obtain ⟨hel, hee⟩ := mapM_upTo hes
  have hzr : (zeroValue e).run P w = .ok z w := by
    unfold zeroOf at hz
    obtain ⟨i, hi, hz⟩ := Option.bind_eq_some_iff.1 hz
    simp [zeroValue, typeInfo, hi, hz]
  have hsz : 0 < P.cellsOf e := by
    rcases Nat.eq_zero_or_pos (P.cellsOf e) with h | h
    · simp [h] at h0
    · exact h
  have hinit : CellsR γ s.L ((upTo (n * P.cellsOf e) 0).map fun q => absV z.cells[q % z.cells.size]!) ((Array.range (n * P.cellsOf e)).map (z.cells[· % z.cells.size]!)) := by
    refine ⟨by simp [upTo_eq], fun j y hy => ?_⟩
    rw [upTo_eq] at hy
    simp only [List.getElem?_map, Option.map_eq_some_iff] at hy
    obtain ⟨q, hq, rfl⟩ := hy
    have hj : j < n * P.cellsOf e := by have := (List.getElem?_eq_some_iff.1 hq).1; simpa using this
    have hqj : q = j := by simp [List.getElem?_range', hj] at hq; omega
    subst hqj
    have hlt : q % z.cells.size < z.cells.size := Nat.mod_lt _ (by omega)
    refine ⟨z.cells[q % z.cells.size]!, by simp [hj], ?_, .absV _⟩
    rw [getElem!_pos z.cells _ hlt]
    exact (Array.all_eq_true_iff_forall_mem.1 hz1) _ (Array.getElem_mem hlt)
  have hparts : ∀ (i : Nat) (p : Nat × AV) (q : Nat × Value), (parts.toList.map fun p => (p.1, s.ev p.2))[i]? = some p → ((parts.map fun (i, x) => (i, a.eval x)).toList)[i]? = some q → p.1 = q.1 ∧ RV γ s.L p.2 q.2 := by
    intro i p q hp hq
    simp only [List.getElem?_map, Option.map_eq_some_iff, Array.toList_map] at hp hq
    obtain ⟨c, hc, rfl⟩ := hp
    obtain ⟨d, hd, rfl⟩ := hq
    rw [hc] at hd; cases hd
    exact ⟨rfl, hr.ev _⟩
  obtain ⟨cs', hf, hcr⟩ := fillA_run _ _ _ _ _ hinit (by simp) hparts hfill
  have hrun : (Instr.buildSlice t n (parts.map fun (i, x) => (i, a.eval x))).run P w = .ok (.slice (some ⟨w.heap.size, 0, none⟩) n n) (w.alloc (.cells cs' e)) := by
    have h24' : ¬ (16777216 < n * P.cellsOf e) := by omega
    rw [show (parts.map fun (i, x) => (i, a.eval x)).toList = parts.toList.map (fun x => (x.1, a.eval x.2)) from by simp] at hf
    simp [Instr.buildSlice, run_underlying ht, run_sizeOf w hi, h24', h0, hzr, hf, newRow, newObj, Sem.run]
  obtain ⟨E, hI, hS⟩ := hr.inv.allocRo (.cells cs' e)
  unfold Oper.wp execOp
  rw [ho]
  simp only [Sem.run_bind, hrun, Result.andThen_ok, Sem.run_pure]
  have hro : newG γ w.heap.size (.ro (.cells cs' e (0, 0))) w.heap.size = .ro (.cells cs' e (0, 0)) := by simp [newG]
  have hcell : ∀ (i : Nat) x (j : Nat) y, es[i]? = some x → x.cells[j]? = some y → ∃ u, cs'[i * P.cellsOf e + j]? = some u ∧ u.oneCell' = true ∧ RV γ s.L y u := by
    intro i x j y hx hy
    obtain ⟨_, h2⟩ := elemA_spec (hee i x hx)
    exact hcr.2 _ y (h2 j y hy)
  refine hK _ _ _ ((hr.mono E hI).put o.dst ?_) (by rw [St.put_L]; exact E) hS
  refine .sl false es _ n n (P.cellsOf e) (fun i j => cs'.getD (i * P.cellsOf e + j) undef) hel.symm (Nat.le_refl _) ?_ ?_ ?_ ?_
  · intro x hx
    obtain ⟨i, hi, rfl⟩ := List.getElem_of_mem hx
    exact (elemA_spec (hee i _ (List.getElem?_eq_getElem hi))).1
  · intro i x j y hx hy
    obtain ⟨u, h1, _⟩ := hcell i x j y hx hy
    simp only [roCell, hro, Nat.zero_add, h1, Array.getD_eq_getD_getElem?, Option.getD_some]
  · intro i x j y hx hy
    obtain ⟨u, h1, h2, _⟩ := hcell i x j y hx hy
    simpa [Array.getD_eq_getD_getElem?, h1] using h2
  · intro i x j y hx hy
    obtain ⟨u, h1, _, h3⟩ := hcell i x j y hx hy
    simp only [Array.getD_eq_getD_getElem?, h1, Option.getD_some]
    exact h3.mono E

end Go.Proofs.Ytolfjeedgedblaa.K
