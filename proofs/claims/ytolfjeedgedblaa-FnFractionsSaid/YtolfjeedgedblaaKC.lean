/-
  A logic of values for Go's functions (part 10c): appending whatever comes, onto a row of the call's own, cut or not, or onto nil; rows made; stores into rows; literal rows of the call's own.
-/
import Derived.Test.YtolfjeedgedblaaKB
import Derived.Deep.AppendSrc
import Derived.Laws.MakeOwn
namespace Go.Proofs.Ytolfjeedgedblaa.K
set_option linter.unusedVariables false
set_option linter.unusedSimpArgs false
open Go Go.RowKit

section
variable {P : Program} (w : World)
theorem run_append_roomS (t tx ty e : TypeId) (i : TypeInfo) (ht : P.underlying t = some (.slice e)) (hi : P.info? e = some i)
    (g sLen sCap : Nat) (cur : Array Value) (hg : w.heap[g]? = some (.cells cur e (0, 0)))
    (x : Value) (n : Nat) (news : List Value) (hs : Src P i.size tx x n news w)
    (hroom : sLen + n ≤ sCap) (hfit : sLen * i.size + news.length ≤ cur.size) :
    (Builtin.append_ #[t, tx] ty #[.slice (some ⟨g, 0, none⟩) sLen sCap, x]).run P w =
      .ok (.slice (some ⟨g, 0, none⟩) (sLen + n) sCap) (w.setRow g (cur.toList.take (sLen * i.size) ++ news ++ cur.toList.drop (sLen * i.size + news.length)).toArray) := by
  have hst := run_storeCells_at P g (sLen * i.size) e news 0 cur w hg (by simpa using hfit) hs.one
  simp only [Nat.add_zero] at hst
  rcases hs.kind with ⟨e', hk⟩ | hk <;> simp [Builtin.append_, run_underlying ht, run_underlying hk, sizeOf, typeInfo, hi, hs.len, hroom, hs.cells, Addr.add_lit, hst]
theorem run_append_none (t tx ty e : TypeId) (i : TypeInfo) (ht : P.underlying t = some (.slice e)) (hi : P.info? e = some i) (x : Value) (hs : Src P i.size tx x 0 [] w) :
    (Builtin.append_ #[t, tx] ty #[.slice none 0 0, x]).run P w = .ok (.slice none 0 0) w := by
  rcases hs.kind with ⟨e', hk⟩ | hk <;> simp [Builtin.append_, run_underlying ht, run_underlying hk, sizeOf, typeInfo, hi, hs.len, hs.cells, storeCells]
end

/-! ### more that is owned -/
theorem Ext.more (γ : Nat → Gh) (L X : List AObj) : Ext γ L γ (L ++ X) :=
  ⟨fun _ _ h => h, fun id o hL => ⟨o, by rw [List.getElem?_append_left (List.getElem?_eq_some_iff.1 hL).1]; exact hL, OStep.refl o⟩, fun _ _ _ _ h => .inl h, fun _ _ _ _ _ _ _ _ _ _ _ _ _ _ _ h => h⟩

theorem Inv.moreVec {γ : Nat → Gh} {L : List AObj} {w : World} (h : Inv γ L w) (T : TypeId) (sz : Nat) : Inv γ (L ++ [AObj.vec T sz 0 []]) w := by
  have get : ∀ {id : Nat} {o : AObj}, (L ++ [AObj.vec T sz 0 []])[id]? = some o → (∀ T sz g es, o ≠ .vec T sz g es) → L[id]? = some o := by
    intro id o hL hne
    by_cases hid : id < L.length
    · rwa [List.getElem?_append_left hid] at hL
    · rw [List.getElem?_append_right (by omega)] at hL
      obtain ⟨h1, h2⟩ := List.getElem?_eq_some_iff.1 hL
      simp at h1
      have : id - L.length = 0 := by omega
      simp [this] at h2
      exact absurd h2.symm (hne _ _ _ _)
  refine ⟨h.ro, fun b id p c hb => ?_, h.inj, fun id T cs hL => h.box _ _ _ (get hL (by intros; simp)), fun id kt vt es hL => h.map _ _ _ _ (get hL (by intros; simp))⟩
  obtain ⟨o, ho, hr⟩ := h.ow _ _ _ _ hb
  exact ⟨o, ho, hr.grow (.more _ _ _) (h.idlt hb) (fun _ _ _ h => h) (fun _ _ _ h => h)⟩

/-! ### a row, cut -/
theorem Inv.trunc {γ : Nat → Gh} {L : List AObj} {w : World} (h : Inv γ L w) {id g sz n : Nat} {T : TypeId} {es : List AV} (hL : L[id]? = some (.vec T sz g es)) (n1 : noOwn es = true) (hn : n ≤ es.length) :
    Ext γ L γ (L.set id (.vec T sz (g + 1) (es.take n))) ∧ Inv γ (L.set id (.vec T sz (g + 1) (es.take n))) w := by
  have hlt := (List.getElem?_eq_some_iff.1 hL).1
  have E : Ext γ L γ (L.set id (.vec T sz (g + 1) (es.take n))) := .set hL ⟨rfl, rfl, .inl (by omega)⟩
  refine ⟨E, h.ro, fun b id1 p c hb => ?_, h.inj, fun id1 T1 cs hL1 => ?_, fun id1 kt vt es1 hL1 => ?_⟩
  · obtain ⟨o, ho, hr⟩ := h.ow _ _ _ _ hb
    refine ⟨o, ho, ?_⟩
    by_cases hid : id1 = id
    · subst hid
      unfold BlockRep at hr ⊢
      simp only [hL] at hr
      simp only [List.getElem?_set_self hlt]
      obtain ⟨es', s, arr, T', k1, k2, k3, k4, k5, k6, k7⟩ := hr
      obtain ⟨rfl, rfl⟩ := noOwn_sub n1 k1
      refine ⟨_, s, arr, T', rfl, k2, k3, k4, ?_, k6, fun e he => k7.1 e (List.mem_of_mem_take he), fun i e j x he hx => ?_⟩
      · rw [List.length_take]; omega
      · have he' : es'[i]? = some e := by
          rw [List.getElem?_take] at he
          split at he
          · exact he
          · cases he
        obtain ⟨v, a1, a2, a3⟩ := k7.2 i e j x he' hx
        refine ⟨v, a1, a2, ?_⟩
        exact a3.mono E (fun b c hb => hb) (fun b c hb => hb)
    · exact hr.upd E (List.getElem?_set_ne (fun e => hid e.symm))
  · by_cases hid : id = id1
    · subst hid; simp [hlt] at hL1
    · rw [List.getElem?_set_ne hid] at hL1; exact h.box _ _ _ hL1
  · by_cases hid : id = id1
    · subst hid; simp [hlt] at hL1
    · rw [List.getElem?_set_ne hid] at hL1; exact h.map _ _ _ _ hL1

theorem RV.trunc {γ : Nat → Gh} {L : List AObj} {id g sz n : Nat} {T : TypeId} {es : List AV} {v : Value} (hL : L[id]? = some (.vec T sz g es)) (hn : n ≤ es.length) (h : RV γ L (.ref id [] g n) v) :
    RV γ (L.set id (.vec T sz (g + 1) (es.take n))) (.ref id [] (g + 1) n) v := by
  have hlt := (List.getElem?_eq_some_iff.1 hL).1
  cases h with
  | ref _ _ _ _ _ hok ho =>
    obtain ⟨_, _, _, es2, hL2, hs2, hn2, hv⟩ := hok.form (by simp [eptrNow, hL])
    rw [hL] at hL2; cases hL2
    simp [sub] at hs2; subst hs2
    refine .ref _ _ _ _ _ ?_ ho
    unfold RefOk
    simp only [List.getElem?_set_self hlt]
    refine ⟨Nat.le_refl _, fun _ => ⟨_, rfl, by rw [List.length_take]; omega, ?_⟩⟩
    rcases hv with ⟨rfl, rfl, rfl, h4⟩ | ⟨b, c, rfl, hb⟩
    · exact .inl ⟨rfl, by simp, h4⟩
    · exact .inr ⟨b, c, rfl, hb⟩

/-! ### what is appended -/
/-- The elements that an append brings. -/
def srcA (P : Program) (L : List AObj) (tx : TypeId) (y : AV) : Option (List AV) :=
  match y with
  | .sl _ ys => match P.underlying tx with | some (.slice _) => some ys | _ => none
  | .lit (.slice none 0 0) => match P.underlying tx with | some (.slice _) => some [] | _ => none
  | .ref id [] g n =>
    match P.underlying tx with
    | some (.slice _) =>
      match L[id]? with
      | some (.vec _ _ g' es) => if g = g' ∧ n ≤ es.length ∧ noOwn es = true then some (es.take n) else none
      | _ => none
    | _ => none
  | .str s => match P.underlying tx with | some .string => some (s.data.toList.map fun b => .int .u8 b.toNat) | _ => none
  | _ => none

def Brings (P : Program) (γ : Nat → Gh) (L : List AObj) (w : World) (sz : Nat) (tx : TypeId) (v : Value) (ys : List AV) : Prop :=
  ∃ news : List Value, Src P sz tx v ys.length news w ∧ ∀ (i : Nat) z (j : Nat) y, ys[i]? = some z → z.cells[j]? = some y → ∃ u, news[i * sz + j]? = some u ∧ u.oneCell' = true ∧ RV γ L y u

theorem add_none (b o q : Nat) : (⟨b, o, none⟩ : Addr).add q = ⟨b, o + q, none⟩ := by unfold Addr.add; split <;> simp_all

/-- Cells that lie one behind another, as what an append brings. -/
theorem Brings.ofCells {P : Program} {γ : Nat → Gh} {L : List AObj} {w : World} {sz : Nat} {tx e' : TypeId} (ht : P.underlying tx = some (.slice e')) {b o c : Nat} {ys : List AV} (hsz : 0 < sz) (hyl : ∀ z ∈ ys, z.cells.length = sz)
    (hcell : ∀ (i : Nat) z (j : Nat) y, ys[i]? = some z → z.cells[j]? = some y → ∃ u, w.cell? ⟨b, o + (i * sz + j), none⟩ = some u ∧ u.oneCell' = true ∧ RV γ L y u) :
    Brings P γ L w sz tx (.slice (some ⟨b, o, none⟩) ys.length c) ys := by
  let cell : Nat → Value := fun q => (w.cell? ⟨b, o + q, none⟩).getD undef
  let news : List Value := (List.range (ys.length * sz)).map cell
  have hnl : news.length = ys.length * sz := by simp [news]
  have hq : ∀ q, q < ys.length * sz → ∃ z y, ys[q / sz]? = some z ∧ z.cells[q % sz]? = some y := by
    intro q hlt
    have hi : q / sz < ys.length := Nat.div_lt_of_lt_mul (by rw [Nat.mul_comm]; exact hlt)
    have hj : q % sz < (ys[q / sz]).cells.length := by rw [hyl _ (List.getElem_mem hi)]; exact Nat.mod_lt _ hsz
    exact ⟨_, _, List.getElem?_eq_getElem hi, List.getElem?_eq_getElem hj⟩
  have hget : ∀ (q : Nat) u, news[q]? = some u → w.cell? ⟨b, o + q, none⟩ = some u ∧ u.oneCell' = true := by
    intro q u hu
    have hlt : q < ys.length * sz := by have := (List.getElem?_eq_some_iff.1 hu).1; omega
    obtain ⟨z, y, hz, hy⟩ := hq q hlt
    obtain ⟨u', h1, h2, _⟩ := hcell _ _ _ _ hz hy
    have h6 : q / sz * sz + q % sz = q := by rw [Nat.mul_comm]; exact Nat.div_add_mod q sz
    rw [h6] at h1
    simp [news, cell, hlt, h1] at hu
    subst hu
    exact ⟨h1, h2⟩
  refine ⟨news, Src.ofSlice w ht _ _ _ _ hnl (fun j u hu => by rw [add_none]; exact (hget j u hu).1) (fun u hu => by
    obtain ⟨q, hq, rfl⟩ := List.getElem_of_mem hu
    exact (hget q _ (List.getElem?_eq_getElem hq)).2), fun i z j y hz hy => ?_⟩
  obtain ⟨u, h1, h2, h3⟩ := hcell i z j y hz hy
  refine ⟨u, ?_, h2, h3⟩
  have hjl : j < sz := by rw [← hyl z (List.mem_of_getElem? hz)]; exact (List.getElem?_eq_some_iff.1 hy).1
  have hil : i < ys.length := (List.getElem?_eq_some_iff.1 hz).1
  have hlt : i * sz + j < ys.length * sz := by
    have : (i + 1) * sz ≤ ys.length * sz := Nat.mul_le_mul_right _ hil
    rw [Nat.add_mul, Nat.one_mul] at this; omega
  simp [news, cell, hlt, h1]

theorem srcA_sound {P : Program} {γ : Nat → Gh} {L : List AObj} {w : World} {sz : Nat} {tx : TypeId} {y : AV} {v : Value} {ys : List AV} (hI : Inv γ L w) (hv : RV γ L y v) (h : srcA P L tx y = some ys) (hsz : 0 < sz) (hyl : ∀ z ∈ ys, z.cells.length = sz)
    (hstr : ∀ s, y = .str s → sz = 1) : Brings P γ L w sz tx v ys := by
  unfold srcA at h
  split at h
  · split at h
    · rename_i e' ht
      cases h
      cases hv with
      | sl own _ A n c sz' vals hn hc hsz' h2 h1 h3 =>
        subst hn
        cases ys with
        | nil =>
          refine ⟨[], ?_, fun i z j y hz => by simp at hz⟩
          cases A with
          | none => exact Src.ofNil w ht c
          | some a => exact Src.ofSlice w ht a 0 c [] (by simp) (fun j u hu => by simp at hu) (fun u hu => by cases hu)
        | cons y0 ys =>
          generalize hY : y0 :: ys = Y at *
          have he0 : Y[0]? = some y0 := by rw [← hY]; rfl
          obtain rfl : sz' = sz := by rw [← hsz' y0 (List.mem_of_getElem? he0), hyl y0 (List.mem_of_getElem? he0)]
          obtain ⟨c0, hc0⟩ : ∃ c0, y0.cells[0]? = some c0 := ⟨_, List.getElem?_eq_getElem (by rw [hyl y0 (List.mem_of_getElem? he0)]; exact hsz)⟩
          obtain ⟨b2, o2, rfl, arr2, T2, fr2, hg2⟩ : ∃ b2 o2, A = some ⟨b2, o2, none⟩ ∧ ∃ arr2 T2 fr2, γ b2 = .ro (.cells arr2 T2 fr2) := by
            have := h2 0 y0 0 c0 he0 hc0
            unfold roCell at this
            split at this
            · rename_i b2 o2
              split at this
              · rename_i arr2 T2 fr2 hg
                exact ⟨b2, o2, rfl, arr2, T2, fr2, hg⟩
              · cases this
            · cases this
          refine .ofCells ht hsz hyl fun i z j y hz hy => ⟨vals i j, ?_, h1 _ _ _ _ hz hy, h3 _ _ _ _ hz hy⟩
          have := h2 i z j y hz hy
          have hh := hI.ro _ _ hg2
          simp only [roCell, hg2] at this
          simp [World.cell?, hh, this]
    · cases h
  · split at h
    · rename_i e' ht
      cases h
      cases hv
      exact ⟨[], Src.ofNil w ht 0, fun i z j y hz => by simp at hz⟩
    · cases h
  · split at h
    · rename_i e' ht
      split at h
      · rename_i T sz2 g' es hL
        split at h
        · rename_i hc
          obtain ⟨rfl, hn, hno⟩ := hc
          cases h
          rename_i id g n _ _
          cases hv with
          | ref _ _ _ _ _ hok ho =>
            obtain ⟨_, _, _, es2, hL2, hs2, hn2, hv⟩ := hok.form (by simp [eptrNow, hL])
            rw [hL] at hL2; cases hL2
            simp [sub] at hs2; subst hs2
            rcases hv with ⟨rfl, rfl, rfl, _⟩ | ⟨b, c, rfl, hb⟩
            · exact ⟨[], by simpa using Src.ofNil w ht 0, fun i z j y hz => by simp at hz⟩
            · obtain ⟨arr, s, T', harr, hTs, hasz, hlc, _, hrow⟩ := hI.rowCell hL rfl hb
              have hlen : (es.take n).length = n := by rw [List.length_take]; omega
              have key := Brings.ofCells (P := P) (γ := γ) (L := L) (w := w) (sz := sz) ht (b := b) (o := 0) (c := c) (ys := es.take n) hsz hyl (fun i z j y hz hy => by
                have hz' : es[i]? = some z := by
                  rw [List.getElem?_take] at hz
                  split at hz
                  · exact hz
                  · cases hz
                obtain ⟨u, k1, k2, k3⟩ := hrow.2 i z j y hz' hy
                obtain rfl : s = sz := by rw [← hyl z (List.mem_of_getElem? hz), hrow.1 z (List.mem_of_getElem? hz')]
                exact ⟨u, by rw [Nat.zero_add, cell_of_row w b _ arr _ (0, 0) harr]; exact k1, k2, (noOwn_CV hno hz' hy).1 k3⟩)
              rw [hlen] at key
              exact key
        · cases h
      · cases h
    · cases h
  · split at h
    · rename_i s _ ht
      cases h
      cases hv
      obtain rfl := hstr _ rfl
      rename_i s _
      have hlen : (s.data.toList.map fun b => AV.int .u8 b.toNat).length = s.size := by rw [List.length_map, Array.length_toList]; rfl
      refine ⟨byteCells s, by rw [hlen]; exact Src.ofString w ht s, fun i z j y hz hy => ?_⟩
      simp only [List.getElem?_map, Option.map_eq_some_iff] at hz
      obtain ⟨b, hb, rfl⟩ := hz
      cases j with
      | zero =>
        simp [AV.cells] at hy
        subst hy
        refine ⟨.int .u8 b.toNat, ?_, rfl, .int _ _⟩
        simp only [byteCells, Nat.mul_one, Nat.add_zero, List.getElem?_map, hb, Option.map_some]
      | succ j => simp [AV.cells] at hy
    · cases h
  · cases h

theorem rowRep_append' {γ γ2 : Nat → Gh} {L L2 : List AObj} (E : Ext γ L γ2 L2) {id sz : Nat} {es ys : List AV} {xs news : List Value} {cur' : Array Value}
    (hes : ∀ e ∈ es, e.cells.length = sz) (hys : ∀ e ∈ ys, e.cells.length = sz) (n1 : noOwn es = true) (n2 : noOwn ys = true) (hxl : xs.length = es.length * sz)
    (hx : ∀ (i : Nat) e (j : Nat) x, es[i]? = some e → e.cells[j]? = some x → ∃ v, xs[i * sz + j]? = some v ∧ v.oneCell' = true ∧ RV γ L x v)
    (hn : ∀ (i : Nat) e (j : Nat) x, ys[i]? = some e → e.cells[j]? = some x → ∃ v, news[i * sz + j]? = some v ∧ v.oneCell' = true ∧ RV γ L x v)
    (hcur : ∀ (q : Nat) u, (xs ++ news)[q]? = some u → cur'[q]? = some u) : RowRep γ2 L2 id [] sz (es ++ ys) cur' :=
  rowRep_append E hes hys n1 n2 hxl hx hn hcur

/-- An append's run. -/
theorem append_core {P : Program} {γ : Nat → Gh} {L : List AObj} {w : World} (hI : Inv γ L w) {t tx ty e : TypeId} {ys : List AV} {id g : Nat} {es : List AV} {vx vy : Value}
    (ht : P.underlying t = some (.slice e)) (hi : (P.info? e).isSome = true) (hsz : 0 < P.cellsOf e) (hbw : P.bytesOf e ≤ 1024) (hz : (zeroOf P e).map (·.cells.size) = some (P.cellsOf e))
    (hL : L[id]? = some (.vec e (P.cellsOf e) g es)) (hvx : RV γ L (.ref id [] g es.length) vx)
    (hyl : ∀ z ∈ ys, z.cells.length = P.cellsOf e) (n1 : noOwn es = true) (n2 : noOwn ys = true) (hlen : es.length + ys.length ≤ 137438953472) (hb : Brings P γ L w (P.cellsOf e) tx vy ys) :
    ∃ v' w' γ', (Builtin.append_ #[t, tx] ty #[vx, vy]).run P w = .ok v' w' ∧ RV γ' (L.set id (.vec e (P.cellsOf e) (g + 1) (es ++ ys))) (.ref id [] (g + 1) (es.length + ys.length)) v' ∧
      Ext γ L γ' (L.set id (.vec e (P.cellsOf e) (g + 1) (es ++ ys))) ∧ Inv γ' (L.set id (.vec e (P.cellsOf e) (g + 1) (es ++ ys))) w' ∧ Stp γ w γ' w' := by
  obtain ⟨news, hs, hnrep⟩ := hb
  obtain ⟨zv, hzv, hzs⟩ := Option.map_eq_some_iff.1 hz
  obtain ⟨ti, hti, hzero⟩ := Option.bind_eq_some_iff.1 hzv
  have htsz : ti.size = P.cellsOf e := by simp [Program.cellsOf, hti]
  have hby : ti.bytes ≤ 1024 := by simpa [Program.bytesOf, hti] using hbw
  generalize P.cellsOf e = sz at *
  have hnl := hs.newsLen
  rw [← htsz] at hs
  have hlt := (List.getElem?_eq_some_iff.1 hL).1
  have fin : ∀ (b' c' : Nat) (cur' : Array Value) (w' : World) (xs : List Value),
      (Builtin.append_ #[t, tx] ty #[vx, vy]).run P w = .ok (.slice (some ⟨b', 0, none⟩) (es.length + ys.length) c') w' →
      (∀ k, k < w.heap.size → (∀ p c, γ k ≠ .ow id p c) → w'.heap[k]? = w.heap[k]?) → w.heap.size ≤ w'.heap.size → w'.os = w.os → w'.tape = w.tape → w'.output = w.output →
      w'.heap[b']? = some (.cells cur' e (0, 0)) → ((∃ c, γ b' = .ow id [] c) ∨ w.heap.size ≤ b') → cur'.size = c' * sz → es.length + ys.length ≤ c' → c' ≤ maxLen →
      (∀ e ∈ es, e.cells.length = sz) → xs.length = es.length * sz →
      (∀ (i : Nat) e (j : Nat) x, es[i]? = some e → e.cells[j]? = some x → ∃ v, xs[i * sz + j]? = some v ∧ v.oneCell' = true ∧ RV γ L x v) →
      (∀ (q : Nat) u, (xs ++ news)[q]? = some u → cur'[q]? = some u) → ∃ v' w' γ', (Builtin.append_ #[t, tx] ty #[vx, vy]).run P w = .ok v' w' ∧ RV γ' (L.set id (.vec e sz (g + 1) (es ++ ys))) (.ref id [] (g + 1) (es.length + ys.length)) v' ∧
      Ext γ L γ' (L.set id (.vec e sz (g + 1) (es ++ ys))) ∧ Inv γ' (L.set id (.vec e sz (g + 1) (es ++ ys))) w' ∧ Stp γ w γ' w' := by
    intro b' c' cur' w' xs hrun f1 f2 f3 f4 f5 f6 f7 f8 f9 f10 f11 f12 f13 f14
    obtain ⟨E, hI, hS⟩ := hI.regen (es2 := es ++ ys) hL f1 f2 f3 f4 f5 f6 f7 f8 (by simpa using f9) f10 (fun E => rowRep_append E f11 hyl n1 n2 f12 f13 hnrep f14)
    refine ⟨_, _, _, hrun, .ref _ _ _ _ _ ?_ rfl, E, hI, hS⟩
    unfold RefOk
    simp only [List.getElem?_set_self hlt]
    exact ⟨Nat.le_refl _, fun _ => ⟨es ++ ys, rfl, by simp, .inr ⟨b', c', rfl, by simp [reG]⟩⟩⟩
  have hmax : es.length + ys.length ≤ maxLen := by unfold maxLen; omega
  have hm63 : ((es.length + ys.length : Nat) : Int) ≤ 9223372036854775807 := by omega
  have hnb : (es.length + ys.length) * ti.bytes ≤ 140737488355328 := by
    calc (es.length + ys.length) * ti.bytes ≤ 137438953472 * 1024 := Nat.mul_le_mul hlen hby
      _ = 140737488355328 := by rfl
  cases hvx with
  | ref _ _ _ _ _ hok ho1 =>
    obtain ⟨T3, sz3, es3, es', hL3, hs3, hn3, hv⟩ := hok.form (by simp [eptrNow, hL])
    rw [hL] at hL3; cases hL3
    simp [sub] at hs3
    subst hs3
    rcases hv with ⟨rfl, rfl, hn0, hnolab⟩ | ⟨b, cap, rfl, hb⟩
    · by_cases hy0 : ys = []
      · subst hy0
        have h0 : news = [] := List.eq_nil_of_length_eq_zero (by simpa using hnl)
        subst h0
        have hrun := run_append_none (P := P) w t tx ty e ti ht hti vy hs
        obtain ⟨E, hI'⟩ := hI.trunc (n := 0) hL rfl (by simp)
        refine ⟨_, w, γ, hrun, ?_, by simpa using E, by simpa using hI', Stp.refl _ _⟩
        have := RV.trunc (n := 0) hL (by simp) (.ref id [] g 0 _ hok ho1)
        simpa using this
      · have hpos : 0 < ys.length := List.length_pos_iff.2 hy0
        have hfo : (Builtin.firstCells ti.size 0 (.slice none 0 0)).run P w.drew = .ok ([] : List Value).toArray w.drew := run_firstCells_none (P := P) w.drew ti.size 0 0 0
        have hrun := run_append_grow_src (P := P) w t tx ty e ti zv ht hti hzero none 0 0 [] hfo vy ys.length news hs (by omega) (by simpa using hm63) (by rw [Nat.zero_add]; exact (growslice_fits (by omega) (by simpa using hnb)))
        have hge := grownCap_ge w (0 + ys.length) 0 e
        have hcm : grownCap w (0 + ys.length) 0 e ≤ maxLen := grownCap_le_maxLen w _ 0 e (by simpa using hmax)
        refine fin w.heap.size (grownCap w (0 + ys.length) 0 e) _ _ [] (by simpa using hrun) (fun k hk _ => RowKit.Below.heap_alloc w.drew _ k hk) (by simp) rfl rfl rfl (heap_alloc_new w.drew _) (.inr (Nat.le_refl _)) ?_ (by simpa using hge) hcm (by simp) (by simp) (by simp) ?_
        · simp only [Array.size_append, List.size_toArray, size_zeroCells, hzs, hnl, ← Nat.add_mul, List.nil_append, Nat.zero_add]
          rw [Nat.zero_add] at hge
          congr 1; omega
        · intro q u hq
          have := (List.getElem?_eq_some_iff.1 hq).1
          rw [Array.getElem?_append_left (by simpa using this)]
          simpa using hq
    · obtain ⟨arr, s3, T', harr, hTs, hasz, hle, hcm, hrow⟩ := hI.rowCell hL rfl hb
      obtain ⟨hT', rfl⟩ := hTs rfl
      obtain rfl : e = T' := hT'.symm
      have hxl : (arr.toList.take (es.length * s3)).length = es.length * s3 := by
        simp only [List.length_take, Array.length_toList, hasz]
        exact Nat.min_eq_left (Nat.mul_le_mul_right _ hle)
      have hxget : ∀ (q : Nat) u, (arr.toList.take (es.length * s3))[q]? = some u → arr[q]? = some u := by
        intro q u hq
        rw [List.getElem?_take] at hq
        split at hq
        · simpa using hq
        · cases hq
      have hxrep : ∀ (i : Nat) e (j : Nat) x, es[i]? = some e → e.cells[j]? = some x → ∃ v, (arr.toList.take (es.length * s3))[i * s3 + j]? = some v ∧ v.oneCell' = true ∧ RV γ L x v := by
        intro i e j x he hx
        obtain ⟨v, k1, k2, k3⟩ := hrow.2 i e j x he hx
        refine ⟨v, ?_, k2, (noOwn_CV n1 he hx).1 k3⟩
        have hjl : j < s3 := by rw [← hrow.1 e (List.mem_of_getElem? he)]; exact (List.getElem?_eq_some_iff.1 hx).1
        have hil : i < es.length := (List.getElem?_eq_some_iff.1 he).1
        have hlt : i * s3 + j < es.length * s3 := by
          have : (i + 1) * s3 ≤ es.length * s3 := Nat.mul_le_mul_right _ hil
          rw [Nat.add_mul, Nat.one_mul] at this; omega
        rw [List.getElem?_take, if_pos hlt]
        simpa using k1
      by_cases hroom : es.length + ys.length ≤ cap
      · have hfit : es.length * ti.size + news.length ≤ arr.size := by rw [hnl, hasz, htsz, ← Nat.add_mul]; exact Nat.mul_le_mul_right _ hroom
        have hrun := run_append_roomS (P := P) w t tx ty e ti ht hti b es.length cap arr harr vy ys.length news hs hroom hfit
        rw [htsz] at hrun hfit
        refine fin b cap _ _ (arr.toList.take (es.length * s3)) hrun (fun k hk hno => setRow_other w b k _ (fun he => by subst he; exact hno _ _ hb)) (by simp [World.setRow]) rfl rfl rfl (setRow_heap w b arr _ e (0, 0) harr) (.inl ⟨cap, hb⟩) ?_ hroom hcm hrow.1 hxl hxrep ?_
        · simp only [List.size_toArray, List.length_append, List.length_take, List.length_drop, Array.length_toList]
          rw [← hasz]; omega
        · intro q u hq
          have hlt := (List.getElem?_eq_some_iff.1 hq).1
          simp only [List.getElem?_toArray]
          rw [List.getElem?_append_left hlt]; exact hq
      · have holds : ∀ (j : Nat) u, (arr.toList.take (es.length * s3))[j]? = some u → w.drew.cell? ((⟨b, 0, none⟩ : Addr).add j) = some u := by
          intro j u hj
          rw [add_none, Nat.zero_add]
          have := cell_of_row w b j arr e (0, 0) harr
          simp only [World.cell?_drew]
          rw [this]
          exact hxget j u hj
        have hfo := run_firstCells_some (P := P) w.drew ti.size es.length ⟨b, 0, none⟩ es.length cap (arr.toList.take (es.length * s3)) (by rw [hxl, htsz]) holds
        have hrun := run_append_grow_src (P := P) w t tx ty e ti zv ht hti hzero (some ⟨b, 0, none⟩) es.length cap (arr.toList.take (es.length * s3)) hfo vy ys.length news hs (by omega) hm63 (growslice_fits (by omega) hnb)
        have hge := grownCap_ge w (es.length + ys.length) cap e
        have hcm2 : grownCap w (es.length + ys.length) cap e ≤ maxLen := grownCap_le_maxLen w _ cap e hmax
        refine fin w.heap.size (grownCap w (es.length + ys.length) cap e) _ _ (arr.toList.take (es.length * s3)) hrun (fun k hk _ => RowKit.Below.heap_alloc w.drew _ k hk) (by simp) rfl rfl rfl (heap_alloc_new w.drew _) (.inr (Nat.le_refl _)) ?_ hge hcm2 hrow.1 hxl hxrep ?_
        · simp only [Array.size_append, List.size_toArray, size_zeroCells, hzs, hnl, hxl, ← Nat.add_mul, List.length_append]
          congr 1; omega
        · intro q u hq
          have hlt := (List.getElem?_eq_some_iff.1 hq).1
          rw [Array.getElem?_append_left (by simpa using hlt)]
          simpa using hq

/-- What an append comes to. -/
def appendA (P : Program) (s : St) (t tx : TypeId) (x y : AV) : Option (AV × List AObj) :=
  match P.underlying t, srcA P s.L tx y with
  | some (.slice e), some ys =>
    if (ys.all (fun z => z.cells.length == P.cellsOf e) = true ∧ (P.info? e).isSome) ∧ (0 < P.cellsOf e ∧ (decide (P.bytesOf e ≤ 1024)) = true) ∧ ((zeroOf P e).map (·.cells.size) = some (P.cellsOf e)) ∧ noOwn ys = true ∧ (isStrA y = true → P.cellsOf e = 1) then
      match x with
      | .ref id [] g n =>
        match s.L[id]? with
        | some (.vec T sz g' es) =>
          if (g = g' ∧ T = e ∧ sz = P.cellsOf e) ∧ n + ys.length ≤ 137438953472 ∧ noOwn es = true then
            if n = es.length then some (.ref id [] (g + 1) (n + ys.length), s.L.set id (.vec T sz (g + 1) (es ++ ys)))
            else if n ≤ es.length then some (.ref id [] (g + 2) (n + ys.length), s.L.set id (.vec T sz (g + 2) (es.take n ++ ys)))
            else none
          else none
        | _ => none
      | .lit (.slice none 0 0) => if ys.length ≤ 137438953472 then some (.ref s.L.length [] 1 ys.length, s.L ++ [.vec e (P.cellsOf e) 1 ys]) else none
      | _ => none
    else none
  | _, _ => none
where
  isStrA : AV → Bool
  | .str _ => true
  | _ => false

theorem isStrA_sl (o : Bool) (es : List AV) : appendA.isStrA (.sl o es) = false := rfl
theorem isStrA_ref (id g n : Nat) (p : Pth) : appendA.isStrA (.ref id p g n) = false := rfl
theorem isStrA_lit (v : Value) : appendA.isStrA (.lit v) = false := rfl
theorem isStrA_str (s : ByteArray) : appendA.isStrA (.str s) = true := rfl
theorem isStrA_no {y : AV} (h : appendA.isStrA y = true → False) {s : ByteArray} : y ≠ .str s := by
  rintro rfl; exact h rfl

theorem append_sound {P : Program} {o : Oper} {s : St} {t tx : TypeId} {x y : Operand} {r : AV} {L' : List AObj}
    (ho : o.op = .call { callee := .builtin .append, args := #[x, y], argTypes := #[t, tx] }) (h : appendA P s t tx (s.ev x) (s.ev y) = some (r, L')) :
    OpS P o s ({ s with L := L' }.put o.dst r) := by
  intro γ a w K Q hr hK
  have hvx := hr.ev x
  have hvy := hr.ev y
  unfold appendA at h
  split at h
  case h_2 => cases h
  rename_i e ys ht hys
  split at h
  case isFalse => cases h
  rename_i hc
  obtain ⟨⟨hyl, hi⟩, ⟨hsz, hbw⟩, hz, n2, hstr⟩ := hc
  have hyl' : ∀ z ∈ ys, z.cells.length = P.cellsOf e := fun z hz => by simpa using List.all_eq_true.1 hyl z hz
  have hbw' : P.bytesOf e ≤ 1024 := by simpa using hbw
  have hb := srcA_sound hr.inv hvy hys hsz hyl' (fun s hs => hstr (by rw [hs]; rfl))
  have fin : ∀ {v' w' γ' L1 r1}, (Builtin.append_ #[t, tx] o.type #[a.eval x, a.eval y]).run P w = .ok v' w' → RV γ' L1 r1 v' → Ext γ s.L γ' L1 → Inv γ' L1 w' → Stp γ w γ' w' → (r1, L1) = (r, L') → o.wp P a w K Q := by
    intro v' w' γ' L1 r1 hrun hrv hE hI hS he
    cases he
    unfold Oper.wp execOp
    simp only [ho, resolve, invoke, builtin, Sem.run_bind, Sem.run_pure, Result.andThen_ok, List.map_toArray, List.map_cons, List.map_nil, hrun]
    exact hK _ _ _ ((hr.mono hE hI).put o.dst hrv) (by rw [St.put_L]; exact hE) hS
  split at h
  · rename_i id g n hx
    split at h
    · rename_i T sz g' es hL
      split at h
      · rename_i hc
        obtain ⟨⟨rfl, rfl, rfl⟩, hlen, n1⟩ := hc
        rw [hx] at hvx
        split at h
        · rename_i hn
          subst hn
          obtain ⟨v', w', γ', k1, k2, k3, k4, k5⟩ := append_core (ty := o.type) hr.inv ht hi hsz hbw' hz hL hvx hyl' n1 n2 hlen hb
          exact fin k1 k2 k3 k4 k5 (Option.some.inj h)
        · split at h
          · rename_i hn
            obtain ⟨E1, hI1⟩ := hr.inv.trunc hL n1 hn
            have hlt := (List.getElem?_eq_some_iff.1 hL).1
            have htl : (es.take n).length = n := by rw [List.length_take]; omega
            have hb1 : Brings P γ (s.L.set id (.vec T (P.cellsOf T) (g + 1) (es.take n))) w (P.cellsOf T) tx (a.eval y) ys := by
              obtain ⟨news, b1, b2⟩ := hb
              exact ⟨news, b1, fun i z j y hz hy => by obtain ⟨u, c1, c2, c3⟩ := b2 i z j y hz hy; exact ⟨u, c1, c2, c3.mono E1⟩⟩
            have n1' : noOwn (es.take n) = true := List.all_eq_true.2 fun z hz => List.all_eq_true.1 n1 z (List.mem_of_mem_take hz)
            obtain ⟨v', w', γ', k1, k2, k3, k4, k5⟩ := append_core (ty := o.type) hI1 ht hi hsz hbw' hz (List.getElem?_set_self hlt) (by rw [htl]; exact RV.trunc hL hn hvx) hyl' n1' n2 (by rw [htl]; exact hlen) hb1
            rw [List.set_set] at k2 k3 k4
            rw [htl] at k2
            exact fin k1 k2 (E1.trans k3) k4 k5 (Option.some.inj h)
          · cases h
      · cases h
    · cases h
  · rename_i hx
    split at h
    · rename_i hlen
      rw [hx] at hvx
      have hE := Ext.more γ s.L [AObj.vec e (P.cellsOf e) 0 []]
      have hI := hr.inv.moreVec e (P.cellsOf e)
      have hL : (s.L ++ [AObj.vec e (P.cellsOf e) 0 []])[s.L.length]? = some (.vec e (P.cellsOf e) 0 []) := by simp
      generalize hvx0 : a.eval x = vx at hvx
      cases hvx
      have hrf : RV γ (s.L ++ [AObj.vec e (P.cellsOf e) 0 []]) (.ref s.L.length [] 0 ([] : List AV).length) (.slice none 0 0) := by
        refine .ref _ _ _ _ _ ?_ rfl
        unfold RefOk
        rw [hL]
        refine ⟨Nat.le_refl _, fun _ => ⟨[], rfl, Nat.le_refl _, .inl ⟨by trivial, by trivial, fun b c hb => ?_⟩⟩⟩
        have := hr.inv.idlt hb
        omega
      have hb1 : Brings P γ (s.L ++ [AObj.vec e (P.cellsOf e) 0 []]) w (P.cellsOf e) tx (a.eval y) ys := by
        obtain ⟨news, b1, b2⟩ := hb
        exact ⟨news, b1, fun i z j y hz hy => by obtain ⟨u, c1, c2, c3⟩ := b2 i z j y hz hy; exact ⟨u, c1, c2, c3.mono hE⟩⟩
      obtain ⟨v', w', γ', k1, k2, k3, k4, k5⟩ := append_core (ty := o.type) hI ht hi hsz hbw' hz hL hrf hyl' rfl n2 (by simpa using hlen) hb1
      have e1 : (s.L ++ [AObj.vec e (P.cellsOf e) 0 []]).set s.L.length (.vec e (P.cellsOf e) (0 + 1) ([] ++ ys)) = s.L ++ [AObj.vec e (P.cellsOf e) 1 ys] := by simp
      rw [e1] at k2 k3 k4
      exact fin (by rw [hvx0]; exact k1) k2 (hE.trans k3) k4 k5 (by rw [← Option.some.inj h]; simp)
    · cases h
  · cases h

end Go.Proofs.Ytolfjeedgedblaa.K
