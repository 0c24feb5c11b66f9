/-
  A logic of values for Go's functions (part 14): what came in as data is a value of its type; from a law's contract to its statement.
-/
import Derived.Test.YtolfjeedgedblaaK13
import Derived.WalkKit
import Derived.ProofKit
import Derived.OpenShut
import Derived.ShutString
import Derived.ChangeOld
namespace Go.Proofs.Ytolfjeedgedblaa.K
set_option linter.unusedVariables false
set_option linter.unusedSimpArgs false
open Go Go.RowKit

/-- 'xs' are the cells of a value of the type 't'. -/
def HasC (P : Program) : Nat → TypeId → List AV → Prop
  | 0, _, _ => False
  | n + 1, t, xs =>
    match P.underlying t with
    | some .bool => ∃ b, xs = [.bool b]
    | some (.int k) => ∃ i, xs = [.int k i] ∧ (Lit.int k i).wf = true
    | some .string => ∃ s, xs = [.str s] ∧ s.size ≤ maxLen
    | some (.slice e) => ∃ es, xs = [.sl false es] ∧ es.length ≤ maxLen ∧ ∀ x ∈ es, HasC P n e x.cells ∧ x.cells.length = P.cellsOf e ∧ (aggT P e = true → ∃ cs, x = .agg cs) ∧ (aggT P e = false → ∃ c, x.cells = [c] ∧ x = c)
    | some (.struct fs) => xs.length = P.cellsOf t ∧ ∀ f ∈ fs.toList, HasC P n f.type ((xs.drop f.offset).take (P.cellsOf f.type))
    | _ => False

/-- The memory ahead of the call: nothing of it is written. -/
def roAll (w : World) : Nat → Gh := fun b => match w.heap[b]? with | some o => .ro o | none => .out

theorem Inv.roAll (w : World) : Inv (roAll w) [] w := by
  have h : ∀ b id p c, K.roAll w b ≠ .ow id p c := by
    intro b id p c hb
    unfold K.roAll at hb
    split at hb <;> cases hb
  refine ⟨fun b o hb => ?_, fun b id p c hb => absurd hb (h _ _ _ _), fun b b' id p c c' hb => absurd hb (h _ _ _ _), fun id T cs hL => by simp at hL, fun id kt vt es hL => by simp at hL⟩
  unfold K.roAll at hb
  split at hb
  · cases hb; assumption
  · cases hb

def CellsL (γ : Nat → Gh) (xs : List AV) (cs : List Value) : Prop :=
  cs.length = xs.length ∧ ∀ (j : Nat) x, xs[j]? = some x → ∃ u, cs[j]? = some u ∧ u.oneCell' = true ∧ RV γ [] x u

/-- Types of plain data, all of whose parts are such. -/
def layoutOk (P : Program) (total : Nat) : List Field → Nat → Bool
  | [], off => off == total
  | f :: fs, off => f.offset == off && layoutOk P total fs (off + P.cellsOf f.type)

def dataS (P : Program) (S : List TypeId) : Bool :=
  S.all fun t =>
    match P.underlying t with
    | some .bool => P.cellsOf t == 1
    | some (.int _) => P.cellsOf t == 1
    | some .string => P.cellsOf t == 1
    | some (.slice e) => P.cellsOf t == 1 && S.contains e
    | some (.struct fs) => fs.toList.all (fun f => S.contains f.type) && layoutOk P (P.cellsOf t) fs.toList 0
    | _ => false

theorem mapM_mem {α β : Type} {f : α → Option β} {l : List α} {r : List β} (h : l.mapM f = some r) {x : α} (hx : x ∈ l) : ∃ y, f x = some y := by
  obtain ⟨i, hi, rfl⟩ := List.getElem_of_mem hx
  obtain ⟨y, _, hy⟩ := (mapM_some h).2 i _ (List.getElem?_eq_getElem hi)
  exact ⟨y, hy⟩

theorem fields_join {P : Program} {γ : Nat → Gh} {total n : Nat} {cs : List Value} (hcs : cs.length = total) : ∀ (fs : List Field) (off : Nat), layoutOk P total fs off = true → off ≤ total →
    (∀ f ∈ fs, ∃ xs, CellsL γ xs ((cs.drop f.offset).take (P.cellsOf f.type)) ∧ HasC P n f.type xs) →
    ∃ ys, CellsL γ ys (cs.drop off) ∧ ∀ f ∈ fs, off ≤ f.offset ∧ HasC P n f.type ((ys.drop (f.offset - off)).take (P.cellsOf f.type))
  | [], off, hl, hle, _ => by
    simp only [layoutOk, beq_iff_eq] at hl
    refine ⟨[], ⟨by simp; omega, fun j x hx => by simp at hx⟩, fun f hf => by cases hf⟩
  | f :: fs, off, hl, hle, hall => by
    simp only [layoutOk, Bool.and_eq_true, beq_iff_eq] at hl
    obtain ⟨hoff, hl⟩ := hl
    have hmono : ∀ (fs : List Field) off, layoutOk P total fs off = true → off ≤ total := by
      intro fs
      induction fs with
      | nil => intro off h; simp [layoutOk] at h; omega
      | cons g gs ih =>
        intro off h
        simp only [layoutOk, Bool.and_eq_true, beq_iff_eq] at h
        have := ih _ h.2; omega
    have hle' := hmono _ _ hl
    obtain ⟨xs, hx, hxt⟩ := hall f (by simp)
    obtain ⟨ys, hy, hyt⟩ := fields_join hcs fs (off + P.cellsOf f.type) hl hle' (fun g hg => hall g (by simp [hg]))
    have hxl : xs.length = P.cellsOf f.type := by rw [← hx.1, hoff]; simp; omega
    refine ⟨xs ++ ys, ⟨?_, ?_⟩, ?_⟩
    · have := hy.1; simp at this ⊢; omega
    · intro j x hj
      by_cases hlt : j < xs.length
      · rw [List.getElem?_append_left hlt] at hj
        obtain ⟨u, hu, r⟩ := hx.2 j x hj
        refine ⟨u, ?_, r⟩
        rw [List.getElem?_take, hoff] at hu
        rw [if_pos (by omega)] at hu
        exact hu
      · rw [List.getElem?_append_right (by omega)] at hj
        obtain ⟨u, hu, r⟩ := hy.2 _ x hj
        refine ⟨u, ?_, r⟩
        rw [List.getElem?_drop] at hu ⊢
        rw [← hu]; congr 1; omega
    · intro g hg
      rcases List.mem_cons.1 hg with rfl | hg
      · refine ⟨by omega, ?_⟩
        rw [hoff, Nat.sub_self, List.drop_zero, List.take_append_of_le_length (by omega), List.take_of_length_le (by omega)]
        exact hxt
      · obtain ⟨h1, h2⟩ := hyt g hg
        refine ⟨by omega, ?_⟩
        rw [show g.offset - off = xs.length + (g.offset - (off + P.cellsOf f.type)) by omega, ← List.drop_drop, List.drop_left]
        exact h2

theorem gather {Q : Nat → AV → Prop} : ∀ (n : Nat), (∀ i, i < n → ∃ e, Q i e) → ∃ es : List AV, es.length = n ∧ ∀ (i : Nat) e, es[i]? = some e → Q i e
  | 0, _ => ⟨[], rfl, fun i e h => by simp at h⟩
  | n + 1, h => by
    obtain ⟨es, h1, h2⟩ := gather (Q := Q) n (fun i hi => h i (by omega))
    obtain ⟨e, he⟩ := h n (by omega)
    refine ⟨es ++ [e], by simp [h1], fun i e' hi => ?_⟩
    by_cases hlt : i < n
    · rw [List.getElem?_append_left (by omega)] at hi; exact h2 i e' hi
    · rw [List.getElem?_append_right (by omega)] at hi
      obtain ⟨h3, _⟩ := List.getElem?_eq_some_iff.1 hi
      simp at h3
      obtain rfl : i = n := by omega
      simp [h1] at hi; subst hi; exact he

theorem dataS_leaf {P : Program} {S : List TypeId} (hS : dataS P S = true) {t : TypeId} (ht : t ∈ S) :
    match P.underlying t with
    | some .bool => P.cellsOf t = 1
    | some (.int _) => P.cellsOf t = 1
    | some .string => P.cellsOf t = 1
    | some (.slice e) => P.cellsOf t = 1 ∧ e ∈ S
    | some (.struct fs) => (∀ f ∈ fs.toList, f.type ∈ S) ∧ layoutOk P (P.cellsOf t) fs.toList 0 = true
    | _ => False := by
  have := List.all_eq_true.1 hS t ht
  revert this
  split <;> (try simp_all)
  intro h _ f hf
  obtain ⟨i, hi, rfl⟩ := Array.getElem_of_mem hf
  exact h i hi

theorem HasC.leaf {P : Program} {n : Nat} {t : TypeId} {xs : List AV} (h : HasC P n t xs) (ha : aggT P t = false) : ∃ c, xs = [c] ∧ c.cells = [c] := by
  cases n with
  | zero => exact absurd h (by simp [HasC])
  | succ n =>
    unfold HasC at h
    unfold aggT at ha
    split at h
    · obtain ⟨b, rfl⟩ := h; exact ⟨_, rfl, rfl⟩
    · obtain ⟨b, rfl, _⟩ := h; exact ⟨_, rfl, rfl⟩
    · obtain ⟨b, rfl, _⟩ := h; exact ⟨_, rfl, rfl⟩
    · obtain ⟨b, rfl, _⟩ := h; exact ⟨_, rfl, rfl⟩
    · rename_i hu; simp [hu] at ha
    · cases h

theorem cells1 {γ : Nat → Gh} {x : AV} {v : Value} (h1 : v.oneCell' = true) (h : RV γ [] x v) : CellsL γ [x] [v] :=
  ⟨rfl, fun j y hy => by
    cases j with
    | zero => simp at hy; subst hy; exact ⟨v, rfl, h1, h⟩
    | succ j => simp at hy⟩

theorem trod_HasC {H : Type} {enc : TypeId × Value → H} {P : Program} {S : List TypeId} (hS : dataS P S = true) {w : World} {base : Nat} {spare : Nat → Bool} {held : Bool} :
    ∀ (n : Nat) (t : TypeId) (cs : List Value) (x : DataW H × List MemPlace), t ∈ S → DataW.trod enc P w base spare held n t cs = some x →
      ∃ xs, CellsL (roAll w) xs cs ∧ xs.length = P.cellsOf t ∧ HasC P n t xs
  | 0, t, cs, x, _, h => by simp [DataW.trod] at h
  | n + 1, t, cs, x, ht, h => by
    have hd := dataS_leaf hS ht
    cases hu : P.underlying t with
    | none => simp [hu] at hd
    | some T =>
      rw [hu] at hd
      cases T with
      | bool =>
        obtain ⟨b, rfl, _⟩ := DataW.trod_bool hu h
        exact ⟨[.bool b], cells1 rfl (.bool b), hd.symm, by simp [HasC, hu]⟩
      | int k =>
        obtain ⟨i, rfl, _, hw⟩ := DataW.trod_int hu h
        exact ⟨[.int k i], cells1 rfl (.int k i), hd.symm, by simp [HasC, hu, hw]⟩
      | string =>
        obtain ⟨s, rfl, _, hw⟩ := DataW.trod_string hu h
        exact ⟨[.str s], cells1 rfl (.str s), hd.symm, by simp [HasC, hu, hw]⟩
      | slice e =>
        obtain ⟨h1, he⟩ := hd
        rcases DataW.trod_slice hu h with ⟨rfl, _⟩ | ⟨a, len, cap, elems, rest, m, hm, rfl, rfl, hb, hl, hc, hlen, hel, _, _⟩
        · exact ⟨[.sl false []], cells1 rfl (.sl false [] none 0 0 0 (fun _ _ => undef) rfl (Nat.le_refl _) (by simp) (by simp) (by simp) (by simp)), h1.symm, by simp [HasC, hu]⟩
        · obtain rfl : n = m := by omega
          have hspot : 0 < len → 0 < P.cellsOf e → a.spot = none := by
            intro hi hj
            have h2 := hel 0 hi
            rw [List.getElem?_eq_getElem (by omega), Option.bind_eq_some_iff] at h2
            obtain ⟨cs', hcs, hy⟩ := h2
            obtain ⟨_, hcl, hcell⟩ := World.cells?_some hcs
            have h3 := hcell 0 hj
            rw [List.getElem?_eq_getElem (by omega)] at h3
            have := World.cell?_spot h3
            simpa [Addr.add] using this
          have hQ : ∀ i, i < len → ∃ e' : AV, (HasC P n e e'.cells ∧ e'.cells.length = P.cellsOf e ∧ (aggT P e = true → ∃ cs, e' = .agg cs) ∧ (aggT P e = false → ∃ c, e'.cells = [c] ∧ e' = c)) ∧
              ∀ (j : Nat) y, e'.cells[j]? = some y → ∃ u, roCell (roAll w) (some a) (i * P.cellsOf e + j) = some u ∧ u.oneCell' = true ∧ RV (roAll w) [] y u := by
            intro i hi
            have h2 := hel i hi
            rw [List.getElem?_eq_getElem (by omega), Option.bind_eq_some_iff] at h2
            obtain ⟨cs', hcs, hy⟩ := h2
            obtain ⟨xs, hx, hxl, hxt⟩ := trod_HasC hS n e cs' _ he hy
            obtain ⟨_, hcl, hcell⟩ := World.cells?_some hcs
            have key : ∀ (j : Nat) y, xs[j]? = some y → ∃ u, roCell (roAll w) (some a) (i * P.cellsOf e + j) = some u ∧ u.oneCell' = true ∧ RV (roAll w) [] y u := by
              intro j y hj
              obtain ⟨u, hu', h1', hr⟩ := hx.2 j y hj
              have hjl : j < P.cellsOf e := by have := (List.getElem?_eq_some_iff.1 hj).1; omega
              have h3 := hcell j hjl
              rw [hu'] at h3
              refine ⟨u, ?_, h1', hr⟩
              have hs := hspot (by omega) (by omega)
              obtain ⟨b, o, s⟩ := a
              simp only at hs; subst hs
              have e1 : ((Addr.mk b o none).add (i * P.cellsOf e)).add j = ⟨b, o + (i * P.cellsOf e + j), none⟩ := by
                unfold Addr.add; split <;> split <;> simp <;> omega
              rw [e1] at h3
              unfold World.cell? at h3
              split at h3
              · rename_i c _ _ hh
                simp at h3
                simp only [roCell, roAll, hh]
                exact h3
              · cases h3
            cases ha : aggT P e with
            | true => exact ⟨.agg xs, ⟨hxt, hxl, fun _ => ⟨xs, rfl⟩, fun h => nomatch h⟩, key⟩
            | false =>
              obtain ⟨c, rfl, hcc⟩ := hxt.leaf ha
              refine ⟨c, ⟨by rw [hcc]; exact hxt, by rw [hcc]; exact hxl, (fun h => nomatch h), (fun _ => ⟨c, hcc, rfl⟩)⟩, by rw [hcc]; exact key⟩
          obtain ⟨es, hes, hq⟩ := gather len hQ
          have hmem : ∀ e' ∈ es, HasC P n e e'.cells ∧ e'.cells.length = P.cellsOf e ∧ (aggT P e = true → ∃ cs, e' = .agg cs) ∧ (aggT P e = false → ∃ c, e'.cells = [c] ∧ e' = c) := by
            intro e' he'
            obtain ⟨i, hi, rfl⟩ := List.getElem_of_mem he'
            exact (hq i _ (List.getElem?_eq_getElem hi)).1
          have hv : ∀ (i : Nat) e' (j : Nat) y, es[i]? = some e' → e'.cells[j]? = some y → ∃ u, roCell (roAll w) (some a) (i * P.cellsOf e + j) = some u ∧ u.oneCell' = true ∧ RV (roAll w) [] y u :=
            fun i e' j y h1 h2 => (hq i e' h1).2 j y h2
          refine ⟨[.sl false es], cells1 rfl (.sl false es (some a) len cap (P.cellsOf e) (fun i j => (roCell (roAll w) (some a) (i * P.cellsOf e + j)).getD undef) hes.symm hl (fun e' he' => (hmem e' he').2.1) ?_ ?_ ?_), h1.symm, ?_⟩
          · intro i e' j y h1 h2
            obtain ⟨u, hu', _⟩ := hv i e' j y h1 h2
            simp [hu']
          · intro i e' j y h1 h2
            obtain ⟨u, hu', h3, _⟩ := hv i e' j y h1 h2
            simp [hu', h3]
          · intro i e' j y h1 h2
            obtain ⟨u, hu', _, h3⟩ := hv i e' j y h1 h2
            simp [hu', h3]
          · simp only [HasC, hu]
            exact ⟨es, rfl, by omega, hmem⟩
      | struct fs =>
        obtain ⟨h1, h2⟩ := hd
        obtain ⟨xs, m, hm, rfl, hcl, hxl, hf⟩ := DataW.trod_struct hu h
        obtain rfl : n = m := by omega
        obtain ⟨ys, hy, hyt⟩ := fields_join (γ := roAll w) (P := P) (n := n) hcl fs.toList 0 h2 (Nat.zero_le _) (fun f hfm => by
          obtain ⟨i, hi, rfl⟩ := List.getElem_of_mem hfm
          have := hf i fs.toList[i] (by simp at hi; simp [hi])
          rw [List.getElem?_eq_getElem (by simp at hi; omega)] at this
          obtain ⟨zs, hz, _, hzt⟩ := trod_HasC hS n _ _ _ (h1 _ hfm) this
          exact ⟨zs, hz, hzt⟩)
        have hyl : ys.length = P.cellsOf t := by rw [← hy.1, List.drop_zero, hcl]
        refine ⟨ys, by simpa using hy, hyl, ?_⟩
        simp only [HasC, hu]
        exact ⟨hyl, fun f hfm => by simpa using (hyt f hfm).2⟩
      | _ => exact hd.elim

end Go.Proofs.Ytolfjeedgedblaa.K
