/-
  Texts joined in one: K28, K29, K30, GTS, GT1, K16, Facts, F1, F2, F3, F4, F5, F6, F7, F8, F9, F10, F11, F12, F13, F14, F15, F16, F18, F20, I1, I2, PO1, GT2, PO2, GT3.
-/
import Derived.Test.YtllcljajlemmaaaDoorMGaTeB
import Derived.Lib.Builder
import Derived.Lib.UnsafeStr
import Derived.Laws.Externs
import Derived.Laws.BytesArg
import Derived.Below
import Derived.Shelf.Strings.Builder1
import Derived.Shelf.Strings.Builder2
import Derived.Shelf.Strings.OnBuilder
import Derived.Shelf.Strconv.Itoa0
import Derived.Shelf.Strconv.Itoa1
import Derived.Shelf.LaysM
import Derived.Shelf.Strconv.Itoa2
import Derived.Shelf.Strconv.Itoa3
import Derived.Test.YtllcljajlemmaaaDoorProg
/-
  A logic of values for Go's functions (part 28): a loop over a function whose rounds all go on.
-/
namespace Go.Proofs.YtllcljajlemmaaaDoor.K
set_option linter.unusedVariables false
set_option linter.unusedSimpArgs false
open Go Go.RowKit

mutual
/-- Values that hold no yield. -/
def noY : AV → Bool
  | .sl _ es => noYL es
  | .agg cs => noYL cs
  | .tup cs => noYL cs
  | .fn _ cs => noYL cs
  | .rptr c _ => noY c
  | .yld _ _ _ => false
  | _ => true
def noYL : List AV → Bool
  | [] => true
  | x :: xs => noY x && noYL xs
end
theorem noYL_mem {xs : List AV} : noYL xs = true ↔ ∀ x ∈ xs, noY x = true := by
  induction xs with
  | nil => simp [noYL]
  | cons x xs ih => simp [noYL, ih]
theorem noY_cells {x c : AV} (h : noY x = true) (hc : c ∈ x.cells) : noY c = true := by
  cases x <;> first
    | (simp only [AV.cells, List.mem_singleton] at hc; subst hc; exact h)
    | (simp only [AV.cells] at hc; simp only [noY] at h; exact noYL_mem.1 h c hc)
mutual
theorem noY_of : ∀ {x : AV}, pureB x = true → noY x = true
  | .int _ _, _ => rfl
  | .bool _, _ => rfl
  | .str _, _ => rfl
  | .lit _, _ => rfl
  | .junk, _ => rfl
  | .sl _ es, h => by simp only [pureB] at h; simp only [noY]; exact noYL_of h
  | .agg es, h => by simp only [pureB] at h; simp only [noY]; exact noYL_of h
  | .tup es, h => by simp only [pureB] at h; simp only [noY]; exact noYL_of h
  | .fn _ es, h => by simp only [pureB] at h; simp only [noY]; exact noYL_of h
  | .rptr c _, h => by simp only [pureB] at h; simp only [noY]; exact noY_of h
  | .ref .., _ => rfl
  | .ptr .., _ => rfl
  | .eptr .., _ => rfl
  | .map _, _ => rfl
  | .yld .., h => by simp [pureB] at h
theorem noYL_of : ∀ {xs : List AV}, pureL xs = true → noYL xs = true
  | [], _ => rfl
  | x :: xs, h => by
    simp only [pureL, Bool.and_eq_true] at h
    simp only [noYL, noY_of h.1, noYL_of h.2, Bool.and_self]
end
def noYO : AObj → Bool
  | .box _ cs => noYL cs
  | .vec _ _ _ es => noYL es
  | _ => true

theorem noYL_sub : ∀ (p : Pth) (es es' : List AV), noYL es = true → sub es p = some es' → noYL es' = true
  | [], es, es', h, hs => by simp [sub] at hs; subst hs; exact h
  | (i, j) :: p, es, es', h, hs => by
    simp only [sub] at hs
    cases he : es[i]? with
    | none => simp only [he] at hs; cases hs
    | some e =>
      simp only [he] at hs
      cases hc : e.cells[j]? with
      | none => simp only [hc] at hs; cases hs
      | some x =>
        simp only [hc] at hs
        have hx := noY_cells (noYL_mem.1 h e (List.mem_of_getElem? he)) (List.mem_of_getElem? hc)
        cases x with
        | sl own es2 =>
          cases own with
          | true => exact noYL_sub p es2 es' (by simpa [noY] using hx) hs
          | false => cases hs
        | _ => cases hs

/-- Two tellings of memory that agree but for a loop's record. -/
structure AgrY (γ γ' : Nat → Gh) : Prop where
  ro : ∀ b o, γ b = .ro o → (∀ r, o ≠ .loop r) → γ' b = .ro o
  ow : ∀ b id p c, γ' b = .ow id p c ↔ γ b = .ow id p c

theorem AgrY.roCell {γ γ' : Nat → Gh} (h : AgrY γ γ') {A : Option Addr} {k : Nat} {v : Value} (hr : roCell γ A k = some v) : K.roCell γ' A k = some v := by
  unfold K.roCell at *
  split at hr
  · rename_i b o
    split at hr
    · rename_i arr T fr hb
      simp only [h.ro _ _ hb (fun d e => by cases e)]
      exact hr
    · cases hr
  · cases hr

theorem AgrY.refOk {γ γ' : Nat → Gh} (A : AgrY γ γ') {L : List AObj} {id : Nat} {p : Pth} {g n : Nat} {v : Value} (h : RefOk γ L id p g n v) : RefOk γ' L id p g n v := by
  unfold RefOk at *
  split at h
  · obtain ⟨h1, h2⟩ := h
    refine ⟨h1, fun e => ?_⟩
    obtain ⟨es', he, hn, hv⟩ := h2 e
    refine ⟨es', he, hn, ?_⟩
    rcases hv with ⟨h1, h2, h3⟩ | ⟨b, c, h1, h2⟩
    · exact .inl ⟨h1, h2, fun b c hb => h3 b c ((A.ow _ _ _ _).1 hb)⟩
    · exact .inr ⟨b, c, h1, (A.ow _ _ _ _).2 h2⟩
  · exact h
  · exact h

theorem AgrY.eptrOk {γ γ' : Nat → Gh} (A : AgrY γ γ') {L : List AObj} {id : Nat} {p : Pth} {g i off : Nat} {v : Value} (h : EptrOk γ L id p g i off v) : EptrOk γ' L id p g i off v := by
  unfold EptrOk at *
  split at h
  · obtain ⟨h1, h2⟩ := h
    refine ⟨h1, fun e => ?_⟩
    obtain ⟨es', e1, b, c, sz, h3, h4, h5, h6, h7, h8⟩ := h2 e
    exact ⟨es', e1, b, c, sz, h3, h4, h5, h6, h7, (A.ow _ _ _ _).2 h8⟩
  · exact h
  · exact h

theorem RV.agrY {γ γ' : Nat → Gh} (A : AgrY γ γ') {L : List AObj} {x : AV} {v : Value} (h : RV γ L x v) : noY x = true → RV γ' L x v := by
  induction h with
  | int k n => intro _; exact .int k n
  | bool b => intro _; exact .bool b
  | str s => intro _; exact .str s
  | lit v h => intro _; exact .lit v h
  | sl own es A' n c sz vals hn hc hsz h2 h1 h3 ih =>
    intro hy
    simp only [noY] at hy
    exact .sl own es A' n c sz vals hn hc hsz (fun i e j x a b => A.roCell (h2 i e j x a b)) h1 fun i e j x a b => ih i e j x a b (noY_cells (noYL_mem.1 hy e (List.mem_of_getElem? a)) (List.mem_of_getElem? b))
  | agg cs vs hn h1 h ih => intro hy; simp only [noY] at hy; exact .agg cs vs hn h1 fun i x hx => ih i x hx (noYL_mem.1 hy x (List.mem_of_getElem? hx))
  | tup cs vs hn h ih => intro hy; simp only [noY] at hy; exact .tup cs vs hn fun i x hx => ih i x hx (noYL_mem.1 hy x (List.mem_of_getElem? hx))
  | ref id p g n v h h1 => intro _; exact .ref id p g n v (A.refOk h) h1
  | ptr id off b c T cs hL h => intro _; exact .ptr id off b c T cs hL ((A.ow _ _ _ _).2 h)
  | eptr id p g i off v h h1 => intro _; exact .eptr id p g i off v (A.eptrOk h) h1
  | rptr x off b o vals h2 h1 h3 ih => intro hy; simp only [noY] at hy; exact .rptr x off b o vals (fun j y a => A.roCell (h2 j y a)) h1 fun j y a => ih j y a (noY_cells hy (List.mem_of_getElem? a))
  | fn f cs vs hn h ih => intro hy; simp only [noY] at hy; exact .fn f cs vs hn fun i x hx => ih i x hx (noYL_mem.1 hy x (List.mem_of_getElem? hx))
  | map id b c kt vt es hL h => intro _; exact .map id b c kt vt es hL ((A.ow _ _ _ _).2 h)
  | yld l r ts h hts ih => intro hy; simp [noY] at hy
  | junk v => intro _; exact .junk v

theorem BlockRep.agrY {γ γ' : Nat → Gh} (A : AgrY γ γ') {L : List AObj} {o : Obj} {id : Nat} {p : Pth} {c : Nat} (hy : L.all noYO = true) (h : BlockRep γ L o id p c) : BlockRep γ' L o id p c := by
  unfold BlockRep at *
  split at h
  · rename_i T cs hL
    have hy := List.all_eq_true.1 hy _ (List.mem_of_getElem? hL)
    obtain ⟨h1, arr, h2, h3, h4⟩ := h
    refine ⟨h1, arr, h2, h3, fun j x hx => ?_⟩
    obtain ⟨v, a, b, c⟩ := h4 j x hx
    exact ⟨v, a, b, c.agrY A (noYL_mem.1 hy x (List.mem_of_getElem? hx))⟩
  · rename_i T sz g es hL
    have hy := List.all_eq_true.1 hy _ (List.mem_of_getElem? hL)
    obtain ⟨es', s, arr, T', h1, h2, h3, h4, h5, h6, h7⟩ := h
    have hy' := noYL_sub _ _ _ hy h1
    refine ⟨es', s, arr, T', h1, h2, h3, h4, h5, h6, h7.1, fun i e j x hi hj => ?_⟩
    obtain ⟨v, a, b, c⟩ := h7.2 i e j x hi hj
    refine ⟨v, a, b, ?_⟩
    have hx : noY x = true := noY_cells (noYL_mem.1 hy' e (List.mem_of_getElem? hi)) (List.mem_of_getElem? hj)
    unfold CV at *
    split at c
    · rcases c with ⟨h1, h2, h3⟩ | ⟨b, c, h1, h2⟩
      · exact .inl ⟨h1, h2, fun b c hb => h3 b c ((A.ow _ _ _ _).1 hb)⟩
      · exact .inr ⟨b, c, h1, (A.ow _ _ _ _).2 h2⟩
    · exact c.agrY A hx
  · exact h
  · exact h

theorem newG_same (γ : Nat → Gh) (n : Nat) (g : Gh) : newG γ n g n = g := by simp [newG]
theorem newG_other {γ : Nat → Gh} {n b : Nat} {g : Gh} (h : b ≠ n) : newG γ n g b = γ b := by simp [newG, h]

theorem agrY_hush {γ : Nat → Gh} {l : Nat} {r : Loop} (h : γ l = .ro (.loop r)) : AgrY γ (newG γ l .out) := by
  refine ⟨fun b o hb hn => ?_, fun b id p c => ?_⟩
  · have hne : b ≠ l := fun e => by rw [e, h] at hb; cases hb; exact hn _ rfl
    rw [newG_other hne]; exact hb
  · by_cases hne : b = l
    · subst hne; rw [newG_same, h]; exact ⟨fun h => (by cases h), fun h => (by cases h)⟩
    · rw [newG_other hne]

theorem agr_wake {γ : Nat → Gh} {l : Nat} {r : Loop} (h : γ l = .out) : Agr γ (newG γ l (.ro (.loop r))) := by
  refine ⟨fun b o hb hn => ?_, fun b id p c => ?_⟩
  · have hne : b ≠ l := fun e => by rw [e, h] at hb; cases hb
    rw [newG_other hne]; exact hb
  · by_cases hne : b = l
    · subst hne; rw [newG_same, h]; exact ⟨fun h => (by cases h), fun h => (by cases h)⟩
    · rw [newG_other hne]

theorem BlockRep.noLoop {γ : Nat → Gh} {L : List AObj} {o : Obj} {id : Nat} {p : Pth} {c : Nat} (h : BlockRep γ L o id p c) : ∀ x, o ≠ .loop x := by
  intro x e
  subst e
  unfold BlockRep at h
  split at h
  · obtain ⟨_, _, h, _⟩ := h; cases h
  · obtain ⟨_, _, _, _, _, h, _⟩ := h; cases h
  · obtain ⟨_, _, _, h, _⟩ := h; cases h
  · exact h

/-- The record is not looked at any more; it may turn. -/
theorem Inv.hush {γ : Nat → Gh} {L : List AObj} {w w' : World} {l : Nat} {r : Loop} (h : Inv γ L w) (hl : γ l = .ro (.loop r)) (hy : L.all noYO = true) (hw : ∀ b : Nat, b ≠ l → w'.heap[b]? = w.heap[b]?) :
    Inv (newG γ l .out) L w' := by
  have A := agrY_hush hl
  have ne : ∀ {b id p c}, γ b = .ow id p c → b ≠ l := fun hb e => by rw [e, hl] at hb; cases hb
  refine ⟨fun b o hb => ?_, fun b id p c hb => ?_, fun b b' id p c c' h1 h2 => h.inj b b' id p c c' ((A.ow _ _ _ _).1 h1) ((A.ow _ _ _ _).1 h2), fun id T cs hL => ?_, fun id kt vt es hL => ?_⟩
  · have hne : b ≠ l := fun e => by rw [e, newG_same] at hb; cases hb
    rw [newG_other hne] at hb
    rw [hw b hne]; exact h.ro b o hb
  · have hb := (A.ow _ _ _ _).1 hb
    obtain ⟨o, ho, hr⟩ := h.ow b id p c hb
    exact ⟨o, by rw [hw b (ne hb)]; exact ho, hr.agrY A hy⟩
  · obtain ⟨b, c, hb⟩ := h.box id T cs hL; exact ⟨b, c, (A.ow _ _ _ _).2 hb⟩
  · obtain ⟨b, c, hb⟩ := h.map id kt vt es hL; exact ⟨b, c, (A.ow _ _ _ _).2 hb⟩

/-- The record is known again. -/
theorem Inv.wake {γ : Nat → Gh} {L : List AObj} {w w' : World} {l : Nat} {r : Loop} (h : Inv γ L w) (hl : γ l = .out) (hw : ∀ b : Nat, b ≠ l → w'.heap[b]? = w.heap[b]?) (hr : w'.heap[l]? = some (.loop r)) :
    Inv (newG γ l (.ro (.loop r))) L w' := by
  have A : Agr γ (newG γ l (.ro (.loop r))) := agr_wake hl
  have ne : ∀ {b id p c}, γ b = .ow id p c → b ≠ l := fun hb e => by rw [e, hl] at hb; cases hb
  refine ⟨fun b o hb => ?_, fun b id p c hb => ?_, fun b b' id p c c' h1 h2 => h.inj b b' id p c c' ((A.ow _ _ _ _).1 h1) ((A.ow _ _ _ _).1 h2), fun id T cs hL => ?_, fun id kt vt es hL => ?_⟩
  · by_cases hne : b = l
    · subst hne; rw [newG_same] at hb; cases hb; exact hr
    · rw [newG_other hne] at hb
      rw [hw b hne]; exact h.ro b o hb
  · have hb := (A.ow _ _ _ _).1 hb
    obtain ⟨o, ho, hr⟩ := h.ow b id p c hb
    exact ⟨o, by rw [hw b (ne hb)]; exact ho, hr.agr A⟩
  · obtain ⟨b, c, hb⟩ := h.box id T cs hL; exact ⟨b, c, (A.ow _ _ _ _).2 hb⟩
  · obtain ⟨b, c, hb⟩ := h.map id kt vt es hL; exact ⟨b, c, (A.ow _ _ _ _).2 hb⟩

/-- A block that is not known turns. -/
theorem Inv.idle {γ : Nat → Gh} {L : List AObj} {w w' : World} {l : Nat} (h : Inv γ L w) (hl : γ l = .out) (hw : ∀ b : Nat, b ≠ l → w'.heap[b]? = w.heap[b]?) : Inv γ L w' := by
  refine ⟨fun b o hb => ?_, fun b id p c hb => ?_, h.inj, h.box, h.map⟩
  · rw [hw b (fun e => by rw [e, hl] at hb; cases hb)]; exact h.ro b o hb
  · obtain ⟨o, ho, hr⟩ := h.ow b id p c hb
    exact ⟨o, by rw [hw b (fun e => by rw [e, hl] at hb; cases hb)]; exact ho, hr⟩

/-- The round's variables are laid into the record's. -/
def setP (ps : List Tmp) (xs : List AV) (s : St) : St := (ps.zip xs).foldl (fun s q => s.put (some q.1) q.2) s

theorem setP_L : ∀ (ps : List Tmp) (xs : List AV) (s : St), (setP ps xs s).L = s.L
  | [], _, _ => rfl
  | _ :: _, [], _ => rfl
  | p :: ps, x :: xs, s => by
    show (setP ps xs (s.put (some p) x)).L = s.L
    rw [setP_L ps xs]; rfl

theorem Rel.setP {γ : Nat → Gh} {w : World} : ∀ (ps : List Tmp) (xs : List AV) (vs : List Value) (s : St) (a : Act), xs.length = vs.length → (∀ (i : Nat) x, xs[i]? = some x → RV γ s.L x (vs.getD i undef)) → Rel γ s a w →
    Rel γ (setP ps xs s) { a with tmps := (ps.zip vs).foldl (fun t q => t.setIfInBounds q.1 q.2) a.tmps } w
  | [], xs, vs, s, a, hl, hv, hr => hr
  | p :: ps, [], [], s, a, hl, hv, hr => hr
  | p :: ps, [], v :: vs, s, a, hl, hv, hr => by simp at hl
  | p :: ps, x :: xs, [], s, a, hl, hv, hr => by simp at hl
  | p :: ps, x :: xs, v :: vs, s, a, hl, hv, hr => by
    have h1 := hr.put (some p) (hv 0 x rfl)
    exact Rel.setP ps xs vs (s.put (some p) x) (a.put (some p) v) (by simpa using hl) (fun i y hy => by rw [St.put_L]; exact hv (i + 1) y hy) h1

/-- What a call of yield does: a round of the loop whose record is 'r', which goes on. -/
def YC (P : Program) (l : Nat) (r : Loop) (ts : List AV) (args : List AV) (L L' : List AObj) : Prop :=
  args.length = r.params.size ∧ ∀ γ w vs, γ l = .ro (.loop r) → Inv γ L w → (∀ (i : Nat) x, ts[i]? = some x → RV γ L x (r.tmps.getD i undef)) → ArgsR γ L args vs → ∀ ro,
    RoundIn (FW ro) 0 P l r.fn ((r.params.zip vs).foldl (fun t (p, v) => t.setIfInBounds p v) r.tmps) r.assign r.body w fun e w' =>
      e = .returned (.bool true) ∧ ∃ γ', Inv γ' L' w' ∧ Ext γ L γ' L' ∧ Stp γ w γ' w'

theorem yield_sound {P : Program} {o : Oper} {s : St} {l : Nat} {r : Loop} {ts : List AV} {args : Array Operand} {ats : Array TypeId} {x : Operand} {L' : List AObj}
    (ho : o.op = .call { callee := .value x, args := args, argTypes := ats }) (hx : s.ev x = .yld l r ts)
    (h : YC P l r ts (args.toList.map s.ev) s.L L') : OpS P o s ({ s with L := L' }.put o.dst (.bool true)) := by
  intro γ a w K Q hr hK
  have hxv := hr.ev x
  rw [hx] at hxv
  generalize hxe : a.eval x = v at hxv
  cases hxv with
  | yld _ _ _ hl hts =>
    have hh := hr.inv.ro _ _ hl
    have hsz : (args.map a.eval).size = r.params.size := by rw [← h.1]; simp
    have hrun : (execOp a.eval o).run P w = .ok (.round l r.fn ((r.params.zip (args.map a.eval)).foldl (fun t (p, v) => t.setIfInBounds p v) r.tmps) r.assign r.body) w := by
      unfold execOp
      rw [ho]
      have := run_yield (P := P) hh hsz
      simp [resolve, hxe, Deferred.ofValue, invoke, this]
    refine .inr ⟨_, _, _, _, _, _, hrun, fun ro => RoundIn.mono (h.2 γ w _ hl hr.inv hts ⟨by simp, fun i y hy => ?_⟩ ro) ?_⟩
    · simp only [List.getElem?_map, Option.map_eq_some_iff] at hy
      obtain ⟨z, hz, rfl⟩ := hy
      have hlt := (List.getElem?_eq_some_iff.1 hz).1
      simp at hlt
      have hz' : args[i] = z := by simpa [hlt] using hz
      simp [Array.getD, hlt, hz']
      exact hr.ev z
    · rintro e w' ⟨rfl, γ', hI, hE, hS⟩
      exact ⟨_, rfl, hK γ' _ w' ((hr.mono hE hI).put o.dst (.bool true)) (by rw [St.put_L]; exact hE) hS⟩

theorem RunL.cally {P : Program} {k : Oper → Knd} {ops : Array Oper} {K : St → Prop} {o : Oper} {rest : List Oper} {s : St} {x : Operand} {l : Nat} {r : Loop} {ts : List AV} {args : Array Operand} {ats : Array TypeId} {L' : List AObj}
    (hg : guardA ops s o = some true) (ho : o.op = .call { callee := .value x, args := args, argTypes := ats }) (hc : s.ev x = .yld l r ts) (hkd : Knd.le .C (k o) = true) (hal : isAlloc k o = false ∨ ∃ X, L' = s.L ++ X)
    (h : YC P l r ts (args.toList.map s.ev) s.L L') (hk : R P k ops rest ({ s with L := L' }.put o.dst (.bool true)) K) : RunL P k ops (o :: rest) s K := by
  refine .op ⟨.C, .bool true, L'⟩ hkd ⟨⟨fun h _ => hal.resolve_left (by rw [h]; exact fun e => (nomatch e)), fun h => (nomatch h)⟩, fun s1 ha hL => ⟨by rw [agree_guard ha]; exact hg, ?_⟩⟩ (R.sound hk)
  have he : args.toList.map s1.ev = args.toList.map s.ev :=
    map_congr_ev fun y hy => agree_ev ha (by rw [ho]; simp [Op.operands, Call.operands]; exact .inr (by simpa using hy))
  have hx1 : s1.ev x = .yld l r ts := by rw [agree_ev ha (by rw [ho]; simp [Op.operands, Call.operands])]; exact hc
  have hL : s1.L = s.L := hL
  exact yield_sound (P := P) (s := s1) ho hx1 (by rw [he, hL]; exact h)

/-- **A loop over a function, whose rounds all go on**: 'Ls k' is what the call owns when k rounds are over, 'xs k' what the k-th round is handed. -/
theorem AWp.range {P : Program} {g : Operand} {params : Array Tmp} {assign body : Code} {Q : Exit → St → Prop} {s : St} {F : FuncId} {cap : List AV} {z : AV} (hg : s.ev g = .fn F cap) (hF : okFn P F = true)
    (hpl : plainC assign = true ∧ plainC body = true) (n : Nat) (Ls : Nat → List AObj) (xs : Nat → List AV) (h0 : s.L = Ls 0) (hlen : ∀ k, k < n → (xs k).length = params.size)
    (hny : ∀ k, k ≤ n → (Ls k).all noYO = true) (hnt : noYL s.t = true) (hnx : ∀ k, k < n → noYL (xs k) = true)
    (hit : ∀ l r ts, (∀ k, k < n → YC P l r ts (xs k) (Ls k) (Ls (k + 1))) → Ct P F (.yld l r ts :: cap) (Ls 0) z (Ls n))
    (hround : ∀ k, k < n → AWp P assign (ExThen (AWp P body fun e s' => e = .normal ∧ s'.L = Ls (k + 1)) fun _ _ => False) (setP params.toList (xs k) ⟨s.t, Ls k⟩))
    (hQ : Q .normal ⟨s.t, Ls n⟩) : AWp P (.rangeFunc g params assign body) Q s := by
  intro ro γ a w hp hr
  have hro : ro = none := hp.resolve_right (by simp [plainC])
  subst hro
  refine wpIn_rangeFunc ?_
  intro fn _
  have hgv := hr.ev g
  rw [hg] at hgv
  generalize hge : a.eval g = gv at hgv
  cases hgv with
  | fn _ _ vcap hnc hcap =>
  obtain ⟨rec, hrec⟩ : ∃ rec : Loop, rec = { state := .ready, pending := none, fn, tmps := a.tmps, params, assign, body, defers := w.heap.size } := ⟨_, rfl⟩
  have hD : γ w.heap.size = .out := hr.inv.out (Nat.le_refl _)
  obtain ⟨E1, I1, S1⟩ := hr.inv.allocRo (.deferred (some []))
  generalize hγ1 : newG γ w.heap.size (.ro (.deferred (some []))) = γ1 at E1 I1 S1
  obtain ⟨E2, I2, S2⟩ := I1.allocRo (.loop rec)
  have hsz1 : (w.alloc (.deferred (some []))).heap.size = w.heap.size + 1 := by rw [World.size_alloc]
  rw [hsz1] at E2 I2 S2
  generalize hγ2 : newG γ1 (w.heap.size + 1) (.ro (.loop rec)) = γ2 at E2 I2 S2
  have hl2 : γ2 (w.heap.size + 1) = .ro (.loop rec) := by rw [← hγ2, newG_same]
  have hD2 : γ2 w.heap.size = .ro (.deferred (some [])) := by rw [← hγ2, newG_other (by omega), ← hγ1, newG_same]
  have E := E1.trans E2
  have S := S1.trans S2
  have hts : ∀ (i : Nat) x, s.t[i]? = some x → RV γ2 s.L x (rec.tmps.getD i undef) := fun i x hx => by rw [hrec]; exact (hr.tmps i x hx).mono E
  obtain ⟨W2, hW2⟩ : ∃ W2, W2 = (w.alloc (.deferred (some []))).alloc (.loop rec) := ⟨_, rfl⟩
  rw [← hW2] at I2 S2 S
  have hent : (Instr.enterLoop fn a.tmps params assign body none).run P w = .ok (w.heap.size + 1, [{ target := .collected w.heap.size, args := #[] }]) W2 := by
    rw [hW2, hrec]; exact run_enterLoop_outer _ _ _ _ _
  refine ⟨w.heap.size + 1, [{ target := .collected w.heap.size, args := #[] }], W2, { target := .fn (.func F) vcap, args := #[.func (.yield (w.heap.size + 1)) #[] #[]] }, W2, F,
    #[.func (.yield (w.heap.size + 1)) #[] #[]] ++ vcap, W2, hent, ?_, fun _ _ => trivial, ?_, fun h => (by simp [FW] at h), ?_⟩
  · simp [resolve, hge, Deferred.ofValue]
    rfl
  · simp [invoke, run_callFunc hF]
  have hyc : ∀ k, k < n → YC P (w.heap.size + 1) rec s.t (xs k) (Ls k) (Ls (k + 1)) := by
    intro k hk
    refine ⟨by rw [hrec]; exact hlen k hk, fun γ w' vs hl hI ht ha ro => ?_⟩
    generalize hln : w.heap.size + 1 = l at *
    have hh := hI.ro _ _ hl
    have hlt : l < w'.heap.size := (Array.getElem?_eq_some_iff.1 hh).1
    have A := agrY_hush hl
    have hyk := hny k (by omega)
    have hyk1 := hny (k + 1) (by omega)
    have hIb : Inv (newG γ l .out) (Ls k) w' := hI.hush hl hyk fun b _ => rfl
    have hr0 : Rel (newG γ l .out) ⟨s.t, Ls k⟩ { tmps := rec.tmps, defers := [] } w' := ⟨.nil, by rw [hrec]; exact hr.size, fun i x hx => (ht i x hx).agrY A (noYL_mem.1 hnt x (List.mem_of_getElem? hx)), hIb⟩
    have hr1 := Rel.setP params.toList (xs k) vs.toList _ _ (by simp [ha.1]) (fun i x hx => by
      have := ha.2 i x hx
      have e : vs.toList.getD i undef = vs.getD i undef := by simp [List.getD_eq_getElem?_getD, Array.getD_eq_getD_getElem?]
      rw [e]
      exact this.agrY A (noYL_mem.1 (hnx k hk) x (List.mem_of_getElem? hx))) hr0
    have hfold : (rec.params.zip vs).foldl (fun t (p, v) => t.setIfInBounds p v) rec.tmps = (params.toList.zip vs.toList).foldl (fun t q => t.setIfInBounds q.1 q.2) rec.tmps := by
      rw [← Array.foldl_toList, Array.toList_zip, hrec]
    rw [hfold]
    have hfn : rec.fn = fn := by rw [hrec]
    have ha1 : rec.assign = assign := by rw [hrec]
    have hb1 : rec.body = body := by rw [hrec]
    rw [ha1, hb1]
    refine roundIn_of_wpIn trivial ?_
    refine wpIn_mono (hround k hk (some l) _ _ w' (.inr hpl.1) hr1) ?_
    rintro e a1 w1 ⟨γ1', s1, r1, e1, st1, q1⟩
    have hLs : (setP params.toList (xs k) ⟨s.t, Ls k⟩).L = Ls k := setP_L _ _ _
    rw [hLs] at e1
    cases e with
    | normal =>
      have hl1 := st1.out l hlt (newG_same _ _ _)
      have hh1 : w1.heap[l]? = some (.loop rec) := hl1.2.trans hh
      have hlt1 : l < w1.heap.size := (Array.getElem?_eq_some_iff.1 hh1).1
      refine ⟨_, run_beginRound hh1 (by rw [hrec]), ?_⟩
      have hw2 : ∀ (o : Obj) (w : World) (b : Nat), b ≠ l → (w.putObj l o).heap[b]? = w.heap[b]? := fun o w b hb => World.putObj_heap_other hb
      have r2 : Rel γ1' s1 a1 (w1.putObj l (.loop { rec with state := .busy })) := ⟨r1.defers, r1.size, r1.tmps, r1.inv.idle hl1.1 (hw2 _ _)⟩
      refine wpIn_mono (q1 (some l) γ1' a1 _ (.inr hpl.2) r2) ?_
      rintro e3 a3 w3 ⟨γ3, s3, r3, e3', st3, rfl, hL3⟩
      have hl3 := st3.out l (by rw [World.putObj_size]; exact hlt1) hl1.1
      have hh3 : w3.heap[l]? = some (.loop { rec with state := .busy }) := hl3.2.trans (World.putObj_heap_same hlt1)
      have hend := run_endRound (P := P) (none : Option Code) hh3
      refine ⟨_, _, hend, rfl, newG γ3 l (.ro (.loop rec)), ?_, ?_, ?_⟩
      · have hI3 := r3.inv
        rw [hL3] at hI3
        refine hI3.wake hl3.1 (hw2 _ _) ?_
        rw [World.putObj_heap_same (Array.getElem?_eq_some_iff.1 hh3).1, hrec]; rfl
      · have e13 := e1.trans e3'
        rw [hL3] at e13
        have A3 : Agr γ3 (newG γ3 l (.ro (.loop rec))) := agr_wake hl3.1
        refine ⟨fun b o hb => ?_, e13.ob, fun b id p c hb => ?_, fun id T sz g es T' sz' es' hL hL' p e4 he b c hb => (A.ow _ _ _ _).1 (e13.nil id T sz g es T' sz' es' hL hL' p e4 he b c ((A3.ow _ _ _ _).1 hb))⟩
        · by_cases hbl : b = l
          · subst hbl; rw [hl] at hb; cases hb; exact newG_same _ _ _
          · rw [newG_other hbl]; exact e13.ro b o (by rw [newG_other hbl]; exact hb)
        · exact (e13.lab b id p c ((A.ow _ _ _ _).2 hb)).imp (fun k => (A3.ow _ _ _ _).2 k) (fun k => k)
      · refine ⟨st3.os.trans st1.os, st3.tape.trans st1.tape, st3.output.trans st1.output, ?_, fun b o hb => ?_, fun b hb ho => ?_⟩
        · have h1 := st1.size
          have h2 := st3.size
          rw [World.putObj_size] at h2
          rw [World.putObj_size]; omega
        · by_cases hbl : b = l
          · subst hbl; rw [hl] at hb; cases hb; exact newG_same _ _ _
          · rw [newG_other hbl]; exact e3'.ro b o (e1.ro b o (by rw [newG_other hbl]; exact hb))
        · have hbl : b ≠ l := fun e => by rw [e, hl] at ho; cases ho
          obtain ⟨k1, k2⟩ := st1.out b hb (by rw [newG_other hbl]; exact ho)
          obtain ⟨k3, k4⟩ := st3.out b (by rw [World.putObj_size]; have := st1.size; omega) k1
          refine ⟨by rw [newG_other hbl]; exact k3, ?_⟩
          rw [hw2 _ _ b hbl, k4, hw2 _ _ b hbl, k2]
    | ret => exact q1.elim
    | exit id => exact q1.elim
    | goto id => exact q1.elim
    | panic c => exact q1.elim
    | outgrown => exact q1.elim
  have hct := hit (w.heap.size + 1) rec s.t hyc
  rw [h0] at I2 E2 E hts
  have hargs : ArgsR γ2 (Ls 0) (.yld (w.heap.size + 1) rec s.t :: cap) (#[.func (.yield (w.heap.size + 1)) #[] #[]] ++ vcap) := by
    refine ⟨by simp [hnc]; omega, fun i x hx => ?_⟩
    cases i with
    | zero =>
      simp only [List.getElem?_cons_zero, Option.some.injEq] at hx
      subst hx
      have : (#[Value.func (.yield (w.heap.size + 1)) #[] #[]] ++ vcap).getD 0 undef = .func (.yield (w.heap.size + 1)) #[] #[] := by simp [Array.getD_eq_getD_getElem?, Array.getElem?_append]
      rw [this]
      exact .yld _ _ _ hl2 hts
    | succ i =>
      simp only [List.getElem?_cons_succ] at hx
      have hv := hcap i x hx
      have : (#[Value.func (.yield (w.heap.size + 1)) #[] #[]] ++ vcap).getD (i + 1) undef = vcap.getD i undef := by
        simp [Array.getD_eq_getD_getElem?, Array.getElem?_append]
      rw [this]
      rw [h0] at hv
      exact hv.mono E
  refine (callsIn_FW (hct γ2 _ _ I2 hargs)).mono ?_
  rintro e w3 ⟨γ3, v, rfl, I3, _, E3, S3⟩
  have hl3 : γ3 (w.heap.size + 1) = .ro (.loop rec) := E3.ro _ _ hl2
  have hD3 : γ3 w.heap.size = .ro (.deferred (some [])) := E3.ro _ _ hD2
  have hh3 := I3.ro _ _ hl3
  have hend := run_endLoop (P := P) hh3 (by rw [hrec]; simp)
  have hpe : rec.pending = none := by rw [hrec]
  rw [hpe] at hend
  refine ⟨none, _, hend, newG γ3 (w.heap.size + 1) .out, ⟨s.t, Ls n⟩, ?_, ?_, ?_, hQ⟩
  · have E4 := E.trans E3
    have A := agrY_hush hl3
    refine ⟨?_, hr.size, fun i x hx => ?_, I3.hush hl3 (hny n (Nat.le_refl _)) fun b hb => World.putObj_heap_other hb⟩
    · obtain ⟨rs, h1, h2, h3⟩ := hr.defers
      have hlt : ∀ r ∈ rs, r < w.heap.size := fun r hm => (Array.getElem?_eq_some_iff.1 (hr.inv.ro _ _ (h3 r hm))).1
      refine ⟨w.heap.size :: rs, List.nodup_cons.2 ⟨fun hm => by have := hlt _ hm; omega, h1⟩, by rw [List.map_cons, ← h2]; rfl, fun r hm => ?_⟩
      rcases List.mem_cons.1 hm with rfl | hm
      · rw [newG_other (by omega)]; exact hD3
      · have := hlt r hm
        rw [newG_other (by omega)]; exact E4.ro _ _ (h3 r hm)
    · have hv := hr.tmps i x hx
      rw [h0] at hv
      exact (hv.mono E4).agrY A (noYL_mem.1 hnt x (List.mem_of_getElem? hx))
  · have E4 := E.trans E3
    have A := agrY_hush hl3
    refine ⟨fun b o hb => ?_, by rw [h0]; exact E4.ob, fun b id p c hb => ?_, fun id T sz g es T' sz' es' hL hL' p e4 he b c hb => ?_⟩
    · have hlt := (Array.getElem?_eq_some_iff.1 (hr.inv.ro _ _ hb)).1
      rw [newG_other (by omega)]; exact E4.ro b o hb
    · rw [h0]; exact (E4.lab b id p c hb).imp (fun k => (A.ow _ _ _ _).2 k) (fun k => k)
    · rw [h0] at hL; exact E4.nil id T sz g es T' sz' es' hL hL' p e4 he b c ((A.ow _ _ _ _).1 hb)
  · have S4 := S.trans S3
    refine ⟨S4.os, S4.tape, S4.output, by rw [World.putObj_size]; exact S4.size, fun b o hb => ?_, fun b hb ho => ?_⟩
    · have hlt := (Array.getElem?_eq_some_iff.1 (hr.inv.ro _ _ hb)).1
      rw [newG_other (by omega)]; exact S4.ro b o hb
    · obtain ⟨k1, k2⟩ := S4.out b hb ho
      rw [newG_other (by omega)]
      exact ⟨k1, (World.putObj_heap_other (by omega)).trans k2⟩

end Go.Proofs.YtllcljajlemmaaaDoor.K
/-
  A logic of values for Go's functions (part 29): pointers compared; a pointer turned to unsafe.Pointer and back; the bytes of a row as a string.
-/
namespace Go.Proofs.YtllcljajlemmaaaDoor.K
set_option linter.unusedVariables false
set_option linter.unusedSimpArgs false
open Go Go.RowKit
set_option maxRecDepth 8000

/-- One operation, told where nothing that is owned has changed. -/
theorem RunL.opC {P : Program} {k : Oper → Knd} {ops : Array Oper} {K : St → Prop} {o : Oper} {rest : List Oper} {s : St} {x : AV} {L' : List AObj}
    (hg : guardA ops s o = some true) (hkd : Knd.le .C (k o) = true) (hal : isAlloc k o = false)
    (h : ∀ s1 : St, s1.L = s.L → (∀ y ∈ o.op.operands, s1.ev y = s.ev y) → OpS P o s1 ({ s1 with L := L' }.put o.dst x)) (hk : R P k ops rest ({ s with L := L' }.put o.dst x) K) : RunL P k ops (o :: rest) s K := by
  refine .op ⟨.C, x, L'⟩ hkd ⟨⟨fun h _ => absurd h (by rw [hal]; exact Bool.false_ne_true), fun h => (nomatch h)⟩, fun s1 ha hL => ⟨by rw [agree_guard ha]; exact hg, ?_⟩⟩ (R.sound hk)
  exact h s1 hL fun y hy => agree_ev ha hy

theorem ptr_eqGuard {P : Program} {T : TypeId} (w : World) (ox oy : Operand) (op : BinOp) (a b : Option Addr) (hop : op = .eql ∨ op = .neq) : (eqGuard op T ox oy (.pointer a) (.pointer b)).run P w = .ok () w := by
  unfold eqGuard
  rcases hop with rfl | rfl <;> simp
theorem run_eqNil {P : Program} {T e : TypeId} (w : World) (ht : P.underlying T = some (.pointer e)) (a : Option Addr) (ox oy : Operand) :
    (do eqGuard .eql T ox oy (.pointer a) (.pointer none); binOp .eql T (.pointer a) (.pointer none) : Sem Value).run P w = .ok (.bool a.isNone) w := by
  have h1 : (Op.equalIn (9999 + 1) T (.pointer a) (.pointer none)).run P w = .ok a.isNone w := by
    unfold Op.equalIn
    simp only [Sem.run_bind, run_underlying ht, Result.andThen_ok]
    cases a <;> simp
  have he : Op.equal T (.pointer a) (.pointer none) = Op.equalIn Op.maxDepth T (.pointer a) (.pointer none) := rfl
  have hd : Op.maxDepth = 9999 + 1 := rfl
  rw [hd] at he
  simp only [Sem.run_bind, ptr_eqGuard w ox oy .eql a none (.inl rfl), Result.andThen_ok, binOp]
  rw [he]
  generalize Op.equalIn (9999 + 1) T (.pointer a) (.pointer none) = m at *
  simp [h1]

theorem eqNil_sound {P : Program} {o : Oper} {s : St} {T T2 e : TypeId} {x : Operand} {b : Bool} (ho : o.op = .binOp .eql T x (.const (.pointer none)) T2) (ht : P.underlying T = some (.pointer e))
    (hx : (s.ev x = .lit (.pointer none) ∧ b = true) ∨ ((∃ id off, s.ev x = .ptr id off) ∧ b = false)) : OpS P o s ({ s with L := s.L }.put o.dst (.bool b)) := by
  refine OpS.pure fun γ a w hr => ⟨.bool b, ?_, .bool b⟩
  have hv := hr.ev x
  have hc : a.eval (.const (.pointer none)) = .pointer none := rfl
  have key : ∃ q : Option Addr, a.eval x = .pointer q ∧ q.isNone = b := by
    rcases hx with ⟨hx, rfl⟩ | ⟨⟨id, off, hx⟩, rfl⟩
    · rw [hx] at hv
      generalize a.eval x = u at hv
      cases hv
      exact ⟨none, rfl, rfl⟩
    · rw [hx] at hv
      generalize a.eval x = u at hv
      cases hv
      exact ⟨_, rfl, rfl⟩
  obtain ⟨q, hq, hb⟩ := key
  have := run_eqNil (P := P) w ht q x (.const (.pointer none))
  unfold execOp
  rw [ho]
  simp only [hq, hc]
  simp only [Sem.run_bind] at this ⊢
  rw [hb] at this
  simp [this]

theorem neqSame_sound {P : Program} {o : Oper} {s : St} {T T2 e : TypeId} {x y : Operand} {id off : Nat} (ho : o.op = .binOp .neq T x y T2) (ht : P.underlying T = some (.pointer e)) (hi : (P.info? e).isSome = true)
    (hx : s.ev x = .ptr id off) (hy : s.ev y = .ptr id off) : OpS P o s ({ s with L := s.L }.put o.dst (.bool false)) := by
  refine OpS.pure fun γ a w hr => ⟨.bool false, ?_, .bool false⟩
  obtain ⟨j, hj⟩ := Option.isSome_iff_exists.1 hi
  have hv := hr.ev x
  have hu := hr.ev y
  rw [hx] at hv
  rw [hy] at hu
  generalize hxe : a.eval x = v at hv
  generalize hye : a.eval y = u at hu
  cases hv with
  | ptr _ _ b c T1 cs hL hb =>
    cases hu with
    | ptr _ _ b2 c2 T2 cs2 hL2 hb2 =>
      have hbb := hr.inv.inj _ _ _ _ _ _ hb hb2
      subst hbb
      have h1 := Lib.run_neq_ptr_same w ⟨b, off, none⟩ ht hj
      have h2 := ptr_eqGuard (P := P) (T := T) w x y .neq (some ⟨b, off, none⟩) (some ⟨b, off, none⟩) (.inr rfl)
      unfold execOp
      rw [ho]
      simp only [hxe, hye, Sem.run_bind, h2, Result.andThen_ok, h1]
      rfl

theorem Inv.shape {γ : Nat → Gh} {L : List AObj} {w : World} (h : Inv γ L w) {id b c : Nat} {T : TypeId} {cs : List AV} (hL : L[id]? = some (.box T cs)) (hb : γ b = .ow id [] c) :
    w.shape? b = some (T, cs.length) := by
  obtain ⟨o, ho, hr⟩ := h.ow b id [] c hb
  unfold BlockRep at hr
  rw [hL] at hr
  obtain ⟨_, arr, rfl, hs, _⟩ := hr
  simp [World.shape?, ho, hs]

theorem toUnsafe_sound {P : Program} {o : Oper} {s : St} {src dst t : TypeId} {x : Operand} {id off : Nat} {T : TypeId} {cs : List AV} (ho : o.op = .convert src dst x) (hs : P.underlying src = some (.pointer t)) (hd : P.underlying dst = some .unsafePointer)
    (ht : (P.info? t).isSome = true) (h0 : P.cellsOf t ≠ 0) (hx : s.ev x = .ptr id off) (hL : s.L[id]? = some (.box T cs)) (hoff : off < cs.length) : OpS P o s ({ s with L := s.L }.put o.dst (.ptr id off)) := by
  refine OpS.pure fun γ a w hr => ?_
  obtain ⟨j, hj, hsz⟩ := info_of ht
  have hv := hr.ev x
  rw [hx] at hv
  generalize hxe : a.eval x = v at hv
  cases hv with
  | ptr _ _ b c T1 cs1 hL1 hb =>
    have hsh := hr.inv.shape hL hb
    have h1 := Lib.run_to_unsafe w ⟨b, off, none⟩ hs hd hj (by rw [← hsz]; exact h0) hsh hoff
    refine ⟨.pointer (some ⟨b, off, none⟩), ?_, .ptr id off b c T1 cs1 hL1 hb⟩
    unfold execOp
    rw [ho]
    simp only [hxe, Sem.run_bind, h1, Result.andThen_ok, Sem.run_pure]

theorem fromUnsafe_sound {P : Program} {o : Oper} {s : St} {src dst u : TypeId} {x : Operand} {id : Nat} {T : TypeId} {cs : List AV} (ho : o.op = .convert src dst x) (hs : P.underlying src = some .unsafePointer) (hd : P.underlying dst = some (.pointer u))
    (hu : (P.info? u).isSome = true) (hx : s.ev x = .ptr id 0) (hL : s.L[id]? = some (.box T cs)) (hlies : liesAt P P.depth T (cs.length / P.cellsOf T) 0 u 1 = true) : OpS P o s ({ s with L := s.L }.put o.dst (.ptr id 0)) := by
  refine OpS.pure fun γ a w hr => ?_
  obtain ⟨j, hj, hsz⟩ := info_of hu
  have hv := hr.ev x
  rw [hx] at hv
  generalize hxe : a.eval x = v at hv
  cases hv with
  | ptr _ _ b c T1 cs1 hL1 hb =>
    have hsh := hr.inv.shape hL hb
    have h1 := Lib.run_from_unsafe w ⟨b, 0, none⟩ hs hd hj hsh hlies
    refine ⟨.pointer (some ⟨b, 0, none⟩), ?_, .ptr id 0 b c T1 cs1 hL1 hb⟩
    unfold execOp
    rw [ho]
    simp only [hxe, Sem.run_bind, h1, Result.andThen_ok, Sem.run_pure]

/-- A call of a function without a body that hands its argument back. -/
theorem noEscape_sound {P : Program} {o : Oper} {s : St} {f : FuncId} {fn : Func} {x : Operand} {ats : Array TypeId} (ho : o.op = .call { callee := .value (.func f), args := #[x], argTypes := ats }) (hf : P.funcs[f]? = some fn)
    (hname : (fn.name == "runtime.NumGoroutine") = false) (hb : fn.body.isNone = true) (hn : Extern.findNext fn = none) (he : Extern.find fn = some Extern.AbiNoEscape.same) : OpS P o s ({ s with L := s.L }.put o.dst (s.ev x)) := by
  refine OpS.pure fun γ a w hr => ⟨a.eval x, ?_, hr.ev x⟩
  have h1 := run_callFunc_extern hf hname hb hn he #[a.eval x] w
  rw [Lib.run_noEscape] at h1
  have hm : (#[x] : Array Operand).map a.eval = #[a.eval x] := by simp
  have hf0 : a.eval (.func f) = .func (.func f) #[] #[] := rfl
  generalize a.eval x = v at *
  unfold execOp
  rw [ho]
  simp [resolve, hm, hf0, Deferred.ofValue, invoke, h1, Result.andThen]

/-- The address of a row's first element. -/
theorem sliceData_sound {P : Program} {o : Oper} {s : St} {x : Operand} {ats : Array TypeId} {id g n : Nat} {T : TypeId} {es : List AV} (ho : o.op = .call { callee := .builtin .unsafeSliceData, args := #[x], argTypes := ats })
    (hx : s.ev x = .ref id [] g n) (hL : s.L[id]? = some (.vec T 1 g es)) (hn : 0 < n) (hes : ∀ e ∈ es, e.cells.length = 1) : OpS P o s (s.put o.dst (.eptr id [] g 0 0)) := by
  refine OpS.pure fun γ a w hr => ?_
  have hv := hr.ev x
  rw [hx] at hv
  generalize hxe : a.eval x = v at hv
  cases hv with
  | ref _ _ _ _ _ hok ho1 =>
    rw [RefOk, hL] at hok
    obtain ⟨es2, hs2, hle, hv⟩ := hok.2 rfl
    simp [sub] at hs2
    subst hs2
    rcases hv with ⟨rfl, rfl, _⟩ | ⟨b, c, rfl, hb⟩
    · simp at hle; omega
    · obtain ⟨arr, sz, T', harr, _, hasz, hlc, _, hrow⟩ := hr.inv.rowCell (es' := es) hL (by simp [sub]) hb
      have h1 := Lib.run_unsafeSliceData_row (P := P) w ats o.type ⟨b, 0, none⟩ n c (by omega)
      refine ⟨.pointer (some ⟨b, 0, none⟩), ?_, .eptr _ _ _ _ _ _ ?_ rfl⟩
      · unfold execOp
        rw [ho]
        simp [resolve, invoke, builtin, hxe, h1]
      · simp only [EptrOk, hL]
        have hlt : 0 < es.length := by omega
        exact ⟨Nat.le_refl _, fun _ => ⟨es, es[0], b, c, 1, by simp [sub], by simp [hlt], hes _ (List.getElem_mem hlt), hes, by simp, hb⟩⟩

theorem RunL.sliceData {P : Program} {k : Oper → Knd} {ops : Array Oper} {K : St → Prop} {o : Oper} {rest : List Oper} {s : St} {x : Operand} {ats : Array TypeId} {id g n : Nat} {T : TypeId} {es : List AV}
    (hg : guardA ops s o = some true) (ho : o.op = .call { callee := .builtin .unsafeSliceData, args := #[x], argTypes := ats }) (hkd : Knd.le .B (k o) = true) (hW : ∀ i, isW k i = false ∧ rowsAt k i = false)
    (hx : s.ev x = .ref id [] g n) (hL : s.L[id]? = some (.vec T 1 g es)) (hn : 0 < n) (hes : ∀ e ∈ es, e.cells.length = 1) (hk : R P k ops rest (s.put o.dst (.eptr id [] g 0 0)) K) : RunL P k ops (o :: rest) s K := by
  refine .op ⟨.B, .eptr id [] g 0 0, []⟩ hkd ⟨⟨fun _ h => (nomatch h), fun h => (nomatch h)⟩, fun s1 ha hL1 => ⟨by rw [agree_guard ha]; exact hg, ?_⟩⟩ (R.sound hk)
  obtain ⟨L0, X, hX, hlen, hS⟩ := hL1
  have e0 : L0 = s.L := by
    apply List.ext_getElem?
    intro i
    obtain ⟨w1, w2⟩ := hW i
    rcases hS i w1 with e | ⟨e, _⟩
    · exact e
    · rw [w2] at e; cases e
  subst e0
  have hx1 : s1.ev x = .ref id [] g n := by rw [agree_ev ha (by rw [ho]; simp [Op.operands, Call.operands])]; exact hx
  exact sliceData_sound (P := P) (s := s1) ho hx1 (by rw [hX, List.getElem?_append_left (List.getElem?_eq_some_iff.1 hL).1]; exact hL) hn hes

theorem freeze_heap (w : World) (b n k : Nat) (h : k ≠ b) : (w.freeze ⟨b, 0, none⟩ n).heap[k]? = w.heap[k]? := by
  unfold World.freeze
  split
  · rfl
  · simp [Array.getElem?_modify, Ne.symm h]
theorem freeze_rest (w : World) (b n : Nat) : (w.freeze ⟨b, 0, none⟩ n).os = w.os ∧ (w.freeze ⟨b, 0, none⟩ n).tape = w.tape ∧ (w.freeze ⟨b, 0, none⟩ n).output = w.output ∧ (w.freeze ⟨b, 0, none⟩ n).heap.size = w.heap.size := by
  unfold World.freeze
  split
  · exact ⟨rfl, rfl, rfl, rfl⟩
  · exact ⟨rfl, rfl, rfl, by simp⟩

/-- The row 'j' is given up; its block may have turned. -/
theorem Inv.drop {γ : Nat → Gh} {L : List AObj} {w w' : World} (hI : Inv γ L w) {j b0 c0 : Nat} {T : TypeId} {sz g : Nat} {es : List AV} (hj : L[j]? = some (.vec T sz g es)) (hb0 : γ b0 = .ow j [] c0)
    (hw : ∀ k : Nat, k ≠ b0 → w'.heap[k]? = w.heap[k]?) (hr : w'.os = w.os ∧ w'.tape = w.tape ∧ w'.output = w.output ∧ w'.heap.size = w.heap.size) :
    ∃ γ', Inv γ' (L.set j .dead) w' ∧ Ext γ L γ' (L.set j .dead) ∧ Stp γ w γ' w' := by
  have hjl := (List.getElem?_eq_some_iff.1 hj).1
  let γ' : Nat → Gh := fun b => match γ b with | .ow id p c => if id = j then .out else .ow id p c | x => x
  have hA : ∀ {b id p c}, γ b = .ow id p c → id ≠ j → γ' b = .ow id p c := by
    intro b id p c hb hne; simp [γ', hb, hne]
  have h3 : ∀ {b id p c}, γ' b = .ow id p c → γ b = .ow id p c ∧ id ≠ j := by
    intro b id p c hb
    cases hg : γ b with
    | ow id' p' c' =>
      by_cases hij : id' = j
      · simp [γ', hg, hij] at hb
      · simp [γ', hg, hij] at hb; obtain ⟨rfl, rfl, rfl⟩ := hb; exact ⟨rfl, hij⟩
    | out => simp [γ', hg] at hb
    | ro o => simp [γ', hg] at hb
  have h4 : ∀ b o, γ' b = .ro o ↔ γ b = .ro o := by
    intro b o
    cases hg : γ b with
    | ow id' p' c' => by_cases hij : id' = j <;> simp [γ', hg, hij]
    | out => simp [γ', hg]
    | ro o => simp [γ', hg]
  have hset : ∀ {id : Nat}, id ≠ j → (L.set j AObj.dead)[id]? = L[id]? := fun {id} hne => List.getElem?_set_ne (fun e => hne e.symm)
  have hself : (L.set j AObj.dead)[j]? = some .dead := List.getElem?_set_self hjl
  have hE : Ext γ L γ' (L.set j .dead) := by
    refine ⟨fun b o hb => (h4 b o).2 hb, fun id o hL => ?_, fun b id p c hb => ?_, fun id T1 sz1 g1 es1 T' sz' es' hL hL' p e1 _ b c hb => (h3 hb).1⟩
    · by_cases hij : id = j
      · subst hij; rw [hj] at hL; cases hL; exact ⟨_, hself, trivial⟩
      · exact ⟨o, by rw [hset hij]; exact hL, OStep.refl o⟩
    · by_cases hij : id = j
      · subst hij
        refine .inr fun o hL => ?_
        rw [hj] at hL; cases hL
        exact ⟨_, _, _, _, rfl, fun T' sz' es' hL' => by rw [hself] at hL'; cases hL'⟩
      · exact .inl (hA hb hij)
  have hne : ∀ {b id p c}, γ b = .ow id p c → id ≠ j → b ≠ b0 := fun hb hij e => by rw [e, hb0] at hb; cases hb; exact hij rfl
  refine ⟨γ', ⟨fun b o hb => ?_, fun b id p c hb => ?_, fun b b' id p c c' hb hb' => hI.inj _ _ _ _ _ _ (h3 hb).1 (h3 hb').1, fun id T cs hL => ?_, fun id kt vt es hL => ?_⟩, hE, ?_⟩
  · have hb := (h4 b o).1 hb
    rw [hw b (fun e => by rw [e, hb0] at hb; cases hb)]; exact hI.ro b o hb
  · obtain ⟨hb1, hij⟩ := h3 hb
    obtain ⟨o, ho, hrep⟩ := hI.ow _ _ _ _ hb1
    exact ⟨o, by rw [hw b (hne hb1 hij)]; exact ho, BlockRep.keep hE (hset hij) (fun b p c hb => hA hb hij) (fun b p c hb => (h3 hb).1) hrep⟩
  · by_cases hij : id = j
    · subst hij; rw [hself] at hL; cases hL
    · rw [hset hij] at hL
      obtain ⟨b, c, hb⟩ := hI.box _ _ _ hL
      exact ⟨b, c, hA hb hij⟩
  · by_cases hij : id = j
    · subst hij; rw [hself] at hL; cases hL
    · rw [hset hij] at hL
      obtain ⟨b, c, hb⟩ := hI.map _ _ _ _ hL
      exact ⟨b, c, hA hb hij⟩
  · refine ⟨hr.1, hr.2.1, hr.2.2.1, by rw [hr.2.2.2]; exact Nat.le_refl _, hE.ro, fun b hb ho => ?_⟩
    exact ⟨by simp [γ', ho], hw b (fun e => by rw [e, hb0] at ho; cases ho)⟩

/-- The bytes of a row as a string: the row is not written any more. -/
theorem unsafeString_sound {P : Program} {o : Oper} {s : St} {x y : Operand} {pt it : TypeId} {id g : Nat} {T : TypeId} {l : List UInt8} (ho : o.op = .call { callee := .builtin .unsafeString, args := #[x, y], argTypes := #[pt, it] })
    (hx : s.ev x = .eptr id [] g 0 0) (hy : s.ev y = .int .i64 l.length) (hL : s.L[id]? = some (.vec T 1 g (l.map fun b => AV.int .u8 b.toNat))) (hp : P.underlying pt = some (.pointer T)) (hc : P.cellsOf T = 1) (h0 : l ≠ []) :
    OpS P o s ({ s with L := s.L.set id .dead }.put o.dst (.str ⟨l.toArray⟩)) := by
  intro γ a w K Q hr hK
  refine .inl ?_
  have hv := hr.ev x
  have hu := hr.ev y
  rw [hx] at hv
  rw [hy] at hu
  generalize hxe : a.eval x = v at hv
  generalize hye : a.eval y = u at hu
  cases hu
  cases hv with
  | eptr _ _ _ _ _ _ hok ho1 =>
    rw [EptrOk, hL] at hok
    obtain ⟨es', e, b, c, sz, hs, he, hel, hall, rfl, hb⟩ := hok.2 rfl
    simp [sub] at hs
    subst hs
    obtain ⟨arr, sz2, T', harr, hTs, hasz, hlc, hcm, hrow⟩ := hr.inv.rowCell (es' := l.map fun b => AV.int .u8 b.toNat) hL (by simp [sub]) hb
    obtain ⟨hT, hsz2⟩ := hTs rfl
    subst hT hsz2
    have hb2 : w.heap[b]? = some (.cells arr T' (0, 0)) := harr
    simp only [List.length_map] at hlc
    have hsh : w.shape? b = some (T', arr.size) := by simp [World.shape?, hb2]
    have hcm2 : c ≤ 9223372036854775807 := by unfold maxLen at hcm; omega
    have hrun := Lib.run_unsafeString_row (P := P) w pt it o.type T' hp hc b arr.size hsh l h0 (by rw [hasz]; omega) (by omega) (fun j q hq => by
      have hq' : (l.map fun b => AV.int .u8 b.toNat)[j]? = some (.int .u8 q.toNat) := by rw [List.getElem?_map, hq]; rfl
      obtain ⟨v, hv1, _, hv2⟩ := hrow.2 j _ 0 (.int .u8 q.toNat) hq' rfl
      have hv3 : v = .int .u8 q.toNat := by
        have : RV γ s.L (.int .u8 q.toNat) v := hv2
        cases this; rfl
      subst hv3
      have hadd : (⟨b, 0, none⟩ : Addr).add j = ⟨b, j, none⟩ := by unfold Addr.add; split <;> simp_all
      rw [hadd]
      simp only [Nat.mul_one, Nat.add_zero] at hv1
      simp [World.cell?, hb2, hv1])
    obtain ⟨γ', hI', hE, hS⟩ := hr.inv.drop (w' := w.freeze ⟨b, 0, none⟩ l.length) hL hb (fun k hk => freeze_heap w b _ k hk) (freeze_rest w b _)
    unfold Oper.wp execOp
    have ha0 : (0 * sz + 0 : Nat) = 0 := by simp
    rw [ha0] at hxe
    simp only [ho, resolve, invoke, builtin, Sem.run_bind, Sem.run_pure, Result.andThen_ok, List.map_toArray, List.map_cons, List.map_nil, hxe, hye, hrun]
    exact hK γ' _ _ ((hr.mono hE hI').put o.dst (.str _)) (by rw [St.put_L]; exact hE) hS

end Go.Proofs.YtllcljajlemmaaaDoor.K
/-
  Bytes as a text; calls that only add memory, told by the kit's own words.
-/
namespace Go.Proofs.YtllcljajlemmaaaDoor.K
set_option linter.unusedVariables false
set_option linter.unusedSimpArgs false
open Go Go.RowKit
set_option maxRecDepth 8000

theorem strOf_sound {P : Program} {o : Oper} {s : St} {src dst e : TypeId} {x : Operand} {own : Bool} {n : Int} {ns : List Int} (ho : o.op = .convert src dst x) (hs : P.underlying src = some (.slice e)) (he : P.underlying e = some (.int .u8))
    (hd : P.underlying dst = some .string) (hx : s.ev x = .sl own ((n :: ns).map (.int .u8))) : OpS P o s (s.put o.dst (.str (strOfNums (n :: ns)))) := by
  refine OpS.pure fun γ a w hr => ?_
  have e1 := hr.ev x
  rw [hx] at e1
  unfold execOp
  rw [ho]
  generalize hu : a.eval x = u at e1
  cases e1 with
  | sl _ _ A m c sz vals hn hc hsz h2 h1 h3 =>
    have hsz1 : sz = 1 := by have := hsz (.int .u8 n) (by simp); simpa [AV.cells] using this.symm
    subst hsz1
    obtain ⟨b, off, rfl⟩ := roCell_addr (h2 0 (.int .u8 n) 0 (.int .u8 n) rfl rfl)
    have hm : m = (n :: ns).length := by rw [hn]; simp
    subst hm
    have hrun := run_convert_bytes_arg (P := P) w src e hs he b off (n :: ns).length c (n :: ns) rfl (fun i hi => by
      have hi' : ((n :: ns).map (AV.int .u8))[i]? = some (.int .u8 ((n :: ns).getD i 0)) := by
        rw [List.getElem?_map, List.getElem?_eq_getElem hi, List.getD_eq_getElem?_getD, List.getElem?_eq_getElem hi]; rfl
      have k2 := roCell_cell hr.inv (h2 i _ 0 _ hi' rfl)
      have k3 := h3 i _ 0 _ hi' rfl
      simp only [Nat.mul_one, Nat.add_zero] at k2
      rw [k2]
      generalize vals i 0 = q at k3
      cases k3
      rfl) dst hd
    simp only [List.length_cons] at hrun
    exact ⟨_, by simp [hu, hrun], .str _⟩
/-- Bytes as a text. -/
theorem RunL.strOf {P : Program} {k : Oper → Knd} {ops : Array Oper} {K : St → Prop} {o : Oper} {rest : List Oper} {s : St} {src dst e : TypeId} {x : Operand} {own : Bool} {n : Int} {ns : List Int}
    (hg : guardA ops s o = some true) (ho : o.op = .convert src dst x) (hs : P.underlying src = some (.slice e)) (he : P.underlying e = some (.int .u8)) (hd : P.underlying dst = some .string) (hx : s.ev x = .sl own ((n :: ns).map (.int .u8)))
    (h : R P k ops rest (s.put o.dst (.str (strOfNums (n :: ns)))) K) : RunL P k ops (o :: rest) s K := by
  refine .op ⟨.A, .str (strOfNums (n :: ns)), []⟩ rfl ⟨⟨fun _ h => (by cases h), fun h => (by cases h)⟩, fun s1 ha _ => ⟨by rw [agree_guard ha]; exact hg, ?_⟩⟩ (R.sound h)
  exact strOf_sound ho hs he hd (by rw [agree_ev ha (by rw [ho]; simp [Op.operands])]; exact hx)

/-! ### what a call leaves that only adds memory -/
theorem Inv.below {γ : Nat → Gh} {L : List AObj} {w w' : World} (h : Inv γ L w) (hb : Below w.heap.size w w') : Inv γ L w' := by
  have key : ∀ {b : Nat} {o : Obj}, w.heap[b]? = some o → w'.heap[b]? = some o := fun {b o} ho => by
    rw [hb.block b (Array.getElem?_eq_some_iff.1 ho).1]; exact ho
  exact ⟨fun b o hq => key (h.ro b o hq), fun b id p c hq => by
    obtain ⟨o, ho, hr⟩ := h.ow b id p c hq
    exact ⟨o, key ho, hr⟩, h.inj, h.box, h.map⟩
theorem Stp.below {γ : Nat → Gh} {w w' : World} (hb : Below w.heap.size w w') : Stp γ w γ w' := ⟨hb.os, hb.tape, hb.output, hb.size, fun _ _ h => h, fun b hlt ho => ⟨ho, hb.block b hlt⟩⟩
theorem Inv.lt {γ : Nat → Gh} {L : List AObj} {w : World} (h : Inv γ L w) {b : Nat} {o : Obj} (hb : γ b = .ro o) : b < w.heap.size := (Array.getElem?_eq_some_iff.1 (h.ro b o hb)).1
theorem args1 {γ : Nat → Gh} {L : List AObj} {x : AV} {vs : Array Value} (h : ArgsR γ L [x] vs) : ∃ v, vs = #[v] ∧ RV γ L x v := by
  obtain ⟨hs, ha⟩ := h
  obtain ⟨xs⟩ := vs
  match xs, hs with
  | [v], _ => exact ⟨v, rfl, by simpa using ha 0 x rfl⟩
theorem args2 {γ : Nat → Gh} {L : List AObj} {x y : AV} {vs : Array Value} (h : ArgsR γ L [x, y] vs) : ∃ v u, vs = #[v, u] ∧ RV γ L x v ∧ RV γ L y u := by
  obtain ⟨hs, ha⟩ := h
  obtain ⟨xs⟩ := vs
  match xs, hs with
  | [v, u], _ => exact ⟨v, u, rfl, by simpa using ha 0 x rfl, by simpa using ha 1 y rfl⟩

end Go.Proofs.YtllcljajlemmaaaDoor.K
/-
  The shelf's contracts of some library functions at this program (laid by the kit's tools).
-/
namespace Go.Proofs
open Go.Shelf
def Tryd.lays156_ren : Go.Shelf.Ren := ⟨fun | 156 => 28 | 165 => 42 | 166 => 43 | 169 => 44 | 240 => 53 | 241 => 54 | 276 => 68 | 277 => 69 | n => n, fun | 31 => 34 | 9 => 9 | 3 => 3 | 4 => 4 | 0 => 0 | 20 => 20 | 72 => 69 | 76 => 60 | 70 => 66 | 37 => 67 | 75 => 59 | 127 => 75 | 164 => 88 | 5 => 5 | 80 => 71 | n => n, fun | n => n⟩
theorem Tryd.lays156 : Go.Proofs.Lays.n156 Tryd.prog Tryd.lays156_ren := {
  mixed := by kernel_rfl
  f156 := Tryd.func28.trans (congrArg some (by kernel_rfl))
  f165 := Tryd.func42.trans (congrArg some (by kernel_rfl))
  f166 := Tryd.func43.trans (congrArg some (by kernel_rfl))
  f169 := Tryd.func44.trans (congrArg some (by kernel_rfl))
  f240 := Tryd.func53.trans (congrArg some (by kernel_rfl))
  f241 := Tryd.func54.trans (congrArg some (by kernel_rfl))
  f276 := Tryd.func68.trans (congrArg some (by kernel_rfl))
  f277 := Tryd.func69.trans (congrArg some (by kernel_rfl))
  t0 := Tryd.underlying0
  a0 := Tryd.isAgg0
  z0 := Tryd.sizeOf0
  v0 := Tryd.zeroValue0
  t3 := Tryd.underlying3
  a3 := Tryd.isAgg3
  z3 := Tryd.sizeOf3
  v3 := Tryd.zeroValue3
  t4 := Tryd.underlying4
  a4 := Tryd.isAgg4
  z4 := Tryd.sizeOf4
  v4 := Tryd.zeroValue4
  t9 := Tryd.underlying9
  a9 := Tryd.isAgg9
  z9 := Tryd.sizeOf9
  v9 := Tryd.zeroValue9
  t20 := Tryd.underlying20
  a20 := Tryd.isAgg20
  z20 := Tryd.sizeOf20
  v20 := Tryd.zeroValue20
  t31 := Tryd.underlying34
  a31 := Tryd.isAgg34
  z31 := Tryd.sizeOf34
  v31 := Tryd.zeroValue34
  t37 := Tryd.underlying67
  a37 := Tryd.isAgg67
  z37 := Tryd.sizeOf67
  v37 := Tryd.zeroValue67
  t70 := Tryd.underlying66
  a70 := Tryd.isAgg66
  z70 := Tryd.sizeOf66
  v70 := Tryd.zeroValue66
  t72 := Tryd.underlying69
  a72 := Tryd.isAgg69
  z72 := Tryd.sizeOf69
  v72 := Tryd.zeroValue69
  t75 := Tryd.underlying59
  a75 := Tryd.isAgg59
  z75 := Tryd.sizeOf59
  v75 := Tryd.zeroValue59
  t76 := Tryd.underlying60
  a76 := Tryd.isAgg60
  z76 := Tryd.sizeOf60
  v76 := Tryd.zeroValue60
  t127 := Tryd.underlying75
  a127 := Tryd.isAgg75
  z127 := Tryd.sizeOf75
  v127 := Tryd.zeroValue75
  t164 := Tryd.underlying88
  a164 := Tryd.isAgg88
  z164 := Tryd.sizeOf88
  v164 := Tryd.zeroValue88 }
theorem Tryd.Builder_Extra_156 : Builder.Extra Tryd.prog Tryd.lays156_ren := {
  sizeBuilder := by kernel_rfl
  liesBuilder := by kernel_rfl
  t5 := Tryd.underlying5
  a5 := Tryd.isAgg5
  z5 := Tryd.sizeOf5
  v5 := Tryd.zeroValue5
  infoByte := by kernel_rfl
  cellsByte := by kernel_rfl
  sizeByte := by kernel_rfl
  neB5 := by decide }
open Go.RowKit in
/-- No element: the empty string; the world is as it was. (Whatever the slice's address and capacity: a nil slice too.) (LAID: no walk: one application.) -/
theorem Tryd.strings_Join_none (a : Option Addr) (c : Nat) (sep : ByteArray) (w : World) :
    Calls Tryd.prog 28 #[.slice a 0 c, .string sep] w fun e w' => e = .returned (.string ⟨#[]⟩) ∧ w' = w := Any.strings_Join_none Tryd.lays156 Tryd.Builder_Extra_156 a c sep w
open Go.RowKit in
/-- strings.Join: "Join concatenates the elements of its first argument to create a single string. The separator string sep is placed between elements in the resulting string.": HOWEVER MANY ELEMENTS. Below the heap's end the world is as it was. (LAID: no walk: one application.) -/
theorem Tryd.strings_Join (bk o c : Nat) (xs : List ByteArray) (sep : ByteArray) (w : World) (hcells : ∀ (j : Nat) x, xs[j]? = some x → w.cell? ⟨bk, o + j, none⟩ = some (.string x)) (hbk : bk < w.heap.size) (hN : xs.length ≤ 140737488355328) (hcap : xs.length ≤ c) (hlen : (Lib.join (xs.map (·.data.toList)) sep.data.toList).length ≤ 140737488355328) :
    Calls Tryd.prog 28 #[.slice (some ⟨bk, o, none⟩) xs.length c, .string sep] w fun e w' => e = .returned (.string ⟨(Lib.join (xs.map (·.data.toList)) sep.data.toList).toArray⟩) ∧ Below w.heap.size w w' := Any.strings_Join Tryd.lays156 Tryd.Builder_Extra_156 bk o c xs sep w hcells hbk hN hcap hlen
def Tryd.lays171_ren : Go.Shelf.Ren := ⟨fun | 171 => 41 | 243 => 52 | 246 => 67 | 283 => 76 | 284 => 77 | 285 => 78 | 286 => 79 | 129 => 83 | 317 => 82 | 318 => 84 | 319 => 85 | 320 => 86 | 337 => 87 | 338 => 88 | n => n, fun | 3 => 3 | 9 => 9 | 2 => 2 | 4 => 4 | 171 => 101 | 0 => 0 | 53 => 94 | 37 => 67 | 5 => 5 | 173 => 104 | 212 => 115 | 51 => 91 | 20 => 20 | 213 => 116 | 46 => 80 | 232 => 120 | 233 => 121 | n => n, fun | 17 => 5 | 18 => 6 | 19 => 7 | n => n⟩
theorem Tryd.lays171 : Go.Proofs.Lays.n171 Tryd.prog Tryd.lays171_ren := {
  mixed := by kernel_rfl
  f129 := Tryd.func83.trans (congrArg some (by kernel_rfl))
  f171 := Tryd.func41.trans (congrArg some (by kernel_rfl))
  f243 := Tryd.func52.trans (congrArg some (by kernel_rfl))
  f246 := Tryd.func67.trans (congrArg some (by kernel_rfl))
  f283 := Tryd.func76.trans (congrArg some (by kernel_rfl))
  f284 := Tryd.func77.trans (congrArg some (by kernel_rfl))
  f285 := Tryd.func78.trans (congrArg some (by kernel_rfl))
  f286 := Tryd.func79.trans (congrArg some (by kernel_rfl))
  f317 := Tryd.func82.trans (congrArg some (by kernel_rfl))
  f318 := Tryd.func84.trans (congrArg some (by kernel_rfl))
  f319 := Tryd.func85.trans (congrArg some (by kernel_rfl))
  f320 := Tryd.func86.trans (congrArg some (by kernel_rfl))
  f337 := Tryd.func87.trans (congrArg some (by kernel_rfl))
  f338 := Tryd.func88.trans (congrArg some (by kernel_rfl))
  t0 := Tryd.underlying0
  a0 := Tryd.isAgg0
  z0 := Tryd.sizeOf0
  v0 := Tryd.zeroValue0
  t2 := Tryd.underlying2
  a2 := Tryd.isAgg2
  z2 := Tryd.sizeOf2
  v2 := Tryd.zeroValue2
  t3 := Tryd.underlying3
  a3 := Tryd.isAgg3
  z3 := Tryd.sizeOf3
  v3 := Tryd.zeroValue3
  t4 := Tryd.underlying4
  a4 := Tryd.isAgg4
  z4 := Tryd.sizeOf4
  v4 := Tryd.zeroValue4
  t5 := Tryd.underlying5
  a5 := Tryd.isAgg5
  z5 := Tryd.sizeOf5
  v5 := Tryd.zeroValue5
  t9 := Tryd.underlying9
  a9 := Tryd.isAgg9
  z9 := Tryd.sizeOf9
  v9 := Tryd.zeroValue9
  t20 := Tryd.underlying20
  a20 := Tryd.isAgg20
  z20 := Tryd.sizeOf20
  v20 := Tryd.zeroValue20
  t37 := Tryd.underlying67
  a37 := Tryd.isAgg67
  z37 := Tryd.sizeOf67
  v37 := Tryd.zeroValue67
  t46 := Tryd.underlying80
  a46 := Tryd.isAgg80
  z46 := Tryd.sizeOf80
  v46 := Tryd.zeroValue80
  t51 := Tryd.underlying91
  a51 := Tryd.isAgg91
  z51 := Tryd.sizeOf91
  v51 := Tryd.zeroValue91
  t53 := Tryd.underlying94
  a53 := Tryd.isAgg94
  z53 := Tryd.sizeOf94
  v53 := Tryd.zeroValue94
  t171 := Tryd.underlying101
  a171 := Tryd.isAgg101
  z171 := Tryd.sizeOf101
  v171 := Tryd.zeroValue101
  t173 := Tryd.underlying104
  a173 := Tryd.isAgg104
  z173 := Tryd.sizeOf104
  v173 := Tryd.zeroValue104
  t212 := Tryd.underlying115
  a212 := Tryd.isAgg115
  z212 := Tryd.sizeOf115
  v212 := Tryd.zeroValue115
  t213 := Tryd.underlying116
  a213 := Tryd.isAgg116
  z213 := Tryd.sizeOf116
  t232 := Tryd.underlying120
  a232 := Tryd.isAgg120
  z232 := Tryd.sizeOf120
  v232 := Tryd.zeroValue120
  t233 := Tryd.underlying121
  a233 := Tryd.isAgg121
  z233 := Tryd.sizeOf121
  v233 := Tryd.zeroValue121
  g17 := by kernel_rfl
  g18 := by kernel_rfl
  g19 := by kernel_rfl }
open Go.RowKit Go.Sort Go.Lib in
/-- THE ROAD WITHOUT THE TABLE: 0 <= i < 100: NO PREMISE ON THE WORLD, AND THE WORLD IS AS IT WAS: a row that keeps its argument in that range need list no table ('laid = []'). (LAID: no walk: one application.) -/
theorem Tryd.strconv_Itoa_small (i : Nat) (hi : i < 100) (w : World) :
    Calls Tryd.prog 41 #[.int .i64 i] w fun e w' => e = .returned (.string ⟨(Lib.decDigits i).toArray⟩) ∧ w' = w := Any.strconv_Itoa_small Tryd.lays171 i hi w
end Go.Proofs
/-
  strconv.Itoa at small numbers and strings.Join, told in the logic of values.
-/
namespace Go.Proofs.YtllcljajlemmaaaDoor
open Go K Go.RowKit
set_option linter.unusedSimpArgs false
set_option linter.unusedVariables false
set_option maxHeartbeats 1600000
set_option maxRecDepth 8000

def decS (i : Nat) : ByteArray := ⟨(Lib.decDigits i).toArray⟩
theorem itoa_ok (i : Nat) (hi : i < 100) : Ct Tryd.prog 41 [.int .i64 i] [] (.str (decS i)) [] := by
  intro γ w vs hI ha
  obtain ⟨v, rfl, hv⟩ := args1 ha
  cases hv
  refine (Tryd.strconv_Itoa_small i hi w).mono ?_
  rintro e w' ⟨rfl, rfl⟩
  exact ⟨γ, _, rfl, hI, .str _, Ext.refl _ _, Stp.refl _ _⟩
abbrev strs (l : List ByteArray) : List AV := l.map AV.str
def joinS (l : List ByteArray) (sep : ByteArray) : ByteArray := ⟨(Lib.join (l.map (·.data.toList)) sep.data.toList).toArray⟩
theorem join_ok (l : List ByteArray) (o : Bool) (sep : ByteArray) (hN : l.length ≤ 1048576) (hlen : (Lib.join (l.map (·.data.toList)) sep.data.toList).length ≤ 140737488355328) :
    Ct Tryd.prog 28 [.sl o (strs l), .str sep] [] (.str (joinS l sep)) [] := by
  intro γ w vs hI ha
  obtain ⟨v, u, rfl, hv, hu⟩ := args2 ha
  cases hu
  cases hv with
  | sl _ _ A m c sz vals hn hc hsz h2 h1 h3 =>
    simp only [strs, List.length_map] at hn
    subst hn
    cases l with
    | nil =>
      refine (Tryd.strings_Join_none A c sep w).mono ?_
      rintro e w' ⟨rfl, rfl⟩
      exact ⟨γ, _, rfl, hI, .str _, Ext.refl _ _, Stp.refl _ _⟩
    | cons x r =>
      have hsz1 : sz = 1 := by have := hsz (.str x) (by simp [strs]); simpa [AV.cells] using this.symm
      subst hsz1
      have h20 := h2 0 (.str x) 0 (.str x) rfl rfl
      obtain ⟨b, off, rfl⟩ := roCell_addr h20
      have hb : b < w.heap.size := by
        unfold roCell at h20
        simp only at h20
        split at h20
        · rename_i hg; exact hI.lt hg
        · cases h20
      refine (Tryd.strings_Join b off c (x :: r) sep w (fun j y hj => ?_) hb (by omega) hc hlen).mono ?_
      · have hj' : (strs (x :: r))[j]? = some (.str y) := by simp only [strs, List.getElem?_map, hj, Option.map_some]
        have k2 := roCell_cell hI (h2 j _ 0 _ hj' rfl)
        have k3 := h3 j _ 0 _ hj' rfl
        simp only [Nat.mul_one, Nat.add_zero] at k2
        rw [k2]
        generalize vals j 0 = q at k3
        cases k3
        rfl
      rintro e w' ⟨rfl, hbl⟩
      exact ⟨γ, _, rfl, hI.below hbl, .str _, Ext.refl _ _, Stp.below hbl⟩

end Go.Proofs.YtllcljajlemmaaaDoor
/-
  A logic of values for Go's functions (part 16): all rules of the steps in one.
-/
namespace Go.Proofs.YtllcljajlemmaaaDoor
open Go
set_option linter.unusedVariables false

theorem K.run0 :
    (((((type_of% @K.W.eq_1) ∧ (type_of% @K.W.eq_2)) ∧ ((type_of% @K.W.eq_3) ∧ (type_of% @K.W.eq_4))) ∧ (((type_of% @K.W.eq_5) ∧ (type_of% @K.W.eq_6)) ∧ ((type_of% @K.W.eq_7) ∧ (type_of% @K.W.eq_8)))) ∧ ((((type_of% @K.W.eq_9) ∧ (type_of% @K.Wc_true)) ∧ ((type_of% @K.Wc_false) ∧ (type_of% @K.R.eq_1))) ∧ (((type_of% @K.R.eq_2) ∧ (type_of% @K.Rg_true)) ∧ ((type_of% @K.Rg_false) ∧ (type_of% @K.Rg_none))))) :=
  ⟨⟨⟨⟨@K.W.eq_1, @K.W.eq_2⟩, ⟨@K.W.eq_3, @K.W.eq_4⟩⟩, ⟨⟨@K.W.eq_5, @K.W.eq_6⟩, ⟨@K.W.eq_7, @K.W.eq_8⟩⟩⟩, ⟨⟨⟨@K.W.eq_9, @K.Wc_true⟩, ⟨@K.Wc_false, @K.R.eq_1⟩⟩, ⟨⟨@K.R.eq_2, @K.Rg_true⟩, ⟨@K.Rg_false, @K.Rg_none⟩⟩⟩⟩

theorem K.run1 :
    (((((type_of% @K.Rs_some) ∧ (type_of% @K.Rs_none)) ∧ ((type_of% @K.guardA.eq_1) ∧ (type_of% @K.stepD.eq_1))) ∧ (((type_of% @K.app_A) ∧ (type_of% @K.app_B)) ∧ ((type_of% @K.app_C) ∧ (type_of% @K.kindP.eq_1)))) ∧ ((((type_of% @K.kindP.eq_2) ∧ (type_of% @K.kindP.eq_3)) ∧ ((type_of% @K.kindP.eq_4) ∧ (type_of% @K.kindP.eq_5))) ∧ (((type_of% @K.kindP.eq_6) ∧ (type_of% @K.kindP.eq_7)) ∧ ((type_of% @K.kindP.eq_8) ∧ (type_of% @K.kindP.eq_9))))) :=
  ⟨⟨⟨⟨@K.Rs_some, @K.Rs_none⟩, ⟨@K.guardA.eq_1, @K.stepD.eq_1⟩⟩, ⟨⟨@K.app_A, @K.app_B⟩, ⟨@K.app_C, @K.kindP.eq_1⟩⟩⟩, ⟨⟨⟨@K.kindP.eq_2, @K.kindP.eq_3⟩, ⟨@K.kindP.eq_4, @K.kindP.eq_5⟩⟩, ⟨⟨@K.kindP.eq_6, @K.kindP.eq_7⟩, ⟨@K.kindP.eq_8, @K.kindP.eq_9⟩⟩⟩⟩

theorem K.run2 :
    (((((type_of% @K.kindP.eq_10) ∧ (type_of% @K.kindP.eq_11)) ∧ ((type_of% @K.kindP.eq_12) ∧ (type_of% @K.kindP.eq_13))) ∧ (((type_of% @K.kindP.eq_14) ∧ (type_of% @K.kindP.eq_15)) ∧ ((type_of% @K.kindP.eq_16) ∧ (type_of% @K.kindP.eq_17)))) ∧ ((((type_of% @K.kindP.eq_18) ∧ (type_of% @K.kindP.eq_19)) ∧ ((type_of% @K.le_A) ∧ (type_of% @K.le_any))) ∧ (((type_of% @K.le_BB) ∧ (type_of% @K.le_BC)) ∧ ((type_of% @K.le_CC) ∧ (type_of% @K.kindE.eq_1))))) :=
  ⟨⟨⟨⟨@K.kindP.eq_10, @K.kindP.eq_11⟩, ⟨@K.kindP.eq_12, @K.kindP.eq_13⟩⟩, ⟨⟨@K.kindP.eq_14, @K.kindP.eq_15⟩, ⟨@K.kindP.eq_16, @K.kindP.eq_17⟩⟩⟩, ⟨⟨⟨@K.kindP.eq_18, @K.kindP.eq_19⟩, ⟨@K.le_A, @K.le_any⟩⟩, ⟨⟨@K.le_BB, @K.le_BC⟩, ⟨@K.le_CC, @K.kindE.eq_1⟩⟩⟩⟩

theorem K.run3 :
    (((((type_of% @K.pureA.eq_1) ∧ (type_of% @K.pureA.eq_2)) ∧ ((type_of% @K.pureA.eq_3) ∧ (type_of% @K.pureA.eq_4))) ∧ (((type_of% @K.pureA.eq_5) ∧ (type_of% @K.pureA.eq_6)) ∧ ((type_of% @K.pureA.eq_7) ∧ (type_of% @K.pureA.eq_8)))) ∧ ((((type_of% @K.pureA.eq_9) ∧ (type_of% @K.pureA.eq_10)) ∧ ((type_of% @K.pureA.eq_11) ∧ (type_of% @K.pureA.eq_12))) ∧ (((type_of% @K.pureA.eq_13) ∧ (type_of% @K.pureA.eq_14)) ∧ ((type_of% @K.pureA.eq_15) ∧ (type_of% @K.pureA.eq_16))))) :=
  ⟨⟨⟨⟨@K.pureA.eq_1, @K.pureA.eq_2⟩, ⟨@K.pureA.eq_3, @K.pureA.eq_4⟩⟩, ⟨⟨@K.pureA.eq_5, @K.pureA.eq_6⟩, ⟨@K.pureA.eq_7, @K.pureA.eq_8⟩⟩⟩, ⟨⟨⟨@K.pureA.eq_9, @K.pureA.eq_10⟩, ⟨@K.pureA.eq_11, @K.pureA.eq_12⟩⟩, ⟨⟨@K.pureA.eq_13, @K.pureA.eq_14⟩, ⟨@K.pureA.eq_15, @K.pureA.eq_16⟩⟩⟩⟩

theorem K.run4 :
    (((((type_of% @K.pureA.eq_17) ∧ (type_of% @K.pureA.eq_18)) ∧ ((type_of% @K.St.put.eq_1) ∧ (type_of% @K.St.put.eq_2))) ∧ (((type_of% @K.St.ev.eq_1) ∧ (type_of% @K.St.ev.eq_2)) ∧ ((type_of% @K.St.ev.eq_3) ∧ (type_of% @K.St.ev.eq_4)))) ∧ ((((type_of% @List.set_cons_zero.{0}) ∧ (type_of% @List.set_cons_succ.{0})) ∧ ((type_of% @K.absV.eq_1) ∧ (type_of% @K.absV.eq_2))) ∧ (((type_of% @K.absV.eq_3) ∧ (type_of% @K.absV.eq_4)) ∧ ((type_of% @List.getD_cons_zero.{0}) ∧ (type_of% @List.getD_cons_succ.{0}))))) :=
  ⟨⟨⟨⟨@K.pureA.eq_17, @K.pureA.eq_18⟩, ⟨@K.St.put.eq_1, @K.St.put.eq_2⟩⟩, ⟨⟨@K.St.ev.eq_1, @K.St.ev.eq_2⟩, ⟨@K.St.ev.eq_3, @K.St.ev.eq_4⟩⟩⟩, ⟨⟨⟨@List.set_cons_zero.{0}, @List.set_cons_succ.{0}⟩, ⟨@K.absV.eq_1, @K.absV.eq_2⟩⟩, ⟨⟨@K.absV.eq_3, @K.absV.eq_4⟩, ⟨@List.getD_cons_zero.{0}, @List.getD_cons_succ.{0}⟩⟩⟩⟩

theorem K.run5 :
    (((((type_of% @K.binA.eq_1) ∧ (type_of% @K.binA.eq_2)) ∧ ((type_of% @K.binA.eq_3) ∧ (type_of% @K.binA.eq_4))) ∧ (((type_of% @K.binA.eq_5) ∧ (type_of% @K.binA.eq_6)) ∧ ((type_of% @K.binA.eq_7) ∧ (type_of% @K.binA.eq_8)))) ∧ ((((type_of% @K.binA.eq_9) ∧ (type_of% @K.intA.eq_1)) ∧ ((type_of% @K.intA.eq_2) ∧ (type_of% @K.intA.eq_3))) ∧ (((type_of% @K.intA.eq_4) ∧ (type_of% @K.intA.eq_5)) ∧ ((type_of% @K.intA.eq_6) ∧ (type_of% @K.intA.eq_7))))) :=
  ⟨⟨⟨⟨@K.binA.eq_1, @K.binA.eq_2⟩, ⟨@K.binA.eq_3, @K.binA.eq_4⟩⟩, ⟨⟨@K.binA.eq_5, @K.binA.eq_6⟩, ⟨@K.binA.eq_7, @K.binA.eq_8⟩⟩⟩, ⟨⟨⟨@K.binA.eq_9, @K.intA.eq_1⟩, ⟨@K.intA.eq_2, @K.intA.eq_3⟩⟩, ⟨⟨@K.intA.eq_4, @K.intA.eq_5⟩, ⟨@K.intA.eq_6, @K.intA.eq_7⟩⟩⟩⟩

theorem K.run6 :
    (((((type_of% @K.intA.eq_8) ∧ (type_of% @K.intA.eq_9)) ∧ ((type_of% @K.intA.eq_10) ∧ (type_of% @K.intA.eq_11))) ∧ (((type_of% @K.intA.eq_12) ∧ (type_of% @K.intA.eq_13)) ∧ ((type_of% @K.intA.eq_14) ∧ (type_of% @K.intA.eq_15)))) ∧ ((((type_of% @K.intA.eq_16) ∧ (type_of% @K.unA.eq_1)) ∧ ((type_of% @K.unA.eq_2) ∧ (type_of% @K.unA.eq_3))) ∧ (((type_of% @K.unA.eq_4) ∧ (type_of% @K.unA.eq_5)) ∧ ((type_of% @K.unA.eq_6) ∧ (type_of% @if_true.{1}))))) :=
  ⟨⟨⟨⟨@K.intA.eq_8, @K.intA.eq_9⟩, ⟨@K.intA.eq_10, @K.intA.eq_11⟩⟩, ⟨⟨@K.intA.eq_12, @K.intA.eq_13⟩, ⟨@K.intA.eq_14, @K.intA.eq_15⟩⟩⟩, ⟨⟨⟨@K.intA.eq_16, @K.unA.eq_1⟩, ⟨@K.unA.eq_2, @K.unA.eq_3⟩⟩, ⟨⟨@K.unA.eq_4, @K.unA.eq_5⟩, ⟨@K.unA.eq_6, @if_true.{1}⟩⟩⟩⟩

theorem K.run7 :
    (((((type_of% @if_true.{0}) ∧ (type_of% @K.ExThen_normal)) ∧ ((type_of% @K.ExThen_ret) ∧ (type_of% @K.ExThen_exit))) ∧ (((type_of% @K.ExBlock_normal) ∧ (type_of% @K.ExBlock_ret)) ∧ ((type_of% @K.ExBlock_exit) ∧ (type_of% @K.St.init.eq_1)))) ∧ ((((type_of% @List.length_cons.{0}) ∧ (type_of% @List.length_nil.{0})) ∧ ((type_of% @List.replicate.eq_1.{0}) ∧ (type_of% @List.replicate.eq_2.{0}))) ∧ (((type_of% @List.cons_append.{0}) ∧ (type_of% @List.nil_append.{0})) ∧ ((type_of% @List.getElem?_cons_zero.{0}) ∧ (type_of% @List.getElem?_cons_succ.{0}))))) :=
  ⟨⟨⟨⟨@if_true.{0}, @K.ExThen_normal⟩, ⟨@K.ExThen_ret, @K.ExThen_exit⟩⟩, ⟨⟨@K.ExBlock_normal, @K.ExBlock_ret⟩, ⟨@K.ExBlock_exit, @K.St.init.eq_1⟩⟩⟩, ⟨⟨⟨@List.length_cons.{0}, @List.length_nil.{0}⟩, ⟨@List.replicate.eq_1.{0}, @List.replicate.eq_2.{0}⟩⟩, ⟨⟨@List.cons_append.{0}, @List.nil_append.{0}⟩, ⟨@List.getElem?_cons_zero.{0}, @List.getElem?_cons_succ.{0}⟩⟩⟩⟩

theorem K.run8 :
    (((((type_of% @K.FnEnd_normal) ∧ (type_of% @K.FnEnd_ret)) ∧ ((type_of% @K.resA.eq_1) ∧ (type_of% @K.resOne.eq_1))) ∧ (((type_of% @K.resOne.eq_2) ∧ (type_of% @if_false.{1})) ∧ ((type_of% @if_false.{0}) ∧ (type_of% @Option.bind_some.{0, 0})))) ∧ ((((type_of% @K.AV.solid.eq_1) ∧ (type_of% @K.AV.solid.eq_2)) ∧ ((type_of% @K.AV.solid.eq_3) ∧ (type_of% @K.AV.cells.eq_1))) ∧ (((type_of% @K.AV.cells.eq_2) ∧ (type_of% @K.storeA.eq_1)) ∧ ((type_of% @K.storeA.eq_2) ∧ (type_of% @K.loadA.eq_1))))) :=
  ⟨⟨⟨⟨@K.FnEnd_normal, @K.FnEnd_ret⟩, ⟨@K.resA.eq_1, @K.resOne.eq_1⟩⟩, ⟨⟨@K.resOne.eq_2, @if_false.{1}⟩, ⟨@if_false.{0}, @Option.bind_some.{0, 0}⟩⟩⟩, ⟨⟨⟨@K.AV.solid.eq_1, @K.AV.solid.eq_2⟩, ⟨@K.AV.solid.eq_3, @K.AV.cells.eq_1⟩⟩, ⟨⟨@K.AV.cells.eq_2, @K.storeA.eq_1⟩, ⟨@K.storeA.eq_2, @K.loadA.eq_1⟩⟩⟩⟩

theorem K.run9 :
    (((((type_of% @K.loadA.eq_2) ∧ (type_of% @K.loadA.eq_3)) ∧ ((type_of% @K.loadA.eq_4) ∧ (type_of% @K.takeA.eq_1))) ∧ (((type_of% @K.pickA.eq_1) ∧ (type_of% @K.pickA.eq_2)) ∧ ((type_of% @K.funcA.eq_1) ∧ (type_of% @K.funcA.eq_2)))) ∧ ((((type_of% @K.callA.eq_1) ∧ (type_of% @K.extractA.eq_1)) ∧ ((type_of% @K.extractA.eq_2) ∧ (type_of% @Option.some.injEq.{0}))) ∧ (((type_of% @exists_eq_left'.{1}) ∧ (type_of% @exists_eq_left'.{0})) ∧ ((type_of% @true_and) ∧ (type_of% @and_true))))) :=
  ⟨⟨⟨⟨@K.loadA.eq_2, @K.loadA.eq_3⟩, ⟨@K.loadA.eq_4, @K.takeA.eq_1⟩⟩, ⟨⟨@K.pickA.eq_1, @K.pickA.eq_2⟩, ⟨@K.funcA.eq_1, @K.funcA.eq_2⟩⟩⟩, ⟨⟨⟨@K.callA.eq_1, @K.extractA.eq_1⟩, ⟨@K.extractA.eq_2, @Option.some.injEq.{0}⟩⟩, ⟨⟨@exists_eq_left'.{1}, @exists_eq_left'.{0}⟩, ⟨@true_and, @and_true⟩⟩⟩⟩

theorem K.run10 :
    (((((type_of% @forall_const.{1}) ∧ (type_of% @forall_const.{0})) ∧ ((type_of% @true_implies) ∧ (type_of% @List.map_cons.{0, 0}))) ∧ (((type_of% @List.map_nil.{0, 0}) ∧ (type_of% @List.getElem?_toArray.{0})) ∧ ((type_of% @beq_true) ∧ (type_of% @beq_false)))) ∧ ((((type_of% @Bool.not_eq_true') ∧ (type_of% @Bool.not_eq_false')) ∧ ((type_of% @Option.isSome_some.{0}) ∧ (type_of% @Option.isSome_none.{0}))) ∧ (((type_of% @Bool.cond_false_right) ∧ (type_of% @Bool.cond_true_left)) ∧ ((type_of% @Bool.not_not) ∧ (type_of% @false_implies))))) :=
  ⟨⟨⟨⟨@forall_const.{1}, @forall_const.{0}⟩, ⟨@true_implies, @List.map_cons.{0, 0}⟩⟩, ⟨⟨@List.map_nil.{0, 0}, @List.getElem?_toArray.{0}⟩, ⟨@beq_true, @beq_false⟩⟩⟩, ⟨⟨⟨@Bool.not_eq_true', @Bool.not_eq_false'⟩, ⟨@Option.isSome_some.{0}, @Option.isSome_none.{0}⟩⟩, ⟨⟨@Bool.cond_false_right, @Bool.cond_true_left⟩, ⟨@Bool.not_not, @false_implies⟩⟩⟩⟩

theorem K.run11 :
    (((((type_of% @implies_true.{1}) ∧ (type_of% @implies_true.{0})) ∧ ((type_of% @Bool.true_eq_false) ∧ (type_of% @Bool.false_eq_true))) ∧ (((type_of% @beq_self_eq_true.{0}) ∧ (type_of% @Bool.not_true)) ∧ ((type_of% @Bool.not_false) ∧ (type_of% @Bool.true_beq)))) ∧ ((((type_of% @Bool.false_beq) ∧ (type_of% @and_self)) ∧ ((type_of% @List.drop_zero.{0}) ∧ (type_of% @List.drop_succ_cons.{0}))) ∧ (((type_of% @List.take_zero.{0}) ∧ (type_of% @List.take_succ_cons.{0})) ∧ ((type_of% @List.drop_nil.{0}) ∧ (type_of% @List.take_nil.{0}))))) :=
  ⟨⟨⟨⟨@implies_true.{1}, @implies_true.{0}⟩, ⟨@Bool.true_eq_false, @Bool.false_eq_true⟩⟩, ⟨⟨@beq_self_eq_true.{0}, @Bool.not_true⟩, ⟨@Bool.not_false, @Bool.true_beq⟩⟩⟩, ⟨⟨⟨@Bool.false_beq, @and_self⟩, ⟨@List.drop_zero.{0}, @List.drop_succ_cons.{0}⟩⟩, ⟨⟨@List.take_zero.{0}, @List.take_succ_cons.{0}⟩, ⟨@List.drop_nil.{0}, @List.take_nil.{0}⟩⟩⟩⟩

theorem K.run12 :
    (((((type_of% @Nat.zero_add) ∧ (type_of% @Nat.add_zero)) ∧ ((type_of% @K.fieldAddrA.eq_1) ∧ (type_of% @K.fieldA.eq_1))) ∧ (((type_of% @K.fieldA.eq_2) ∧ (type_of% @List.set_nil.{0})) ∧ ((type_of% @cond_true.{1}) ∧ (type_of% @cond_true.{0})))) ∧ ((((type_of% @cond_false.{1}) ∧ (type_of% @cond_false.{0})) ∧ ((type_of% @Nat.le_refl) ∧ (type_of% @K.buildA.eq_1))) ∧ (((type_of% @K.fillA.eq_1) ∧ (type_of% @K.fillA.eq_2)) ∧ ((type_of% @List.all_cons.{0}) ∧ (type_of% @List.all_nil.{0}))))) :=
  ⟨⟨⟨⟨@Nat.zero_add, @Nat.add_zero⟩, ⟨@K.fieldAddrA.eq_1, @K.fieldA.eq_1⟩⟩, ⟨⟨@K.fieldA.eq_2, @List.set_nil.{0}⟩, ⟨@cond_true.{1}, @cond_true.{0}⟩⟩⟩, ⟨⟨⟨@cond_false.{1}, @cond_false.{0}⟩, ⟨@Nat.le_refl, @K.buildA.eq_1⟩⟩, ⟨⟨@K.fillA.eq_1, @K.fillA.eq_2⟩, ⟨@List.all_cons.{0}, @List.all_nil.{0}⟩⟩⟩⟩

theorem K.run13 :
    (((((type_of% @List.getElem?_nil.{0}) ∧ (type_of% @Option.map_some.{0, 0})) ∧ ((type_of% @decide_true) ∧ (type_of% @decide_false))) ∧ (((type_of% @ne_eq.{1}) ∧ (type_of% @ne_eq.{0})) ∧ ((type_of% @not_true_eq_false) ∧ (type_of% @not_false_eq_true)))) ∧ ((((type_of% @or_self) ∧ (type_of% @or_false)) ∧ ((type_of% @false_or) ∧ (type_of% @and_false))) ∧ (((type_of% @false_and) ∧ (type_of% @Nat.not_lt_zero)) ∧ ((type_of% @gt_iff_lt.{0}) ∧ (type_of% @List.length_append.{0}))))) :=
  ⟨⟨⟨⟨@List.getElem?_nil.{0}, @Option.map_some.{0, 0}⟩, ⟨@decide_true, @decide_false⟩⟩, ⟨⟨@ne_eq.{1}, @ne_eq.{0}⟩, ⟨@not_true_eq_false, @not_false_eq_true⟩⟩⟩, ⟨⟨⟨@or_self, @or_false⟩, ⟨@false_or, @and_false⟩⟩, ⟨⟨@false_and, @Nat.not_lt_zero⟩, ⟨@gt_iff_lt.{0}, @List.length_append.{0}⟩⟩⟩⟩

theorem K.run14 :
    (((((type_of% @List.length_take.{0}) ∧ (type_of% @List.length_drop.{0})) ∧ ((type_of% @List.length_map.{0, 0}) ∧ (type_of% @List.length_set.{0}))) ∧ (((type_of% @K.mmA.eq_1) ∧ (type_of% @K.mmA.eq_2)) ∧ ((type_of% @K.lenA.eq_1) ∧ (type_of% @K.lenA.eq_2)))) ∧ ((((type_of% @K.lenA.eq_3) ∧ (type_of% @K.lenA.eq_4)) ∧ ((type_of% @K.lenA.eq_5) ∧ (type_of% @Bool.and_true))) ∧ (((type_of% @Bool.and_self) ∧ (type_of% @List.append_nil.{0})) ∧ ((type_of% @Option.map_none.{0, 0}) ∧ (type_of% @K.boundA.eq_1))))) :=
  ⟨⟨⟨⟨@List.length_take.{0}, @List.length_drop.{0}⟩, ⟨@List.length_map.{0, 0}, @List.length_set.{0}⟩⟩, ⟨⟨@K.mmA.eq_1, @K.mmA.eq_2⟩, ⟨@K.lenA.eq_1, @K.lenA.eq_2⟩⟩⟩, ⟨⟨⟨@K.lenA.eq_3, @K.lenA.eq_4⟩, ⟨@K.lenA.eq_5, @Bool.and_true⟩⟩, ⟨⟨@Bool.and_self, @List.append_nil.{0}⟩, ⟨@Option.map_none.{0, 0}, @K.boundA.eq_1⟩⟩⟩⟩

theorem K.run15 :
    (((((type_of% @K.boundA.eq_2) ∧ (type_of% @K.boundA.eq_3)) ∧ ((type_of% @List.all_toArray.{0}) ∧ (type_of% @List.all_toArray'.{0}))) ∧ (((type_of% @List.size_toArray.{0}) ∧ (type_of% @Go.Value.cells.eq_1)) ∧ ((type_of% @Go.Value.cells.eq_2) ∧ (type_of% @Go.Value.oneCell'.eq_1)))) ∧ ((((type_of% @Go.Value.oneCell'.eq_2) ∧ (type_of% @Go.Value.oneCell'.eq_3)) ∧ ((type_of% @List.mapM_cons.{0, 0, 0}) ∧ (type_of% @List.mapM_nil.{0, 0, 0}))) ∧ (((type_of% @Option.pure_def.{0}) ∧ (type_of% @Option.bind_eq_bind.{0})) ∧ ((type_of% @K.litA.eq_1) ∧ (type_of% @K.elemA.eq_1))))) :=
  ⟨⟨⟨⟨@K.boundA.eq_2, @K.boundA.eq_3⟩, ⟨@List.all_toArray.{0}, @List.all_toArray'.{0}⟩⟩, ⟨⟨@List.size_toArray.{0}, @Go.Value.cells.eq_1⟩, ⟨@Go.Value.cells.eq_2, @Go.Value.oneCell'.eq_1⟩⟩⟩, ⟨⟨⟨@Go.Value.oneCell'.eq_2, @Go.Value.oneCell'.eq_3⟩, ⟨@List.mapM_cons.{0, 0, 0}, @List.mapM_nil.{0, 0, 0}⟩⟩, ⟨⟨@Option.pure_def.{0}, @Option.bind_eq_bind.{0}⟩, ⟨@K.litA.eq_1, @K.elemA.eq_1⟩⟩⟩⟩

theorem K.run16 :
    (((((type_of% @K.elemA.eq_2) ∧ (type_of% @K.upTo.eq_1)) ∧ ((type_of% @K.upTo.eq_2) ∧ (type_of% @K.noOwn_nil))) ∧ (((type_of% @K.noOwn_cons) ∧ (type_of% @K.noOwn1.eq_1)) ∧ ((type_of% @K.eptrNow.eq_1) ∧ (type_of% @K.sliceA.eq_1)))) ∧ ((((type_of% @K.sliceA.eq_2) ∧ (type_of% @K.sliceA.eq_3)) ∧ ((type_of% @K.sliceA.eq_4) ∧ (type_of% @K.sliceA.eq_5))) ∧ (((type_of% @K.sub.eq_1) ∧ (type_of% @K.sub.eq_2)) ∧ ((type_of% @K.eview.eq_1) ∧ (type_of% @Option.map_eq_some_iff.{0, 0}))))) :=
  ⟨⟨⟨⟨@K.elemA.eq_2, @K.upTo.eq_1⟩, ⟨@K.upTo.eq_2, @K.noOwn_nil⟩⟩, ⟨⟨@K.noOwn_cons, @K.noOwn1.eq_1⟩, ⟨@K.eptrNow.eq_1, @K.sliceA.eq_1⟩⟩⟩, ⟨⟨⟨@K.sliceA.eq_2, @K.sliceA.eq_3⟩, ⟨@K.sliceA.eq_4, @K.sliceA.eq_5⟩⟩, ⟨⟨@K.sub.eq_1, @K.sub.eq_2⟩, ⟨@K.eview.eq_1, @Option.map_eq_some_iff.{0, 0}⟩⟩⟩⟩

theorem K.run17 :
    (((((type_of% @List.append_assoc.{0}) ∧ (type_of% @List.singleton_append.{0})) ∧ ((type_of% @K.litK.eq_1) ∧ (type_of% @K.anyK.eq_1))) ∧ (((type_of% @K.ownedDst.eq_1) ∧ (type_of% @List.contains_nil.{0})) ∧ ((type_of% @List.contains_cons.{0}) ∧ (type_of% @Bool.or_false)))) ∧ ((((type_of% @Bool.false_or) ∧ (type_of% @Bool.or_self)) ∧ ((type_of% @Bool.true_or) ∧ (type_of% @Bool.or_true))) ∧ (((type_of% @K.srcA.eq_1) ∧ (type_of% @K.srcA.eq_2)) ∧ ((type_of% @K.srcA.eq_3) ∧ (type_of% @K.srcA.eq_4))))) :=
  ⟨⟨⟨⟨@List.append_assoc.{0}, @List.singleton_append.{0}⟩, ⟨@K.litK.eq_1, @K.anyK.eq_1⟩⟩, ⟨⟨@K.ownedDst.eq_1, @List.contains_nil.{0}⟩, ⟨@List.contains_cons.{0}, @Bool.or_false⟩⟩⟩, ⟨⟨⟨@Bool.false_or, @Bool.or_self⟩, ⟨@Bool.true_or, @Bool.or_true⟩⟩, ⟨⟨@K.srcA.eq_1, @K.srcA.eq_2⟩, ⟨@K.srcA.eq_3, @K.srcA.eq_4⟩⟩⟩⟩

theorem K.run18 :
    (((((type_of% @K.srcA.eq_5) ∧ (type_of% @K.makeA.eq_1)) ∧ ((type_of% @K.asI.eq_1) ∧ (type_of% @K.asI.eq_2))) ∧ (((type_of% @K.makeA.isTup.eq_1) ∧ (type_of% @K.makeA.isTup.eq_2)) ∧ ((type_of% @K.storeE.eq_1) ∧ (type_of% @K.storeE.eq_2)))) ∧ ((((type_of% @K.setE.eq_1) ∧ (type_of% @K.setE.eq_2)) ∧ ((type_of% @K.aggB.eq_1) ∧ (type_of% @K.aggB.eq_2))) ∧ (((type_of% @K.litElems.eq_1) ∧ (type_of% @K.zeroE.eq_1)) ∧ ((type_of% @K.zeroE.eq_2) ∧ (type_of% @List.isEmpty_nil.{0}))))) :=
  ⟨⟨⟨⟨@K.srcA.eq_5, @K.makeA.eq_1⟩, ⟨@K.asI.eq_1, @K.asI.eq_2⟩⟩, ⟨⟨@K.makeA.isTup.eq_1, @K.makeA.isTup.eq_2⟩, ⟨@K.storeE.eq_1, @K.storeE.eq_2⟩⟩⟩, ⟨⟨⟨@K.setE.eq_1, @K.setE.eq_2⟩, ⟨@K.aggB.eq_1, @K.aggB.eq_2⟩⟩, ⟨⟨@K.litElems.eq_1, @K.zeroE.eq_1⟩, ⟨@K.zeroE.eq_2, @List.isEmpty_nil.{0}⟩⟩⟩⟩

theorem K.run19 :
    (((((type_of% @List.take_length.{0}) ∧ (type_of% @K.isStrA_sl)) ∧ ((type_of% @K.isStrA_ref) ∧ (type_of% @K.isStrA_lit))) ∧ (((type_of% @K.isStrA_str) ∧ (type_of% @List.length_replicate.{0})) ∧ ((type_of% @K.getX0) ∧ (type_of% @K.getX1)))) ∧ ((((type_of% @K.getX2) ∧ (type_of% @K.getX3)) ∧ ((type_of% @K.getXn) ∧ (type_of% @K.setX0))) ∧ (((type_of% @K.setX1) ∧ (type_of% @K.setX2)) ∧ ((type_of% @K.setX3) ∧ (type_of% @K.Wd_true))))) :=
  ⟨⟨⟨⟨@List.take_length.{0}, @K.isStrA_sl⟩, ⟨@K.isStrA_ref, @K.isStrA_lit⟩⟩, ⟨⟨@K.isStrA_str, @List.length_replicate.{0}⟩, ⟨@K.getX0, @K.getX1⟩⟩⟩, ⟨⟨⟨@K.getX2, @K.getX3⟩, ⟨@K.getXn, @K.setX0⟩⟩, ⟨⟨@K.setX1, @K.setX2⟩, ⟨@K.setX3, @K.Wd_true⟩⟩⟩⟩

theorem K.run20 :
    (((((type_of% @K.Wd_false) ∧ (type_of% @K.app_W)) ∧ ((type_of% @K.le_WW) ∧ (type_of% @K.KCW))) ∧ (((type_of% @K.KWW) ∧ (type_of% @K.KAW)) ∧ ((type_of% @K.KCA) ∧ (type_of% @K.KAA)))) ∧ ((((type_of% @K.storeW.eq_1) ∧ (type_of% @K.storeW.eq_2)) ∧ ((type_of% @K.rdA.eq_1) ∧ (type_of% @K.rdA.eq_2))) ∧ (((type_of% @K.rdA.eq_3) ∧ (type_of% @K.rdA.eq_4)) ∧ ((type_of% @K.rdB.eq_1) ∧ (type_of% @K.rdB.eq_2))))) :=
  ⟨⟨⟨⟨@K.Wd_false, @K.app_W⟩, ⟨@K.le_WW, @K.KCW⟩⟩, ⟨⟨@K.KWW, @K.KAW⟩, ⟨@K.KCA, @K.KAA⟩⟩⟩, ⟨⟨⟨@K.storeW.eq_1, @K.storeW.eq_2⟩, ⟨@K.rdA.eq_1, @K.rdA.eq_2⟩⟩, ⟨⟨@K.rdA.eq_3, @K.rdA.eq_4⟩, ⟨@K.rdB.eq_1, @K.rdB.eq_2⟩⟩⟩⟩

theorem K.run21 :
    (((((type_of% @K.rdB.eq_3) ∧ (type_of% @K.rdB.eq_4)) ∧ ((type_of% @K.rdB.eq_5) ∧ (type_of% @K.rdB.eq_6))) ∧ (((type_of% @K.rdB.eq_7) ∧ (type_of% @K.isW_range)) ∧ ((type_of% @K.isW_none) ∧ (type_of% @K.isW_any)))) ∧ ((((type_of% @K.rangeW.eq_1) ∧ (type_of% @K.rangeW.eq_2)) ∧ ((type_of% @K.appW.eq_1) ∧ (type_of% @K.appW.eq_2))) ∧ (((type_of% @K.rowsAt_E) ∧ (type_of% @K.rowsAt_any)) ∧ ((type_of% @Bool.false_and) ∧ (type_of% @Bool.true_and))))) :=
  ⟨⟨⟨⟨@K.rdB.eq_3, @K.rdB.eq_4⟩, ⟨@K.rdB.eq_5, @K.rdB.eq_6⟩⟩, ⟨⟨@K.rdB.eq_7, @K.isW_range⟩, ⟨@K.isW_none, @K.isW_any⟩⟩⟩, ⟨⟨⟨@K.rangeW.eq_1, @K.rangeW.eq_2⟩, ⟨@K.appW.eq_1, @K.appW.eq_2⟩⟩, ⟨⟨@K.rowsAt_E, @K.rowsAt_any⟩, ⟨@Bool.false_and, @Bool.true_and⟩⟩⟩⟩

theorem K.run22 :
    ((((type_of% @List.filterMap_cons.{0, 0}) ∧ ((type_of% @List.filterMap_nil.{0, 0}) ∧ (type_of% @K.eqIs.eq_1))) ∧ ((type_of% @K.eqIs.eq_2) ∧ ((type_of% @K.eqIs.eq_3) ∧ (type_of% @K.kindQ.eq_1)))) ∧ (((type_of% @K.kindQ.eq_2) ∧ ((type_of% @K.absA.eq_1) ∧ (type_of% @K.absA.eq_2))) ∧ (((type_of% @K.absA.eq_3) ∧ (type_of% @K.absA.eq_4)) ∧ ((type_of% @K.absG.eq_1) ∧ (type_of% @K.absG.eq_2))))) :=
  ⟨⟨⟨@List.filterMap_cons.{0, 0}, ⟨@List.filterMap_nil.{0, 0}, @K.eqIs.eq_1⟩⟩, ⟨@K.eqIs.eq_2, ⟨@K.eqIs.eq_3, @K.kindQ.eq_1⟩⟩⟩, ⟨⟨@K.kindQ.eq_2, ⟨@K.absA.eq_1, @K.absA.eq_2⟩⟩, ⟨⟨@K.absA.eq_3, @K.absA.eq_4⟩, ⟨@K.absG.eq_1, @K.absG.eq_2⟩⟩⟩⟩

end Go.Proofs.YtllcljajlemmaaaDoor
/-
  Facts on the types of this seat's program.
-/
namespace Go.Proofs.YtllcljajlemmaaaDoor
open Go K
theorem hmix : Tryd.prog.follows .mixedOrders = true := by kernel_rfl
theorem ty_c2 : Tryd.prog.cellsOf 2 = 1 := by kernel_rfl
theorem ty_i2 : (Tryd.prog.info? 2).isSome = true := by kernel_rfl
theorem ty_u2 : (Tryd.prog.underlying 2).isSome = true := by kernel_rfl
theorem ty_a2 : aggT Tryd.prog 2 = false := by kernel_rfl
theorem ty_w2 : (decide (Tryd.prog.bytesOf 2 ≤ 1024)) = true := by kernel_rfl
theorem ty_z2 : zeroOf Tryd.prog 2 = some (.int .i64 0) := by kernel_rfl
theorem ty_c3 : Tryd.prog.cellsOf 3 = 1 := by kernel_rfl
theorem ty_i3 : (Tryd.prog.info? 3).isSome = true := by kernel_rfl
theorem ty_u3 : (Tryd.prog.underlying 3).isSome = true := by kernel_rfl
theorem ty_a3 : aggT Tryd.prog 3 = false := by kernel_rfl
theorem ty_w3 : (decide (Tryd.prog.bytesOf 3 ≤ 1024)) = true := by kernel_rfl
theorem ty_z3 : zeroOf Tryd.prog 3 = some (.int .i64 0) := by kernel_rfl
theorem ty_c4 : Tryd.prog.cellsOf 4 = 1 := by kernel_rfl
theorem ty_i4 : (Tryd.prog.info? 4).isSome = true := by kernel_rfl
theorem ty_u4 : (Tryd.prog.underlying 4).isSome = true := by kernel_rfl
theorem ty_a4 : aggT Tryd.prog 4 = false := by kernel_rfl
theorem ty_w4 : (decide (Tryd.prog.bytesOf 4 ≤ 1024)) = true := by kernel_rfl
theorem ty_b4 : isBoolT Tryd.prog 4 = true := by kernel_rfl
theorem ty_z4 : zeroOf Tryd.prog 4 = some (.bool false) := by kernel_rfl
theorem ty_c5 : Tryd.prog.cellsOf 5 = 1 := by kernel_rfl
theorem ty_i5 : (Tryd.prog.info? 5).isSome = true := by kernel_rfl
theorem ty_u5 : (Tryd.prog.underlying 5).isSome = true := by kernel_rfl
theorem ty_a5 : aggT Tryd.prog 5 = false := by kernel_rfl
theorem ty_w5 : (decide (Tryd.prog.bytesOf 5 ≤ 1024)) = true := by kernel_rfl
theorem ty_z5 : zeroOf Tryd.prog 5 = some (.int .u8 0) := by kernel_rfl
theorem ty_c9 : Tryd.prog.cellsOf 9 = 1 := by kernel_rfl
theorem ty_i9 : (Tryd.prog.info? 9).isSome = true := by kernel_rfl
theorem ty_u9 : (Tryd.prog.underlying 9).isSome = true := by kernel_rfl
theorem ty_a9 : aggT Tryd.prog 9 = false := by kernel_rfl
theorem ty_w9 : (decide (Tryd.prog.bytesOf 9 ≤ 1024)) = true := by kernel_rfl
theorem ty_z9 : zeroOf Tryd.prog 9 = some (.string ⟨#[]⟩) := by kernel_rfl
theorem ty_c12 : Tryd.prog.cellsOf 12 = 1 := by kernel_rfl
theorem ty_i12 : (Tryd.prog.info? 12).isSome = true := by kernel_rfl
theorem ty_u12 : (Tryd.prog.underlying 12).isSome = true := by kernel_rfl
theorem ty_a12 : aggT Tryd.prog 12 = false := by kernel_rfl
theorem ty_w12 : (decide (Tryd.prog.bytesOf 12 ≤ 1024)) = true := by kernel_rfl
theorem ty_z12 : zeroOf Tryd.prog 12 = some (.int .u64 0) := by kernel_rfl
theorem ty_c21 : Tryd.prog.cellsOf 21 = 1 := by kernel_rfl
theorem ty_i21 : (Tryd.prog.info? 21).isSome = true := by kernel_rfl
theorem ty_u21 : (Tryd.prog.underlying 21).isSome = true := by kernel_rfl
theorem ty_a21 : aggT Tryd.prog 21 = false := by kernel_rfl
theorem ty_w21 : (decide (Tryd.prog.bytesOf 21 ≤ 1024)) = true := by kernel_rfl
theorem ty_z21 : zeroOf Tryd.prog 21 = some (.int .i32 0) := by kernel_rfl
theorem ty_c22 : Tryd.prog.cellsOf 22 = 1 := by kernel_rfl
theorem ty_i22 : (Tryd.prog.info? 22).isSome = true := by kernel_rfl
theorem ty_u22 : (Tryd.prog.underlying 22).isSome = true := by kernel_rfl
theorem ty_a22 : aggT Tryd.prog 22 = false := by kernel_rfl
theorem ty_w22 : (decide (Tryd.prog.bytesOf 22 ≤ 1024)) = true := by kernel_rfl
theorem ty_z22 : zeroOf Tryd.prog 22 = some (.slice none 0 0) := by kernel_rfl
theorem ty_c28 : Tryd.prog.cellsOf 28 = 1 := by kernel_rfl
theorem ty_i28 : (Tryd.prog.info? 28).isSome = true := by kernel_rfl
theorem ty_u28 : (Tryd.prog.underlying 28).isSome = true := by kernel_rfl
theorem ty_a28 : aggT Tryd.prog 28 = false := by kernel_rfl
theorem ty_w28 : (decide (Tryd.prog.bytesOf 28 ≤ 1024)) = true := by kernel_rfl
theorem ty_z28 : zeroOf Tryd.prog 28 = some (.slice none 0 0) := by kernel_rfl
theorem ty_c34 : Tryd.prog.cellsOf 34 = 1 := by kernel_rfl
theorem ty_i34 : (Tryd.prog.info? 34).isSome = true := by kernel_rfl
theorem ty_u34 : (Tryd.prog.underlying 34).isSome = true := by kernel_rfl
theorem ty_a34 : aggT Tryd.prog 34 = false := by kernel_rfl
theorem ty_w34 : (decide (Tryd.prog.bytesOf 34 ≤ 1024)) = true := by kernel_rfl
theorem ty_z34 : zeroOf Tryd.prog 34 = some (.slice none 0 0) := by kernel_rfl
theorem ty_c36 : Tryd.prog.cellsOf 36 = 1 := by kernel_rfl
theorem ty_i36 : (Tryd.prog.info? 36).isSome = true := by kernel_rfl
theorem ty_u36 : (Tryd.prog.underlying 36).isSome = true := by kernel_rfl
theorem ty_a36 : aggT Tryd.prog 36 = false := by kernel_rfl
theorem ty_w36 : (decide (Tryd.prog.bytesOf 36 ≤ 1024)) = true := by kernel_rfl
theorem ty_z36 : zeroOf Tryd.prog 36 = some (.slice none 0 0) := by kernel_rfl
theorem ty_c38 : Tryd.prog.cellsOf 38 = 2 := by kernel_rfl
theorem ty_i38 : (Tryd.prog.info? 38).isSome = true := by kernel_rfl
theorem ty_u38 : (Tryd.prog.underlying 38).isSome = true := by kernel_rfl
theorem ty_a38 : aggT Tryd.prog 38 = true := by kernel_rfl
theorem ty_w38 : (decide (Tryd.prog.bytesOf 38 ≤ 1024)) = true := by kernel_rfl
theorem ty_z38 : zeroOf Tryd.prog 38 = some (.agg #[.slice none 0 0, .slice none 0 0]) := by kernel_rfl
theorem ty_f38_0 : fieldOf Tryd.prog 38 0 = some (0, 36) := by kernel_rfl
theorem ty_f38_1 : fieldOf Tryd.prog 38 1 = some (1, 36) := by kernel_rfl
theorem ty_c39 : Tryd.prog.cellsOf 39 = 2 := by kernel_rfl
theorem ty_i39 : (Tryd.prog.info? 39).isSome = true := by kernel_rfl
theorem ty_u39 : (Tryd.prog.underlying 39).isSome = true := by kernel_rfl
theorem ty_a39 : aggT Tryd.prog 39 = true := by kernel_rfl
theorem ty_w39 : (decide (Tryd.prog.bytesOf 39 ≤ 1024)) = true := by kernel_rfl
theorem ty_z39 : zeroOf Tryd.prog 39 = some (.agg #[.slice none 0 0, .slice none 0 0]) := by kernel_rfl
theorem ty_f39_0 : fieldOf Tryd.prog 39 0 = some (0, 36) := by kernel_rfl
theorem ty_f39_1 : fieldOf Tryd.prog 39 1 = some (1, 36) := by kernel_rfl
theorem ty_c49 : Tryd.prog.cellsOf 49 = 2 := by kernel_rfl
theorem ty_i49 : (Tryd.prog.info? 49).isSome = true := by kernel_rfl
theorem ty_u49 : (Tryd.prog.underlying 49).isSome = true := by kernel_rfl
theorem ty_a49 : aggT Tryd.prog 49 = true := by kernel_rfl
theorem ty_w49 : (decide (Tryd.prog.bytesOf 49 ≤ 1024)) = true := by kernel_rfl
theorem ty_z49 : zeroOf Tryd.prog 49 = some (.agg #[.slice none 0 0, .slice none 0 0]) := by kernel_rfl
theorem ty_f49_0 : fieldOf Tryd.prog 49 0 = some (0, 36) := by kernel_rfl
theorem ty_f49_1 : fieldOf Tryd.prog 49 1 = some (1, 36) := by kernel_rfl
theorem ty_c67 : Tryd.prog.cellsOf 67 = 1 := by kernel_rfl
theorem ty_i67 : (Tryd.prog.info? 67).isSome = true := by kernel_rfl
theorem ty_u67 : (Tryd.prog.underlying 67).isSome = true := by kernel_rfl
theorem ty_a67 : aggT Tryd.prog 67 = false := by kernel_rfl
theorem ty_w67 : (decide (Tryd.prog.bytesOf 67 ≤ 1024)) = true := by kernel_rfl
theorem ty_z67 : zeroOf Tryd.prog 67 = some (.slice none 0 0) := by kernel_rfl
theorem ty_c75 : Tryd.prog.cellsOf 75 = 1 := by kernel_rfl
theorem ty_i75 : (Tryd.prog.info? 75).isSome = true := by kernel_rfl
theorem ty_u75 : (Tryd.prog.underlying 75).isSome = true := by kernel_rfl
theorem ty_a75 : aggT Tryd.prog 75 = false := by kernel_rfl
theorem ty_w75 : (decide (Tryd.prog.bytesOf 75 ≤ 1024)) = true := by kernel_rfl
theorem ty_z75 : zeroOf Tryd.prog 75 = some (.pointer none) := by kernel_rfl
theorem ty_c80 : Tryd.prog.cellsOf 80 = 1 := by kernel_rfl
theorem ty_i80 : (Tryd.prog.info? 80).isSome = true := by kernel_rfl
theorem ty_u80 : (Tryd.prog.underlying 80).isSome = true := by kernel_rfl
theorem ty_a80 : aggT Tryd.prog 80 = false := by kernel_rfl
theorem ty_w80 : (decide (Tryd.prog.bytesOf 80 ≤ 1024)) = true := by kernel_rfl
theorem ty_z80 : zeroOf Tryd.prog 80 = some (.int .u64 0) := by kernel_rfl
theorem ty_c91 : Tryd.prog.cellsOf 91 = 1 := by kernel_rfl
theorem ty_i91 : (Tryd.prog.info? 91).isSome = true := by kernel_rfl
theorem ty_u91 : (Tryd.prog.underlying 91).isSome = true := by kernel_rfl
theorem ty_a91 : aggT Tryd.prog 91 = false := by kernel_rfl
theorem ty_w91 : (decide (Tryd.prog.bytesOf 91 ≤ 1024)) = true := by kernel_rfl
theorem ty_z91 : zeroOf Tryd.prog 91 = some (.int .u32 0) := by kernel_rfl
theorem ty_c94 : Tryd.prog.cellsOf 94 = 1 := by kernel_rfl
theorem ty_i94 : (Tryd.prog.info? 94).isSome = true := by kernel_rfl
theorem ty_u94 : (Tryd.prog.underlying 94).isSome = true := by kernel_rfl
theorem ty_a94 : aggT Tryd.prog 94 = false := by kernel_rfl
theorem ty_w94 : (decide (Tryd.prog.bytesOf 94 ≤ 1024)) = true := by kernel_rfl
theorem ty_z94 : zeroOf Tryd.prog 94 = some (.int .u64 0) := by kernel_rfl
theorem ok_f3 : okFn Tryd.prog 3 = true := by kernel_rfl
theorem ok_f4 : okFn Tryd.prog 4 = true := by kernel_rfl
theorem ok_f5 : okFn Tryd.prog 5 = true := by kernel_rfl
theorem ok_f6 : okFn Tryd.prog 6 = true := by kernel_rfl
theorem ok_f7 : okFn Tryd.prog 7 = true := by kernel_rfl
theorem ok_f8 : okFn Tryd.prog 8 = true := by kernel_rfl
theorem ok_f9 : okFn Tryd.prog 9 = true := by kernel_rfl
theorem ok_f10 : okFn Tryd.prog 10 = true := by kernel_rfl
theorem ok_f11 : okFn Tryd.prog 11 = true := by kernel_rfl
theorem ok_f12 : okFn Tryd.prog 12 = true := by kernel_rfl
theorem ok_f13 : okFn Tryd.prog 13 = true := by kernel_rfl
theorem ok_f14 : okFn Tryd.prog 14 = true := by kernel_rfl
theorem ok_f15 : okFn Tryd.prog 15 = true := by kernel_rfl
theorem ok_f16 : okFn Tryd.prog 16 = true := by kernel_rfl
theorem ok_f17 : okFn Tryd.prog 17 = true := by kernel_rfl
theorem ok_f18 : okFn Tryd.prog 18 = true := by kernel_rfl
theorem ok_f19 : okFn Tryd.prog 19 = true := by kernel_rfl
theorem ok_f20 : okFn Tryd.prog 20 = true := by kernel_rfl
theorem ok_f21 : okFn Tryd.prog 21 = true := by kernel_rfl
theorem ok_f22 : okFn Tryd.prog 22 = true := by kernel_rfl
theorem ok_f23 : okFn Tryd.prog 23 = true := by kernel_rfl
theorem ok_f24 : okFn Tryd.prog 24 = true := by kernel_rfl
theorem ok_f25 : okFn Tryd.prog 25 = true := by kernel_rfl
theorem ok_f26 : okFn Tryd.prog 26 = true := by kernel_rfl
theorem ok_f27 : okFn Tryd.prog 27 = true := by kernel_rfl
theorem ok_f28 : okFn Tryd.prog 28 = true := by kernel_rfl
theorem ok_f29 : okFn Tryd.prog 29 = true := by kernel_rfl
theorem ok_f30 : okFn Tryd.prog 30 = true := by kernel_rfl
theorem ok_f31 : okFn Tryd.prog 31 = true := by kernel_rfl
theorem ok_f32 : okFn Tryd.prog 32 = true := by kernel_rfl
theorem ok_f33 : okFn Tryd.prog 33 = true := by kernel_rfl
theorem ok_f34 : okFn Tryd.prog 34 = true := by kernel_rfl
theorem ok_f35 : okFn Tryd.prog 35 = true := by kernel_rfl
theorem ok_f36 : okFn Tryd.prog 36 = true := by kernel_rfl
theorem ok_f37 : okFn Tryd.prog 37 = true := by kernel_rfl
theorem ok_f38 : okFn Tryd.prog 38 = true := by kernel_rfl
theorem ok_f39 : okFn Tryd.prog 39 = true := by kernel_rfl
theorem ok_f40 : okFn Tryd.prog 40 = true := by kernel_rfl
theorem ok_f41 : okFn Tryd.prog 41 = true := by kernel_rfl
theorem ok_f42 : okFn Tryd.prog 42 = true := by kernel_rfl
theorem ok_f43 : okFn Tryd.prog 43 = true := by kernel_rfl
theorem ok_f44 : okFn Tryd.prog 44 = true := by kernel_rfl
theorem ok_f45 : okFn Tryd.prog 45 = true := by kernel_rfl
theorem ok_f46 : okFn Tryd.prog 46 = true := by kernel_rfl
theorem ok_f47 : okFn Tryd.prog 47 = true := by kernel_rfl
theorem ok_f48 : okFn Tryd.prog 48 = true := by kernel_rfl
theorem ok_f49 : okFn Tryd.prog 49 = true := by kernel_rfl
theorem ok_f50 : okFn Tryd.prog 50 = true := by kernel_rfl
theorem ok_f51 : okFn Tryd.prog 51 = true := by kernel_rfl
theorem ok_f52 : okFn Tryd.prog 52 = true := by kernel_rfl
theorem ok_f53 : okFn Tryd.prog 53 = true := by kernel_rfl
theorem ok_f54 : okFn Tryd.prog 54 = true := by kernel_rfl
theorem ok_f55 : okFn Tryd.prog 55 = true := by kernel_rfl
theorem ok_f56 : okFn Tryd.prog 56 = true := by kernel_rfl
theorem ok_f58 : okFn Tryd.prog 58 = true := by kernel_rfl
theorem ok_f60 : okFn Tryd.prog 60 = true := by kernel_rfl
theorem ok_f61 : okFn Tryd.prog 61 = true := by kernel_rfl
theorem ok_f62 : okFn Tryd.prog 62 = true := by kernel_rfl
theorem ok_f63 : okFn Tryd.prog 63 = true := by kernel_rfl
theorem ok_f64 : okFn Tryd.prog 64 = true := by kernel_rfl
theorem ok_f65 : okFn Tryd.prog 65 = true := by kernel_rfl
theorem ok_f66 : okFn Tryd.prog 66 = true := by kernel_rfl
theorem ok_f67 : okFn Tryd.prog 67 = true := by kernel_rfl
theorem ok_f70 : okFn Tryd.prog 70 = true := by kernel_rfl
theorem ok_f72 : okFn Tryd.prog 72 = true := by kernel_rfl
theorem ok_f73 : okFn Tryd.prog 73 = true := by kernel_rfl
theorem ok_f74 : okFn Tryd.prog 74 = true := by kernel_rfl
theorem ok_f75 : okFn Tryd.prog 75 = true := by kernel_rfl
theorem ok_f76 : okFn Tryd.prog 76 = true := by kernel_rfl
theorem ok_f77 : okFn Tryd.prog 77 = true := by kernel_rfl
theorem ok_f78 : okFn Tryd.prog 78 = true := by kernel_rfl
theorem ok_f79 : okFn Tryd.prog 79 = true := by kernel_rfl
theorem ok_f80 : okFn Tryd.prog 80 = true := by kernel_rfl
theorem ok_f81 : okFn Tryd.prog 81 = true := by kernel_rfl
theorem ok_f82 : okFn Tryd.prog 82 = true := by kernel_rfl
theorem ok_f83 : okFn Tryd.prog 83 = true := by kernel_rfl
theorem ok_f84 : okFn Tryd.prog 84 = true := by kernel_rfl
theorem ok_f85 : okFn Tryd.prog 85 = true := by kernel_rfl
theorem ok_f86 : okFn Tryd.prog 86 = true := by kernel_rfl
theorem ok_f87 : okFn Tryd.prog 87 = true := by kernel_rfl
theorem ok_f88 : okFn Tryd.prog 88 = true := by kernel_rfl
theorem tys0 :
    (((((type_of% @ty_c2) ∧ (type_of% @ty_i2)) ∧ ((type_of% @ty_u2) ∧ (type_of% @ty_a2))) ∧ (((type_of% @ty_w2) ∧ (type_of% @ty_z2)) ∧ ((type_of% @ty_c3) ∧ (type_of% @ty_i3)))) ∧ ((((type_of% @ty_u3) ∧ (type_of% @ty_a3)) ∧ ((type_of% @ty_w3) ∧ (type_of% @ty_z3))) ∧ (((type_of% @ty_c4) ∧ (type_of% @ty_i4)) ∧ ((type_of% @ty_u4) ∧ (type_of% @ty_a4))))) :=
  ⟨⟨⟨⟨@ty_c2, @ty_i2⟩, ⟨@ty_u2, @ty_a2⟩⟩, ⟨⟨@ty_w2, @ty_z2⟩, ⟨@ty_c3, @ty_i3⟩⟩⟩, ⟨⟨⟨@ty_u3, @ty_a3⟩, ⟨@ty_w3, @ty_z3⟩⟩, ⟨⟨@ty_c4, @ty_i4⟩, ⟨@ty_u4, @ty_a4⟩⟩⟩⟩
theorem tys1 :
    (((((type_of% @ty_w4) ∧ (type_of% @ty_b4)) ∧ ((type_of% @ty_z4) ∧ (type_of% @ty_c5))) ∧ (((type_of% @ty_i5) ∧ (type_of% @ty_u5)) ∧ ((type_of% @ty_a5) ∧ (type_of% @ty_w5)))) ∧ ((((type_of% @ty_z5) ∧ (type_of% @ty_c9)) ∧ ((type_of% @ty_i9) ∧ (type_of% @ty_u9))) ∧ (((type_of% @ty_a9) ∧ (type_of% @ty_w9)) ∧ ((type_of% @ty_z9) ∧ (type_of% @ty_c12))))) :=
  ⟨⟨⟨⟨@ty_w4, @ty_b4⟩, ⟨@ty_z4, @ty_c5⟩⟩, ⟨⟨@ty_i5, @ty_u5⟩, ⟨@ty_a5, @ty_w5⟩⟩⟩, ⟨⟨⟨@ty_z5, @ty_c9⟩, ⟨@ty_i9, @ty_u9⟩⟩, ⟨⟨@ty_a9, @ty_w9⟩, ⟨@ty_z9, @ty_c12⟩⟩⟩⟩
theorem tys2 :
    (((((type_of% @ty_i12) ∧ (type_of% @ty_u12)) ∧ ((type_of% @ty_a12) ∧ (type_of% @ty_w12))) ∧ (((type_of% @ty_z12) ∧ (type_of% @ty_c21)) ∧ ((type_of% @ty_i21) ∧ (type_of% @ty_u21)))) ∧ ((((type_of% @ty_a21) ∧ (type_of% @ty_w21)) ∧ ((type_of% @ty_z21) ∧ (type_of% @ty_c22))) ∧ (((type_of% @ty_i22) ∧ (type_of% @ty_u22)) ∧ ((type_of% @ty_a22) ∧ (type_of% @ty_w22))))) :=
  ⟨⟨⟨⟨@ty_i12, @ty_u12⟩, ⟨@ty_a12, @ty_w12⟩⟩, ⟨⟨@ty_z12, @ty_c21⟩, ⟨@ty_i21, @ty_u21⟩⟩⟩, ⟨⟨⟨@ty_a21, @ty_w21⟩, ⟨@ty_z21, @ty_c22⟩⟩, ⟨⟨@ty_i22, @ty_u22⟩, ⟨@ty_a22, @ty_w22⟩⟩⟩⟩
theorem tys3 :
    (((((type_of% @ty_z22) ∧ (type_of% @ty_c28)) ∧ ((type_of% @ty_i28) ∧ (type_of% @ty_u28))) ∧ (((type_of% @ty_a28) ∧ (type_of% @ty_w28)) ∧ ((type_of% @ty_z28) ∧ (type_of% @ty_c34)))) ∧ ((((type_of% @ty_i34) ∧ (type_of% @ty_u34)) ∧ ((type_of% @ty_a34) ∧ (type_of% @ty_w34))) ∧ (((type_of% @ty_z34) ∧ (type_of% @ty_c36)) ∧ ((type_of% @ty_i36) ∧ (type_of% @ty_u36))))) :=
  ⟨⟨⟨⟨@ty_z22, @ty_c28⟩, ⟨@ty_i28, @ty_u28⟩⟩, ⟨⟨@ty_a28, @ty_w28⟩, ⟨@ty_z28, @ty_c34⟩⟩⟩, ⟨⟨⟨@ty_i34, @ty_u34⟩, ⟨@ty_a34, @ty_w34⟩⟩, ⟨⟨@ty_z34, @ty_c36⟩, ⟨@ty_i36, @ty_u36⟩⟩⟩⟩
theorem tys4 :
    (((((type_of% @ty_a36) ∧ (type_of% @ty_w36)) ∧ ((type_of% @ty_z36) ∧ (type_of% @ty_c38))) ∧ (((type_of% @ty_i38) ∧ (type_of% @ty_u38)) ∧ ((type_of% @ty_a38) ∧ (type_of% @ty_w38)))) ∧ ((((type_of% @ty_z38) ∧ (type_of% @ty_f38_0)) ∧ ((type_of% @ty_f38_1) ∧ (type_of% @ty_c39))) ∧ (((type_of% @ty_i39) ∧ (type_of% @ty_u39)) ∧ ((type_of% @ty_a39) ∧ (type_of% @ty_w39))))) :=
  ⟨⟨⟨⟨@ty_a36, @ty_w36⟩, ⟨@ty_z36, @ty_c38⟩⟩, ⟨⟨@ty_i38, @ty_u38⟩, ⟨@ty_a38, @ty_w38⟩⟩⟩, ⟨⟨⟨@ty_z38, @ty_f38_0⟩, ⟨@ty_f38_1, @ty_c39⟩⟩, ⟨⟨@ty_i39, @ty_u39⟩, ⟨@ty_a39, @ty_w39⟩⟩⟩⟩
theorem tys5 :
    (((((type_of% @ty_z39) ∧ (type_of% @ty_f39_0)) ∧ ((type_of% @ty_f39_1) ∧ (type_of% @ty_c49))) ∧ (((type_of% @ty_i49) ∧ (type_of% @ty_u49)) ∧ ((type_of% @ty_a49) ∧ (type_of% @ty_w49)))) ∧ ((((type_of% @ty_z49) ∧ (type_of% @ty_f49_0)) ∧ ((type_of% @ty_f49_1) ∧ (type_of% @ty_c67))) ∧ (((type_of% @ty_i67) ∧ (type_of% @ty_u67)) ∧ ((type_of% @ty_a67) ∧ (type_of% @ty_w67))))) :=
  ⟨⟨⟨⟨@ty_z39, @ty_f39_0⟩, ⟨@ty_f39_1, @ty_c49⟩⟩, ⟨⟨@ty_i49, @ty_u49⟩, ⟨@ty_a49, @ty_w49⟩⟩⟩, ⟨⟨⟨@ty_z49, @ty_f49_0⟩, ⟨@ty_f49_1, @ty_c67⟩⟩, ⟨⟨@ty_i67, @ty_u67⟩, ⟨@ty_a67, @ty_w67⟩⟩⟩⟩
theorem tys6 :
    (((((type_of% @ty_z67) ∧ (type_of% @ty_c75)) ∧ ((type_of% @ty_i75) ∧ (type_of% @ty_u75))) ∧ (((type_of% @ty_a75) ∧ (type_of% @ty_w75)) ∧ ((type_of% @ty_z75) ∧ (type_of% @ty_c80)))) ∧ ((((type_of% @ty_i80) ∧ (type_of% @ty_u80)) ∧ ((type_of% @ty_a80) ∧ (type_of% @ty_w80))) ∧ (((type_of% @ty_z80) ∧ (type_of% @ty_c91)) ∧ ((type_of% @ty_i91) ∧ (type_of% @ty_u91))))) :=
  ⟨⟨⟨⟨@ty_z67, @ty_c75⟩, ⟨@ty_i75, @ty_u75⟩⟩, ⟨⟨@ty_a75, @ty_w75⟩, ⟨@ty_z75, @ty_c80⟩⟩⟩, ⟨⟨⟨@ty_i80, @ty_u80⟩, ⟨@ty_a80, @ty_w80⟩⟩, ⟨⟨@ty_z80, @ty_c91⟩, ⟨@ty_i91, @ty_u91⟩⟩⟩⟩
theorem tys7 :
    (((((type_of% @ty_a91) ∧ (type_of% @ty_w91)) ∧ ((type_of% @ty_z91) ∧ (type_of% @ty_c94))) ∧ (((type_of% @ty_i94) ∧ (type_of% @ty_u94)) ∧ ((type_of% @ty_a94) ∧ (type_of% @ty_w94)))) ∧ ((((type_of% @ty_z94) ∧ (type_of% @Tryd.underlying2)) ∧ ((type_of% @Tryd.underlying3) ∧ (type_of% @Tryd.underlying4))) ∧ (((type_of% @Tryd.underlying5) ∧ (type_of% @Tryd.underlying9)) ∧ ((type_of% @Tryd.underlying12) ∧ (type_of% @Tryd.underlying21))))) :=
  ⟨⟨⟨⟨@ty_a91, @ty_w91⟩, ⟨@ty_z91, @ty_c94⟩⟩, ⟨⟨@ty_i94, @ty_u94⟩, ⟨@ty_a94, @ty_w94⟩⟩⟩, ⟨⟨⟨@ty_z94, @Tryd.underlying2⟩, ⟨@Tryd.underlying3, @Tryd.underlying4⟩⟩, ⟨⟨@Tryd.underlying5, @Tryd.underlying9⟩, ⟨@Tryd.underlying12, @Tryd.underlying21⟩⟩⟩⟩
theorem tys8 :
    ((((type_of% @Tryd.underlying22) ∧ ((type_of% @Tryd.underlying28) ∧ (type_of% @Tryd.underlying34))) ∧ ((type_of% @Tryd.underlying36) ∧ ((type_of% @Tryd.underlying38) ∧ (type_of% @Tryd.underlying39)))) ∧ (((type_of% @Tryd.underlying49) ∧ ((type_of% @Tryd.underlying67) ∧ (type_of% @Tryd.underlying75))) ∧ ((type_of% @Tryd.underlying80) ∧ ((type_of% @Tryd.underlying91) ∧ (type_of% @Tryd.underlying94))))) :=
  ⟨⟨⟨@Tryd.underlying22, ⟨@Tryd.underlying28, @Tryd.underlying34⟩⟩, ⟨@Tryd.underlying36, ⟨@Tryd.underlying38, @Tryd.underlying39⟩⟩⟩, ⟨⟨@Tryd.underlying49, ⟨@Tryd.underlying67, @Tryd.underlying75⟩⟩, ⟨@Tryd.underlying80, ⟨@Tryd.underlying91, @Tryd.underlying94⟩⟩⟩⟩
end Go.Proofs.YtllcljajlemmaaaDoor
/-
  Fractions: what the small functions of the program and of the reference come to.
-/
namespace Go.Proofs.YtllcljajlemmaaaDoor
open Go K
set_option linter.unusedSimpArgs false
set_option linter.unusedVariables false
set_option maxHeartbeats 400000

/-- A fraction as a value. -/
def fr (n d : Int) : AV := .agg [.int .i64 n, .int .i64 d]

def inB (n lo hi : Int) : Bool := decide (lo ≤ n) && decide (n ≤ hi)
theorem in_ok (n lo hi : Int) : Ct Tryd.prog 40 [.int .i64 n, .int .i64 lo, .int .i64 hi] [] (.bool (inB n lo hi)) [] := by
  refine Ct.by_ hmix [] Tryd.func40 rfl ?_
  simp only [run0, run1, run2, run3, run4, run5, run6, run7, run8, run9, run10, run11, run12, run13, run14, run15, run16, run17, run18, run19, run20, run21, run22, reduceCtorEq, Nat.reduceEqDiff, Nat.reduceAdd, Nat.reduceSub, Nat.reduceLeDiff, indexAddrA, indexRefA, appendA, strA, Nat.reduceMul, Nat.zero_mul, Nat.reduceMod, Int.reduceEq, Int.reduceLT, Int.reduceLE, Nat.reduceLT, Nat.lt_irrefl, Nat.reduceBEq, tys0, tys1, tys2, tys3, tys4, tys5, tys6, tys7, tys8, Tryd.ntmps40, Tryd.results40]
  refine Rg.split (fun h => ?_) (fun h => ?_) <;> simp only [run0, run1, run2, run3, run4, run5, run6, run7, run8, run9, run10, run11, run12, run13, run14, run15, run16, run17, run18, run19, run20, run21, run22, reduceCtorEq, Nat.reduceEqDiff, Nat.reduceAdd, Nat.reduceSub, Nat.reduceLeDiff, indexAddrA, indexRefA, appendA, strA, Nat.reduceMul, Nat.zero_mul, Nat.reduceMod, Int.reduceEq, Int.reduceLT, Int.reduceLE, Nat.reduceLT, Nat.lt_irrefl, Nat.reduceBEq, tys0, tys1, tys2, tys3, tys4, tys5, tys6, tys7, tys8, Tryd.ntmps40, Tryd.results40, h] <;> exact Fin.eq (by simp [inB, h]) rfl
theorem l1In_ok (n lo hi : Int) : Ct Tryd.prog 31 [.int .i64 n, .int .i64 lo, .int .i64 hi] [] (.bool (inB n lo hi)) [] := by
  refine Ct.by_ hmix [] Tryd.func31 rfl ?_
  simp only [run0, run1, run2, run3, run4, run5, run6, run7, run8, run9, run10, run11, run12, run13, run14, run15, run16, run17, run18, run19, run20, run21, run22, reduceCtorEq, Nat.reduceEqDiff, Nat.reduceAdd, Nat.reduceSub, Nat.reduceLeDiff, indexAddrA, indexRefA, appendA, strA, Nat.reduceMul, Nat.zero_mul, Nat.reduceMod, Int.reduceEq, Int.reduceLT, Int.reduceLE, Nat.reduceLT, Nat.lt_irrefl, Nat.reduceBEq, tys0, tys1, tys2, tys3, tys4, tys5, tys6, tys7, tys8, Tryd.ntmps31, Tryd.results31]
  refine Rg.split (fun h => ?_) (fun h => ?_) <;> simp only [run0, run1, run2, run3, run4, run5, run6, run7, run8, run9, run10, run11, run12, run13, run14, run15, run16, run17, run18, run19, run20, run21, run22, reduceCtorEq, Nat.reduceEqDiff, Nat.reduceAdd, Nat.reduceSub, Nat.reduceLeDiff, indexAddrA, indexRefA, appendA, strA, Nat.reduceMul, Nat.zero_mul, Nat.reduceMod, Int.reduceEq, Int.reduceLT, Int.reduceLE, Nat.reduceLT, Nat.lt_irrefl, Nat.reduceBEq, tys0, tys1, tys2, tys3, tys4, tys5, tys6, tys7, tys8, Tryd.ntmps31, Tryd.results31, h] <;> exact Fin.eq (by simp [inB, h]) rfl

def absW (n : Int) : Int := if n < IntKind.i64.wrap (0 - n) then IntKind.i64.wrap (0 - n) else n
def gcdL : Nat → Int → Int → Int
  | 0, a, _ => a
  | n + 1, a, b => if b = 0 then a else gcdL n b (a.tmod b)
def gcdI (a b : Int) : Int := absW (gcdL (b.natAbs + 1) a b)
theorem tmod_lt {a b : Int} (h : b ≠ 0) : (a.tmod b).natAbs < b.natAbs := by
  rw [Int.natAbs_tmod]
  exact Nat.mod_lt _ (by omega)
theorem gcdL_step {a b : Int} (h : b ≠ 0) : ∀ n m, b.natAbs < n → b.natAbs < m → gcdL n a b = gcdL m a b := by
  intro n
  induction n generalizing a b with
  | zero => intro m h; omega
  | succ n ih =>
    intro m hn hm
    obtain ⟨m, rfl⟩ : ∃ k, m = k + 1 := ⟨m - 1, by omega⟩
    simp only [gcdL, h, if_false]
    by_cases hz : a.tmod b = 0
    · rw [hz]
      have h1 : ∀ k, gcdL k b 0 = b := by intro k; cases k <;> simp [gcdL]
      rw [h1, h1]
    · have := tmod_lt (a := a) h
      exact ih hz m (by omega) (by omega)
theorem gcdL_next {a b : Int} (h : b ≠ 0) : gcdL (b.natAbs + 1) a b = gcdL ((a.tmod b).natAbs + 1) b (a.tmod b) := by
  have := tmod_lt (a := a) h
  rw [show gcdL (b.natAbs + 1) a b = gcdL b.natAbs b (a.tmod b) by simp [gcdL, h]]
  by_cases hz : a.tmod b = 0
  · rw [hz]
    have h1 : ∀ k, gcdL k b 0 = b := by intro k; cases k <;> simp [gcdL]
    rw [h1, h1]
  · exact gcdL_step hz _ _ (by omega) (by omega)

/-- A right fraction. -/
def goodB (n d : Int) : Bool := inB d 1 1000000 && inB n (-1000000) 1000000 && (gcdI n d == 1)
def cmpI (a b : Int) : Int := if a < b then -1 else if b < a then 1 else 0
abbrev w64 (x : Int) : Int := IntKind.i64.wrap x
end Go.Proofs.YtllcljajlemmaaaDoor
/-
  Fractions: comparing two.
-/
namespace Go.Proofs.YtllcljajlemmaaaDoor
open Go K
set_option linter.unusedSimpArgs false
set_option linter.unusedVariables false
set_option maxHeartbeats 400000


theorem inB_iff (n lo hi : Int) : inB n lo hi = true ↔ lo ≤ n ∧ n ≤ hi := by simp [inB]
theorem good_range {n d : Int} (h : goodB n d = true) : 1 ≤ d ∧ d ≤ 1000000 ∧ -1000000 ≤ n ∧ n ≤ 1000000 := by
  simp only [goodB, Bool.and_eq_true, inB_iff] at h
  exact ⟨h.1.1.1, h.1.1.2, h.1.2.1, h.1.2.2⟩
theorem mul_range {a b A B : Int} (hA : 0 ≤ A) (h1 : -A ≤ a) (h2 : a ≤ A) (h3 : -B ≤ b) (h4 : b ≤ B) : -(A * B) ≤ a * b ∧ a * b ≤ A * B := by
  have h : (a * b).natAbs ≤ (A * B).natAbs := by
    rw [Int.natAbs_mul, Int.natAbs_mul]
    exact Nat.mul_le_mul (by omega) (by omega)
  have h5 : 0 ≤ A * B := Int.mul_nonneg hA (by omega)
  omega
theorem w64_id {x : Int} (h1 : -9223372036854775808 ≤ x) (h2 : x ≤ 9223372036854775807) : w64 x = x := by
  show (let m := x % (2 ^ 64 : Int); if true && m ≥ (2 ^ 63 : Int) then m - (2 ^ 64 : Int) else m) = x
  simp only [Bool.true_and, decide_eq_true_eq]
  omega

theorem cmp_same {a b c d : Int} (h1 : goodB a b = true) (h2 : goodB c d = true) : cmpI (w64 (w64 (a * d) - w64 (c * b))) 0 = cmpI (w64 (a * d)) (w64 (c * b)) := by
  have r1 := good_range h1
  have r2 := good_range h2
  have m1 := mul_range (a := a) (b := d) (A := 1000000) (B := 1000000) (by omega) (by omega) (by omega) (by omega) (by omega)
  have m2 := mul_range (a := c) (b := b) (A := 1000000) (B := 1000000) (by omega) (by omega) (by omega) (by omega) (by omega)
  rw [w64_id (x := a * d) (by omega) (by omega), w64_id (x := c * b) (by omega) (by omega), w64_id (by omega) (by omega)]
  unfold cmpI
  split <;> split <;> (try omega) <;> split <;> (try split) <;> omega

end Go.Proofs.YtllcljajlemmaaaDoor
/-
  Fractions: sums, differences, products, quotients.
-/
namespace Go.Proofs.YtllcljajlemmaaaDoor
open Go K
set_option linter.unusedSimpArgs false
set_option linter.unusedVariables false
set_option maxRecDepth 8000
set_option maxHeartbeats 400000

theorem gcdL_size : ∀ (n : Nat) (a b : Int), b.natAbs < n → (gcdL n a b).natAbs ≤ max a.natAbs b.natAbs ∧ (b ≠ 0 → gcdL n a b ≠ 0) ∧ (b = 0 → gcdL n a b = a)
  | 0, a, b, h => by omega
  | n + 1, a, b, h => by
    by_cases hb : b = 0
    · subst hb; simp [gcdL]
    · have h1 := tmod_lt (a := a) hb
      obtain ⟨h2, h3, h4⟩ := gcdL_size n b (a.tmod b) (by omega)
      have e : gcdL (n + 1) a b = gcdL n b (a.tmod b) := by simp [gcdL, hb]
      rw [e]
      refine ⟨by omega, fun _ => ?_, fun h => absurd h hb⟩
      by_cases hz : a.tmod b = 0
      · rw [h4 hz]; exact hb
      · exact h3 hz
theorem absW_small {n : Int} (h : n.natAbs ≤ 9000000000000000000) : absW n = n.natAbs := by
  unfold absW
  have := w64_id (x := 0 - n) (by omega) (by omega)
  simp only [w64] at this
  rw [this]
  split <;> omega
theorem gcdI_pos {n d : Int} (hd : d ≠ 0) (h1 : n.natAbs ≤ 9000000000000000) (h2 : d.natAbs ≤ 9000000000000000) : 1 ≤ gcdI n d ∧ gcdI n d ≤ 9000000000000000 := by
  obtain ⟨h3, h4, _⟩ := gcdL_size (d.natAbs + 1) n d (by omega)
  have h5 := h4 hd
  unfold gcdI
  rw [absW_small (by omega)]
  omega

/-- The divisor of a fraction's parts. -/
def mkG (n d : Int) : Int := if d < 0 then IntKind.i64.wrap (0 - gcdI n d) else gcdI n d
def mkN (n d : Int) : Int := w64 (n.tdiv (mkG n d))
def mkD (n d : Int) : Int := w64 (d.tdiv (mkG n d))
def mkOk (n d : Int) : Bool := goodB (mkN n d) (mkD n d)
def small (n d : Int) : Prop := n.natAbs ≤ 9000000000000000 ∧ d.natAbs ≤ 9000000000000000
theorem mkG_ne {n d : Int} (hd : d ≠ 0) (h : small n d) : mkG n d ≠ 0 := by
  obtain ⟨h1, h2⟩ := gcdI_pos hd h.1 h.2
  unfold mkG
  have := w64_id (x := 0 - gcdI n d) (by omega) (by omega)
  simp only [w64] at this
  split
  · rw [this]; omega
  · omega

end Go.Proofs.YtllcljajlemmaaaDoor
/-
  Fractions: the four operations of the program and of the reference.
-/
namespace Go.Proofs.YtllcljajlemmaaaDoor
open Go K
set_option linter.unusedSimpArgs false
set_option linter.unusedVariables false
set_option maxRecDepth 8000
set_option maxHeartbeats 400000

/-- What an operation gives: nothing, or the fraction of two whole numbers, if it is a right one. -/
def opR (ok : Bool) (n d : Int) : AV := .tup [fr (if ok && mkOk n d then mkN n d else 0) (if ok && mkOk n d then mkD n d else 0), .bool (ok && mkOk n d)]

theorem prod_small {a b : Int} (h1 : a.natAbs ≤ 1000000) (h2 : b.natAbs ≤ 1000000) : (a * b).natAbs ≤ 1000000000000 := by
  rw [Int.natAbs_mul]
  exact Nat.mul_le_mul h1 h2
theorem good_small {n d : Int} (h : goodB n d = true) : n.natAbs ≤ 1000000 ∧ d.natAbs ≤ 1000000 ∧ d ≠ 0 := by
  have := good_range h
  omega
theorem w64_small {x : Int} (h : x.natAbs ≤ 9000000000000000000) : w64 x = x := w64_id (by omega) (by omega)

/-- The two whole numbers of a sum, a product, a difference, a quotient. -/
def addN (a b c d : Int) : Int := w64 (w64 (a * d) + w64 (c * b))
def subN (a b c d : Int) : Int := w64 (w64 (a * d) - w64 (c * b))
/-! ### the reference -/
end Go.Proofs.YtllcljajlemmaaaDoor
/-
  Fractions: the reference's operations, and the four laws.
-/
namespace Go.Proofs.YtllcljajlemmaaaDoor
open Go K
set_option linter.unusedSimpArgs false
set_option linter.unusedVariables false
set_option maxRecDepth 8000
set_option maxHeartbeats 400000

theorem add_small {a b c d : Int} (h1 : goodB a b = true) (h2 : goodB c d = true) : small (addN a b c d) (w64 (b * d)) ∧ w64 (b * d) ≠ 0 := by
  have g1 := good_small h1
  have g2 := good_small h2
  have p1 := prod_small g1.1 g2.2.1
  have p2 := prod_small g1.2.1 g2.2.1
  have p3 := prod_small g2.1 g1.2.1
  have ne : b * d ≠ 0 := Int.mul_ne_zero g1.2.2 g2.2.2
  unfold addN
  rw [w64_small (x := b * d) (by omega), w64_small (x := a * d) (by omega), w64_small (x := c * b) (by omega), w64_small (by omega)]
  exact ⟨⟨by omega, by omega⟩, ne⟩
theorem sub_add {a b c d : Int} (h1 : goodB a b = true) (h2 : goodB c d = true) : addN a b (w64 (0 - c)) d = subN a b c d ∧ small (addN a b (w64 (0 - c)) d) (w64 (b * d)) ∧ w64 (b * d) ≠ 0 := by
  have g1 := good_small h1
  have g2 := good_small h2
  have p1 := prod_small g1.1 g2.2.1
  have p2 := prod_small g1.2.1 g2.2.1
  have p3 := prod_small g2.1 g1.2.1
  have ne : b * d ≠ 0 := Int.mul_ne_zero g1.2.2 g2.2.2
  have e : (0 - c) * b = - (c * b) := by rw [Int.zero_sub, Int.neg_mul]
  unfold addN subN
  rw [w64_small (x := 0 - c) (by omega), e, w64_small (x := b * d) (by omega), w64_small (x := a * d) (by omega), w64_small (x := c * b) (by omega), w64_small (x := - (c * b)) (by omega), w64_small (x := a * d + -(c * b)) (by omega), w64_small (by omega)]
  exact ⟨by omega, ⟨by omega, by omega⟩, ne⟩
theorem div_small {a b c d : Int} (h1 : goodB a b = true) (h2 : goodB c d = true) (h3 : c ≠ 0) : small (w64 (a * d)) (w64 (b * c)) ∧ w64 (b * c) ≠ 0 := by
  have g1 := good_small h1
  have g2 := good_small h2
  have p1 := prod_small g1.1 g2.2.1
  have p2 := prod_small g1.2.1 g2.1
  have ne : b * c ≠ 0 := Int.mul_ne_zero g1.2.2 h3
  rw [w64_small (x := a * d) (by omega), w64_small (x := b * c) (by omega)]
  exact ⟨⟨by omega, by omega⟩, ne⟩

end Go.Proofs.YtllcljajlemmaaaDoor
/-
  Short numbers: the walk of the program along a word.
-/
namespace Go.Proofs.YtllcljajlemmaaaDoor
open Go K
set_option linter.unusedSimpArgs false
set_option linter.unusedVariables false
set_option maxRecDepth 8000
set_option maxHeartbeats 400000

abbrev ints (l : List Int) : List AV := l.map (AV.int .i64)
theorem ints_length (l : List Int) : (ints l).length = l.length := by simp
theorem ints_snoc (l : List Int) (x : Int) : ints l ++ [AV.int .i64 x] = ints (l ++ [x]) := by simp
theorem ints_noOwn (l : List Int) : noOwn (ints l) = true := by simp [noOwn, ints, AV.cells]

/-- The number to which a letter leads. -/
def betw (x side : Int) (low high : List Int) : Int :=
  let other := if side > 0 then high else low
  match other.getLast? with
  | none => w64 (x + w64 (side * 1048576))
  | some y => w64 ((w64 (x + y)).tdiv 2)

theorem betw_nil (x side : Int) : w64 (x + w64 (side * 1048576)) = betw x side [] [] := by simp [betw]
theorem last_wrap {l : List Int} (h : l.length ≤ 1000) : IntKind.i64.wrap (((l.length + 1 : Nat) : Int) - 1) = (l.length : Int) := by
  have := w64_id (x := ((l.length + 1 : Nat) : Int) - 1) (by omega) (by omega)
  simp only [w64] at this
  rw [this]; omega
theorem ints_at (l : List Int) (y : Int) : (ints (l ++ [y]))[l.length]? = some (.int .i64 y) := by simp
theorem betw_up {x side : Int} {low high : List Int} (h : 0 < side) : betw x side low high = (match high.getLast? with | none => w64 (x + w64 (side * 1048576)) | some y => w64 ((w64 (x + y)).tdiv 2)) := by simp [betw, h]
theorem betw_dn {x side : Int} {low high : List Int} (h : ¬ 0 < side) : betw x side low high = (match low.getLast? with | none => w64 (x + w64 (side * 1048576)) | some y => w64 ((w64 (x + y)).tdiv 2)) := by
  unfold betw; simp [h]

theorem nat0 : (((0 : Nat) : Int) == 0) = true := rfl
theorem nat1 (n : Nat) : (((n + 1 : Nat) : Int) == 0) = false := by simp; omega

end Go.Proofs.YtllcljajlemmaaaDoor
/-
  Short numbers: the walk along a word.
-/
namespace Go.Proofs.YtllcljajlemmaaaDoor
open Go K
set_option linter.unusedSimpArgs false
set_option linter.unusedVariables false
set_option maxRecDepth 8000
set_option maxHeartbeats 400000

theorem Vw_ints {L : List AObj} {id g n sz : Nat} {T : TypeId} {es : List AV} {a : List Int} (hL : L[id]? = some (.vec T sz g es)) (he : es = ints a) (hn : n = a.length) : Vw L (.ref id [] g n) (.sl false (ints a)) := by
  subst he hn
  have := Vw.refPur (o := false) hL (n := a.length) (by simp) (fun e he c hc => by
    simp only [ints, List.mem_map] at he
    obtain ⟨i, _, rfl⟩ := he
    simp [AV.cells] at hc
    subst hc
    exact ⟨.int _ _, fun xs h => by cases h⟩)
  rwa [List.take_of_length_le (by simp)] at this

structure Wk where
  nums : List Int
  word : ByteArray
  low : List Int
  high : List Int
  x : Int

def wkSt (cf : FuncId) (cap : List AV) (i : Wk) : St :=
  ⟨[.fn cf cap, .junk, .ref 0 [] i.nums.length i.nums.length, .str i.word, .ref 1 [] i.low.length i.low.length, .ref 2 [] i.high.length i.high.length, .int .i64 i.x, .junk, .junk, .junk, .junk, .junk, .junk, .junk, .junk, .junk, .junk, .junk, .junk, .junk, .junk, .junk, .junk, .junk, .junk, .junk, .junk, .junk, .junk, .junk, .junk, .junk, .junk, .junk, .junk, .junk, .junk, .junk, .junk, .junk, .junk, .junk, .junk, .junk, .junk],
   [.vec 3 1 i.nums.length (ints i.nums), .vec 3 1 i.low.length (ints i.low), .vec 3 1 i.high.length (ints i.high)]⟩

def plusB : ByteArray := ⟨#[43]⟩
def minusB : ByteArray := ⟨#[45]⟩
/-- Where a walk ends. -/
def wkRun (f : Int → Int) : Nat → Wk → Wk
  | 0, i => i
  | k + 1, i =>
    if f i.x = 0 ∨ i.word.size = 20 then { i with nums := i.nums ++ [i.x] }
    else if 0 < f i.x then wkRun f k ⟨i.nums ++ [i.x], i.word ++ plusB, i.low ++ [i.x], i.high, betw i.x (f i.x) (i.low ++ [i.x]) i.high⟩
    else wkRun f k ⟨i.nums ++ [i.x], i.word ++ minusB, i.low, i.high ++ [i.x], betw i.x (f i.x) i.low (i.high ++ [i.x])⟩
def wk0 : Wk := ⟨[], ⟨#[]⟩, [], [], 0⟩
def wkAV (i : Wk) : AV := .tup [.sl false (ints i.nums), .str i.word, .sl false (ints i.low), .sl false (ints i.high)]

def wkR (i : Wk) : AV := .tup [.ref 0 [] i.nums.length i.nums.length, .str i.word, .ref 1 [] i.low.length i.low.length, .ref 2 [] i.high.length i.high.length]
def wkL (i : Wk) : List AObj := [.vec 3 1 i.nums.length (ints i.nums), .vec 3 1 i.low.length (ints i.low), .vec 3 1 i.high.length (ints i.high)]

theorem wkRun_last (f : Int → Int) : ∀ (k : Nat) (i : Wk), (0 < k ∨ ∃ l y, i.nums = l ++ [y]) → ∃ l y, (wkRun f k i).nums = l ++ [y]
  | 0, i, h => by
    rcases h with h | h
    · omega
    · exact h
  | k + 1, i, _ => by
    unfold wkRun
    split
    · exact ⟨_, _, rfl⟩
    · split
      · exact wkRun_last f k _ (.inr ⟨_, _, rfl⟩)
      · exact wkRun_last f k _ (.inr ⟨_, _, rfl⟩)
theorem wkRun_size (f : Int → Int) : ∀ (k : Nat) (i : Wk), (wkRun f k i).nums.length ≤ i.nums.length + k + 1
  | 0, i => by simp [wkRun]
  | k + 1, i => by
    unfold wkRun
    split
    · simp
    · split
      · have := wkRun_size f k ⟨i.nums ++ [i.x], i.word ++ plusB, i.low ++ [i.x], i.high, betw i.x (f i.x) (i.low ++ [i.x]) i.high⟩
        simp at this ⊢; omega
      · have := wkRun_size f k ⟨i.nums ++ [i.x], i.word ++ minusB, i.low, i.high ++ [i.x], betw i.x (f i.x) i.low (i.high ++ [i.x])⟩
        simp at this ⊢; omega

/-- Where a fraction lies, from a number of so many parts. -/
def side (n d : Int) (x : Int) : Int := cmpI (w64 (n * 1048576)) (w64 (x * d))
def wkOf (n d : Int) : Wk := wkRun (side n d) 21 wk0
def shortB (n d : Int) : Bool := goodB n d && (w64 (n * 1048576) == w64 ((wkOf n d).nums.getLastD 0 * d))
def noWk : Wk := ⟨[], ⟨#[]⟩, [], [], 0⟩
def gWk (n d : Int) : Wk := if goodB n d then wkOf n d else noWk

end Go.Proofs.YtllcljajlemmaaaDoor
/-
  Short numbers: what the program's IsShort, WordOf and DayOf come to; the reference's steps.
-/
namespace Go.Proofs.YtllcljajlemmaaaDoor
open Go K
set_option linter.unusedSimpArgs false
set_option linter.unusedVariables false
set_option maxRecDepth 8000
set_option maxHeartbeats 400000

/-- The reference's walk: where it stands, the bounds, and which of them are there. -/
structure Sw where
  an : Int
  ad : Int
  ln : Int
  ld : Int
  hn : Int
  hd : Int
  hasL : Bool
  hasH : Bool
def swV (s : Sw) : AV := .agg [.int .i64 s.an, .int .i64 s.ad, .int .i64 s.ln, .int .i64 s.ld, .int .i64 s.hn, .int .i64 s.hd, .bool s.hasL, .bool s.hasH]

end Go.Proofs.YtllcljajlemmaaaDoor
/-
  Short numbers: a step of the reference's walk.
-/
namespace Go.Proofs.YtllcljajlemmaaaDoor
open Go K
set_option linter.unusedSimpArgs false
set_option linter.unusedVariables false
set_option maxRecDepth 8000
set_option maxHeartbeats 400000

/-- A sum's and a product's parts, where they stay small. -/
def addOk (a b c d : Int) : Prop := w64 (b * d) ≠ 0 ∧ small (addN a b c d) (w64 (b * d))
def sumN (a b c d : Int) : Int := mkN (addN a b c d) (w64 (b * d))
def sumD (a b c d : Int) : Int := mkD (addN a b c d) (w64 (b * d))
def mulOk (a b c d : Int) : Prop := w64 (b * d) ≠ 0 ∧ small (w64 (a * c)) (w64 (b * d))
def mulN (a b c d : Int) : Int := mkN (w64 (a * c)) (w64 (b * d))
def mulD (a b c d : Int) : Int := mkD (w64 (a * c)) (w64 (b * d))
def midN (a b c d : Int) : Int := mulN (sumN a b c d) (sumD a b c d) 1 2
def midD (a b c d : Int) : Int := mulD (sumN a b c d) (sumD a b c d) 1 2
def midOk (a b c d : Int) : Prop := addOk a b c d ∧ mulOk (sumN a b c d) (sumD a b c d) 1 2
/-- A step of the reference's walk. -/
def swStep (s : Sw) (plus : Bool) : Sw :=
  match plus with
  | true => if s.hasH then ⟨midN s.an s.ad s.hn s.hd, midD s.an s.ad s.hn s.hd, s.an, s.ad, s.hn, s.hd, true, true⟩ else ⟨sumN s.an s.ad 1 1, sumD s.an s.ad 1 1, s.an, s.ad, s.hn, s.hd, true, false⟩
  | false => if s.hasL then ⟨midN s.ln s.ld s.an s.ad, midD s.ln s.ld s.an s.ad, s.ln, s.ld, s.an, s.ad, true, true⟩ else ⟨sumN s.an s.ad (-1) 1, sumD s.an s.ad (-1) 1, s.ln, s.ld, s.an, s.ad, false, true⟩
def swOk (s : Sw) (plus : Bool) : Prop :=
  match plus with
  | true => if s.hasH then midOk s.an s.ad s.hn s.hd else addOk s.an s.ad 1 1
  | false => if s.hasL then midOk s.ln s.ld s.an s.ad else addOk s.an s.ad (-1) 1

end Go.Proofs.YtllcljajlemmaaaDoor
/-
  Short numbers: the reference's walk to a fraction.
-/
namespace Go.Proofs.YtllcljajlemmaaaDoor
open Go K
set_option linter.unusedSimpArgs false
set_option linter.unusedVariables false
set_option maxRecDepth 8000
set_option maxHeartbeats 400000

def swCmp (n d : Int) (s : Sw) : Int := cmpI (w64 (w64 (s.an * d) - w64 (n * s.ad))) 0
def sw0 : Sw := ⟨0, 1, 0, 0, 0, 0, false, false⟩
def swRun (n d : Int) : Nat → Sw → ByteArray → ByteArray × Bool
  | 0, _, _ => (⟨#[]⟩, false)
  | k + 1, s, out =>
    if swCmp n d s = 0 then (out, true) else if out.size = 20 then (⟨#[]⟩, false)
    else if swCmp n d s < 0 then swRun n d k (swStep s true) (out ++ plusB) else swRun n d k (swStep s false) (out ++ minusB)
def swGood (n d : Int) : Nat → Sw → ByteArray → Prop
  | 0, _, _ => True
  | k + 1, s, out =>
    swCmp n d s = 0 ∨ out.size = 20 ∨ (swCmp n d s < 0 ∧ swOk s true ∧ swGood n d k (swStep s true) (out ++ plusB)) ∨ (¬ swCmp n d s < 0 ∧ swOk s false ∧ swGood n d k (swStep s false) (out ++ minusB))

end Go.Proofs.YtllcljajlemmaaaDoor
/-
  Short numbers: the plain law of the two walks.
-/
namespace Go.Proofs.YtllcljajlemmaaaDoor
open Go K
set_option linter.unusedSimpArgs false
set_option linter.unusedVariables false
set_option maxRecDepth 8000
set_option maxHeartbeats 400000

theorem gcdL_gcd : ∀ (k : Nat) (a b : Int), b.natAbs < k → (gcdL k a b).natAbs = Nat.gcd a.natAbs b.natAbs
  | 0, a, b, h => by omega
  | k + 1, a, b, h => by
    by_cases hb : b = 0
    · subst hb; simp [gcdL]
    · have h1 := tmod_lt (a := a) hb
      rw [show gcdL (k + 1) a b = gcdL k b (a.tmod b) by simp [gcdL, hb], gcdL_gcd k b (a.tmod b) (by omega), Int.natAbs_tmod, Nat.gcd_comm, ← Nat.gcd_rec, Nat.gcd_comm]
theorem gcdI_gcd {n d : Int} (hd : d ≠ 0) (h1 : n.natAbs ≤ 9000000000000000) (h2 : d.natAbs ≤ 9000000000000000) : gcdI n d = (Nat.gcd n.natAbs d.natAbs : Nat) := by
  obtain ⟨h3, h4, _⟩ := gcdL_size (d.natAbs + 1) n d (by omega)
  unfold gcdI
  rw [absW_small (by omega), gcdL_gcd _ _ _ (by omega)]

/-- A fraction's parts: what they are. -/
theorem mk_spec {n d : Int} (hd : 0 < d) (h : small n d) : ∃ g : Int, 0 < g ∧ n = g * mkN n d ∧ d = g * mkD n d ∧ 0 < mkD n d ∧ Nat.gcd (mkN n d).natAbs (mkD n d).natAbs = 1 ∧ (mkN n d).natAbs ≤ n.natAbs ∧ mkD n d ≤ d := by
  have hg := gcdI_gcd (n := n) (d := d) (by omega) h.1 h.2
  have hp := gcdI_pos (n := n) (d := d) (by omega) h.1 h.2
  have hG : mkG n d = gcdI n d := by unfold mkG; rw [if_neg (by omega)]
  obtain ⟨p, hp1⟩ : ∃ p : Int, n = gcdI n d * p := by
    have : (gcdI n d) ∣ n := by rw [hg]; exact Int.ofNat_dvd_left.2 (Nat.gcd_dvd_left _ _)
    exact this
  obtain ⟨q, hq1⟩ : ∃ q : Int, d = gcdI n d * q := by
    have : (gcdI n d) ∣ d := by rw [hg]; exact Int.ofNat_dvd_left.2 (Nat.gcd_dvd_right _ _)
    exact this
  have hpb : p.natAbs ≤ n.natAbs := by
    have : n.natAbs = (gcdI n d).natAbs * p.natAbs := by rw [← Int.natAbs_mul, ← hp1]
    rw [this]
    exact Nat.le_mul_of_pos_left _ (by omega)
  have hq0 : 0 < q := by
    rcases Int.lt_trichotomy q 0 with h | h | h
    · exfalso
      have := Int.mul_neg_of_pos_of_neg (show 0 < gcdI n d by omega) h
      omega
    · exfalso; rw [h] at hq1; simp at hq1; omega
    · exact h
  have hqb : q.natAbs ≤ d.natAbs := by
    have : d.natAbs = (gcdI n d).natAbs * q.natAbs := by rw [← Int.natAbs_mul, ← hq1]
    rw [this]
    exact Nat.le_mul_of_pos_left _ (by omega)
  have eN : mkN n d = p := by
    unfold mkN
    rw [hG]
    have : n.tdiv (gcdI n d) = p := by
      rw [show n.tdiv (gcdI n d) = (gcdI n d * p).tdiv (gcdI n d) by rw [← hp1]]
      exact Int.mul_tdiv_cancel_left p (by omega)
    rw [this]; exact w64_small (by have := h.1; omega)
  have eD : mkD n d = q := by
    unfold mkD
    rw [hG]
    have : d.tdiv (gcdI n d) = q := by
      rw [show d.tdiv (gcdI n d) = (gcdI n d * q).tdiv (gcdI n d) by rw [← hq1]]
      exact Int.mul_tdiv_cancel_left q (by omega)
    rw [this]; exact w64_small (by have := h.2; omega)
  refine ⟨gcdI n d, by omega, by rw [eN]; exact hp1, by rw [eD]; exact hq1, by rw [eD]; exact hq0, ?_, by rw [eN]; exact hpb, by rw [eD]; omega⟩
  rw [eN, eD]
  have e1 : n.natAbs = (gcdI n d).natAbs * p.natAbs := by rw [← Int.natAbs_mul, ← hp1]
  have e2 : d.natAbs = (gcdI n d).natAbs * q.natAbs := by rw [← Int.natAbs_mul, ← hq1]
  have e3 : (gcdI n d).natAbs = Nat.gcd n.natAbs d.natAbs := by rw [hg]; simp
  have e4 : Nat.gcd n.natAbs d.natAbs = (gcdI n d).natAbs * Nat.gcd p.natAbs q.natAbs := by rw [e1, e2, Nat.gcd_mul_left]
  have e5 : (gcdI n d).natAbs * Nat.gcd p.natAbs q.natAbs = (gcdI n d).natAbs * 1 := by rw [← e4, e3]; simp
  exact Nat.eq_of_mul_eq_mul_left (by omega) e5

/-- Fractions of one ratio have the same parts. -/
theorem mk_ratio {n1 d1 n2 d2 : Int} (h1 : 0 < d1) (h2 : 0 < d2) (s1 : small n1 d1) (s2 : small n2 d2) (h : n1 * d2 = n2 * d1) : mkN n1 d1 = mkN n2 d2 ∧ mkD n1 d1 = mkD n2 d2 := by
  obtain ⟨g1, hg1, a1, b1, c1, e1, _, _⟩ := mk_spec h1 s1
  obtain ⟨g2, hg2, a2, b2, c2, e2, _, _⟩ := mk_spec h2 s2
  generalize mkN n1 d1 = p1 at *
  generalize mkD n1 d1 = q1 at *
  generalize mkN n2 d2 = p2 at *
  generalize mkD n2 d2 = q2 at *
  have hx : p1 * q2 = p2 * q1 := by
    have hgg : g1 * g2 ≠ 0 := Int.mul_ne_zero (by omega) (by omega)
    apply Int.eq_of_mul_eq_mul_left hgg
    have : (g1 * p1) * (g2 * q2) = (g2 * p2) * (g1 * q1) := by rw [← a1, ← b2, ← a2, ← b1]; exact h
    calc g1 * g2 * (p1 * q2) = (g1 * p1) * (g2 * q2) := by ac_rfl
      _ = (g2 * p2) * (g1 * q1) := this
      _ = g1 * g2 * (p2 * q1) := by ac_rfl
  have hn : p1.natAbs * q2.natAbs = p2.natAbs * q1.natAbs := by rw [← Int.natAbs_mul, ← Int.natAbs_mul, hx]
  have d1' : q1.natAbs ∣ q2.natAbs := by
    have : q1.natAbs ∣ p1.natAbs * q2.natAbs := ⟨p2.natAbs, by rw [hn, Nat.mul_comm]⟩
    exact Nat.Coprime.dvd_of_dvd_mul_left (by rw [Nat.coprime_comm]; exact e1) this
  have d2' : q2.natAbs ∣ q1.natAbs := by
    have : q2.natAbs ∣ p2.natAbs * q1.natAbs := ⟨p1.natAbs, by rw [← hn, Nat.mul_comm]⟩
    exact Nat.Coprime.dvd_of_dvd_mul_left (by rw [Nat.coprime_comm]; exact e2) this
  have hq : q1 = q2 := by have := Nat.dvd_antisymm d1' d2'; omega
  subst hq
  exact ⟨Int.eq_of_mul_eq_mul_right (by omega) hx, rfl⟩

/-- 'p' over 'q' is 'x' parts of the unit, in lowest terms. -/
def At (x p q : Int) : Prop := p = mkN x 1048576 ∧ q = mkD x 1048576
theorem At.spec {x p q : Int} (h : At x p q) (hx : x.natAbs ≤ 100000000) : ∃ g : Int, 0 < g ∧ x = g * p ∧ 1048576 = g * q ∧ 0 < q ∧ q ≤ 1048576 ∧ p.natAbs ≤ x.natAbs := by
  obtain ⟨g, h1, h2, h3, h4, _, h5, h6⟩ := mk_spec (n := x) (d := 1048576) (by omega) ⟨by omega, by omega⟩
  rw [← h.1] at h2 h5
  rw [← h.2] at h3 h4 h6
  exact ⟨g, h1, h2, h3, h4, h6, h5⟩
theorem At.of {x n d : Int} (hd : 0 < d) (hs : small n d) (hx : x.natAbs ≤ 100000000) (h : n * 1048576 = x * d) : At x (mkN n d) (mkD n d) :=
  mk_ratio hd (by omega) hs ⟨by omega, by omega⟩ h
theorem at_one : At 1048576 1 1 := by
  have := At.of (x := 1048576) (n := 1) (d := 1) (by omega) ⟨by decide, by decide⟩ (by omega) (by omega)
  exact this
theorem at_minus : At (-1048576) (-1) 1 := by
  have := At.of (x := -1048576) (n := -1) (d := 1) (by omega) ⟨by decide, by decide⟩ (by omega) (by omega)
  exact this
theorem at_zero : At 0 0 1 := by
  have := At.of (x := 0) (n := 0) (d := 1) (by omega) ⟨by decide, by decide⟩ (by omega) (by omega)
  exact this

theorem mul_le {a b : Int} {A B : Nat} (h1 : a.natAbs ≤ A) (h2 : b.natAbs ≤ B) : (a * b).natAbs ≤ A * B := by
  rw [Int.natAbs_mul]; exact Nat.mul_le_mul h1 h2

theorem sum_at {x y a b c d : Int} (h1 : At x a b) (h2 : At y c d) (hx : x.natAbs ≤ 50000000) (hy : y.natAbs ≤ 50000000) : addOk a b c d ∧ At (x + y) (sumN a b c d) (sumD a b c d) := by
  obtain ⟨g1, p1, e1, f1, k1, l1, m1⟩ := h1.spec (by omega)
  obtain ⟨g2, p2, e2, f2, k2, l2, m2⟩ := h2.spec (by omega)
  have q1 := mul_le (a := b) (b := d) (A := 1048576) (B := 1048576) (by omega) (by omega)
  have q2 := mul_le (a := a) (b := d) (A := 50000000) (B := 1048576) (by omega) (by omega)
  have q3 := mul_le (a := c) (b := b) (A := 50000000) (B := 1048576) (by omega) (by omega)
  have q4 : 0 < b * d := Int.mul_pos k1 k2
  have w1 : w64 (b * d) = b * d := w64_small (by omega)
  have w2 : addN a b c d = a * d + c * b := by
    unfold addN
    rw [w64_small (x := a * d) (by omega), w64_small (x := c * b) (by omega), w64_small (by omega)]
  have hs : small (a * d + c * b) (b * d) := ⟨by omega, by omega⟩
  refine ⟨⟨by rw [w1]; omega, by rw [w1, w2]; exact hs⟩, ?_⟩
  unfold sumN sumD
  rw [w1, w2]
  refine At.of q4 hs (by omega) ?_
  have r1 : a * d * 1048576 = x * (b * d) := by
    rw [e1]; conv => lhs; rw [f1]
    ac_rfl
  have r2 : c * b * 1048576 = y * (b * d) := by
    rw [e2]; conv => lhs; rw [f2]
    ac_rfl
  rw [Int.add_mul, Int.add_mul, r1, r2]

theorem half_at {z a b : Int} (h : At (2 * z) a b) (hz : z.natAbs ≤ 50000000) : mulOk a b 1 2 ∧ At z (mulN a b 1 2) (mulD a b 1 2) := by
  obtain ⟨g, p, e, f, k, l, m⟩ := h.spec (by omega)
  have w1 : w64 (b * 2) = b * 2 := w64_small (by omega)
  have w2 : w64 (a * 1) = a := by rw [Int.mul_one]; exact w64_small (by omega)
  have hs : small a (b * 2) := ⟨by omega, by omega⟩
  refine ⟨⟨by rw [w1]; omega, by rw [w1, w2]; exact hs⟩, ?_⟩
  unfold mulN mulD
  rw [w1, w2]
  refine At.of (by omega) hs (by omega) ?_
  have r1 : a * 1048576 = (2 * z) * b := by
    rw [e]; conv => lhs; rw [f]
    ac_rfl
  rw [r1]; ac_rfl

theorem mid_at {x y z a b c d : Int} (h1 : At x a b) (h2 : At y c d) (hx : x.natAbs ≤ 25000000) (hy : y.natAbs ≤ 25000000) (hz : x + y = 2 * z) : midOk a b c d ∧ At z (midN a b c d) (midD a b c d) := by
  obtain ⟨k1, k2⟩ := sum_at h1 h2 (by omega) (by omega)
  rw [hz] at k2
  obtain ⟨k3, k4⟩ := half_at k2 (by omega)
  exact ⟨⟨k1, k3⟩, k4⟩

/-- Both walks look the same way. -/
theorem cmp_at {x a b n d : Int} (h : At x a b) (hx : x.natAbs ≤ 50000000) (hn : n.natAbs ≤ 1000000) (hd : 0 < d) (hd2 : d ≤ 1000000) :
    cmpI (w64 (w64 (a * d) - w64 (n * b))) 0 = - side n d x := by
  obtain ⟨g, p, e, f, k, l, m⟩ := h.spec (by omega)
  have q1 := mul_le (a := a) (b := d) (A := 50000000) (B := 1000000) (by omega) (by omega)
  have q2 := mul_le (a := n) (b := b) (A := 1000000) (B := 1048576) (by omega) (by omega)
  have q3 := mul_le (a := x) (b := d) (A := 50000000) (B := 1000000) (by omega) (by omega)
  unfold side
  rw [w64_small (x := a * d) (by omega), w64_small (x := n * b) (by omega), w64_small (x := a * d - n * b) (by omega), w64_small (x := n * 1048576) (by omega), w64_small (x := x * d) (by omega)]
  have r1 : n * 1048576 - x * d = g * (n * b - a * d) := by
    rw [e, Int.mul_sub]; conv => lhs; rw [f]
    congr 1 <;> ac_rfl
  have s1 : 0 < n * b - a * d → 0 < n * 1048576 - x * d := fun h => by rw [r1]; exact Int.mul_pos p h
  have s2 : n * b - a * d < 0 → n * 1048576 - x * d < 0 := fun h => by rw [r1]; exact Int.mul_neg_of_pos_of_neg p h
  have s3 : n * b - a * d = 0 → n * 1048576 - x * d = 0 := fun h => by rw [r1, h]; simp
  unfold cmpI
  rcases Int.lt_trichotomy (n * b - a * d) 0 with h | h | h
  · have := s2 h; split <;> (try omega) <;> split <;> (try omega) <;> split <;> (try omega) <;> simp
  · have := s3 h; split <;> (try omega) <;> split <;> (try omega) <;> split <;> (try omega) <;> simp
  · have := s1 h; split <;> (try omega) <;> split <;> (try omega) <;> simp

/-- A bound of the two walks. -/
def Bd (w : Nat) (l : List Int) (has : Bool) (bn bd : Int) : Prop :=
  match l.getLast? with
  | none => has = false
  | some y => has = true ∧ At y bn bd ∧ y.natAbs ≤ 1048576 * w ∧ ∃ m : Int, y = 2 ^ (20 - w) * m
structure Rl (i : Wk) (s : Sw) : Prop where
  at_ : At i.x s.an s.ad
  size : i.x.natAbs ≤ 1048576 * i.word.size
  div : ∃ m : Int, i.x = 2 ^ (20 - i.word.size) * m
  low : Bd i.word.size i.low s.hasL s.ln s.ld
  high : Bd i.word.size i.high s.hasH s.hn s.hd

theorem pow_half {w : Nat} (h : w < 20) : (2 : Int) ^ (20 - w) = 2 * 2 ^ (20 - (w + 1)) := by
  rw [show 20 - w = (20 - (w + 1)) + 1 by omega, Int.pow_succ, Int.mul_comm]
theorem Bd.next {w : Nat} {l : List Int} {has : Bool} {bn bd : Int} (h : Bd w l has bn bd) (hw : w < 20) : Bd (w + 1) l has bn bd := by
  unfold Bd at *
  split at h
  · exact h
  · obtain ⟨h1, h2, h3, m, h4⟩ := h
    refine ⟨h1, h2, by omega, 2 * m, ?_⟩
    rw [h4, pow_half hw]; ac_rfl

/-- The new place of a step. -/
theorem mid_step {w : Nat} (hw : w < 20) {x y a b c d : Int} (h1 : At x a b) (h2 : At y c d) (hx : x.natAbs ≤ 1048576 * w) (hy : y.natAbs ≤ 1048576 * w) (dx : ∃ m : Int, x = 2 ^ (20 - w) * m) (dy : ∃ m : Int, y = 2 ^ (20 - w) * m) :
    midOk a b c d ∧ At (w64 ((w64 (x + y)).tdiv 2)) (midN a b c d) (midD a b c d) ∧ (w64 ((w64 (x + y)).tdiv 2)).natAbs ≤ 1048576 * (w + 1) ∧ ∃ m : Int, w64 ((w64 (x + y)).tdiv 2) = 2 ^ (20 - (w + 1)) * m := by
  obtain ⟨m1, e1⟩ := dx
  obtain ⟨m2, e2⟩ := dy
  have e3 : x + y = 2 * (2 ^ (20 - (w + 1)) * (m1 + m2)) := by
    rw [e1, e2, pow_half hw, ← Int.mul_add]; ac_rfl
  generalize hz : (2 : Int) ^ (20 - (w + 1)) * (m1 + m2) = z at e3
  have ez : w64 ((w64 (x + y)).tdiv 2) = z := by
    rw [w64_small (x := x + y) (by omega), e3, Int.mul_tdiv_cancel_left z (by omega), w64_small (by omega)]
  rw [ez]
  obtain ⟨k1, k2⟩ := mid_at h1 h2 (by omega) (by omega) e3
  exact ⟨k1, k2, by omega, m1 + m2, hz.symm⟩
theorem mid_comm (a b c d : Int) : addN a b c d = addN c d a b := by unfold addN; congr 1; omega
theorem unit_step {w : Nat} (hw : w < 20) {x a b : Int} (h1 : At x a b) (hx : x.natAbs ≤ 1048576 * w) (dx : ∃ m : Int, x = 2 ^ (20 - w) * m) (u : Int) (hu : u = 1 ∨ u = -1) :
    addOk a b u 1 ∧ At (w64 (x + w64 (u * 1048576))) (sumN a b u 1) (sumD a b u 1) ∧ (w64 (x + w64 (u * 1048576))).natAbs ≤ 1048576 * (w + 1) ∧ ∃ m : Int, w64 (x + w64 (u * 1048576)) = 2 ^ (20 - (w + 1)) * m := by
  obtain ⟨m1, e1⟩ := dx
  have hat : At (u * 1048576) u 1 := by
    rcases hu with rfl | rfl
    · exact at_one
    · exact at_minus
  have ez : w64 (x + w64 (u * 1048576)) = x + u * 1048576 := by
    rw [w64_small (x := u * 1048576) (by omega), w64_small (by omega)]
  rw [ez]
  obtain ⟨k1, k2⟩ := sum_at h1 hat (by omega) (by omega)
  refine ⟨k1, k2, by omega, 2 * m1 + u * 2 ^ (w + 1), ?_⟩
  have hp : (2 : Int) ^ (20 - (w + 1)) * 2 ^ (w + 1) = 1048576 := by
    rw [← Int.pow_add, show 20 - (w + 1) + (w + 1) = 20 by omega]; rfl
  rw [Int.mul_add, e1, pow_half hw, ← hp]
  ac_rfl

theorem plus_rl {i : Wk} {s : Sw} (h : Rl i s) (hw : i.word.size < 20) : swOk s true ∧
    Rl ⟨i.nums ++ [i.x], i.word ++ plusB, i.low ++ [i.x], i.high, betw i.x 1 (i.low ++ [i.x]) i.high⟩ (swStep s true) := by
  obtain ⟨h1, h2, h3, h4, h5⟩ := h
  have hsz : (i.word ++ plusB).size = i.word.size + 1 := by simp [ByteArray.size_append, plusB]; rfl
  have hlow : Bd (i.word.size + 1) (i.low ++ [i.x]) true s.an s.ad := by
    have : Bd i.word.size (i.low ++ [i.x]) true s.an s.ad := by
      unfold Bd; simp only [List.getLast?_concat]
      exact ⟨trivial, h1, h2, h3⟩
    exact this.next hw
  have h6 := h5.next hw
  rw [betw_up (by omega)]
  unfold Bd at h5
  cases hl : i.high.getLast? with
  | none =>
    simp only [hl] at h5
    obtain ⟨k1, k2, k3, k4⟩ := unit_step hw h1 h2 h3 1 (.inl rfl)
    refine ⟨by simp only [swOk, h5]; exact k1, ?_⟩
    simp only [swStep, h5, Bool.false_eq_true, if_false]
    refine ⟨k2, by simp only [hsz]; exact k3, by simp only [hsz]; exact k4, by simp only [hsz]; exact hlow, by simp only [hsz]; rw [← h5]; exact h6⟩
  | some y =>
    simp only [hl] at h5
    obtain ⟨a1, a2, a3, a4⟩ := h5
    obtain ⟨k1, k2, k3, k4⟩ := mid_step hw h1 a2 h2 a3 h3 a4
    refine ⟨by simp only [swOk, a1, if_true]; exact k1, ?_⟩
    simp only [swStep, a1, if_true]
    refine ⟨k2, by simp only [hsz]; exact k3, by simp only [hsz]; exact k4, by simp only [hsz]; exact hlow, by simp only [hsz]; rw [← a1]; exact h6⟩

theorem minus_rl {i : Wk} {s : Sw} (h : Rl i s) (hw : i.word.size < 20) : swOk s false ∧
    Rl ⟨i.nums ++ [i.x], i.word ++ minusB, i.low, i.high ++ [i.x], betw i.x (-1) i.low (i.high ++ [i.x])⟩ (swStep s false) := by
  obtain ⟨h1, h2, h3, h4, h5⟩ := h
  have hsz : (i.word ++ minusB).size = i.word.size + 1 := by simp [ByteArray.size_append, minusB]; rfl
  have hhigh : Bd (i.word.size + 1) (i.high ++ [i.x]) true s.an s.ad := by
    have : Bd i.word.size (i.high ++ [i.x]) true s.an s.ad := by
      unfold Bd; simp only [List.getLast?_concat]
      exact ⟨trivial, h1, h2, h3⟩
    exact this.next hw
  have h6 := h4.next hw
  rw [betw_dn (by omega)]
  unfold Bd at h4
  cases hl : i.low.getLast? with
  | none =>
    simp only [hl] at h4
    obtain ⟨k1, k2, k3, k4⟩ := unit_step hw h1 h2 h3 (-1) (.inr rfl)
    refine ⟨by simp only [swOk, h4]; exact k1, ?_⟩
    simp only [swStep, h4, Bool.false_eq_true, if_false]
    refine ⟨k2, by simp only [hsz]; exact k3, by simp only [hsz]; exact k4, by simp only [hsz]; rw [← h4]; exact h6, by simp only [hsz]; exact hhigh⟩
  | some y =>
    simp only [hl] at h4
    obtain ⟨a1, a2, a3, a4⟩ := h4
    obtain ⟨k1, k2, k3, k4⟩ := mid_step hw a2 h1 a3 h2 a4 h3
    rw [Int.add_comm y i.x] at k2 k3 k4
    refine ⟨by simp only [swOk, a1, if_true]; exact k1, ?_⟩
    simp only [swStep, a1, if_true]
    refine ⟨k2, by simp only [hsz]; exact k3, by simp only [hsz]; exact k4, by simp only [hsz]; rw [← a1]; exact h6, by simp only [hsz]; exact hhigh⟩

theorem side_val (n d x : Int) : side n d x = 1 ∨ side n d x = 0 ∨ side n d x = -1 := by
  unfold side cmpI; split
  · simp
  · split <;> simp
theorem side_zero (n d x : Int) : (w64 (n * 1048576) == w64 (x * d)) = (side n d x == 0) := by
  unfold side cmpI
  rw [Bool.eq_iff_iff]; simp only [beq_iff_eq]
  split
  · constructor <;> intro h <;> omega
  · split
    · constructor <;> intro h <;> omega
    · constructor <;> intro h <;> omega

theorem walks_same {n d : Int} (hg : goodB n d = true) : ∀ (k : Nat) (i : Wk) (s : Sw), Rl i s → i.word.size + k = 21 → 0 < k →
    swGood n d k s i.word ∧ swRun n d k s i.word = (if (w64 (n * 1048576) == w64 ((wkRun (side n d) k i).nums.getLastD 0 * d)) then (wkRun (side n d) k i).word else ⟨#[]⟩, (w64 (n * 1048576) == w64 ((wkRun (side n d) k i).nums.getLastD 0 * d)))
  | 0, i, s, _, _, h => by omega
  | k + 1, i, s, hr, hk, _ => by
    have hgr := good_range hg
    have hc : swCmp n d s = - side n d i.x := cmp_at hr.at_ (by have := hr.size; omega) (by omega) (by omega) (by omega)
    by_cases hz : side n d i.x = 0
    · have e1 : wkRun (side n d) (k + 1) i = { i with nums := i.nums ++ [i.x] } := by simp [wkRun, hz]
      have e2 : (w64 (n * 1048576) == w64 (i.x * d)) = true := by rw [side_zero]; simp [hz]
      refine ⟨.inl (by omega), ?_⟩
      simp [swRun, hc, hz, e1, e2]
    · by_cases h20 : i.word.size = 20
      · have e1 : wkRun (side n d) (k + 1) i = { i with nums := i.nums ++ [i.x] } := by simp [wkRun, h20]
        have e2 : (w64 (n * 1048576) == w64 (i.x * d)) = false := by rw [side_zero]; simp [hz]
        refine ⟨.inr (.inl h20), ?_⟩
        simp [swRun, hc, hz, h20, e1, e2]
      · rcases side_val n d i.x with h | h | h
        · obtain ⟨o1, o2⟩ := plus_rl hr (by omega)
          have hsz : (i.word ++ plusB).size = i.word.size + 1 := by simp [ByteArray.size_append, plusB]; rfl
          obtain ⟨r1, r2⟩ := walks_same hg k _ _ o2 (by simp only [hsz]; omega) (by omega)
          have e1 : wkRun (side n d) (k + 1) i = wkRun (side n d) k ⟨i.nums ++ [i.x], i.word ++ plusB, i.low ++ [i.x], i.high, betw i.x 1 (i.low ++ [i.x]) i.high⟩ := by
            simp [wkRun, h, h20]
          rw [e1]
          refine ⟨.inr (.inr (.inl ⟨by omega, o1, r1⟩)), ?_⟩
          rw [← r2]
          simp only [swRun]
          rw [if_neg (by omega), if_neg h20, if_pos (by omega)]
        · exact absurd h hz
        · obtain ⟨o1, o2⟩ := minus_rl hr (by omega)
          have hsz : (i.word ++ minusB).size = i.word.size + 1 := by simp [ByteArray.size_append, minusB]; rfl
          obtain ⟨r1, r2⟩ := walks_same hg k _ _ o2 (by simp only [hsz]; omega) (by omega)
          have e1 : wkRun (side n d) (k + 1) i = wkRun (side n d) k ⟨i.nums ++ [i.x], i.word ++ minusB, i.low, i.high ++ [i.x], betw i.x (-1) i.low (i.high ++ [i.x])⟩ := by
            simp [wkRun, h, h20]
          rw [e1]
          refine ⟨.inr (.inr (.inr ⟨by omega, o1, r1⟩)), ?_⟩
          rw [← r2]
          simp only [swRun]
          rw [if_neg (by omega), if_neg h20, if_neg (by omega)]

end Go.Proofs.YtllcljajlemmaaaDoor
/-
  Short numbers: the laws of IsShort, WordOf and DayOf, from the plain law of the two walks.
-/
namespace Go.Proofs.YtllcljajlemmaaaDoor
open Go K
set_option linter.unusedSimpArgs false
set_option linter.unusedVariables false
set_option maxRecDepth 8000
set_option maxHeartbeats 400000

/-- The plain law: both walks end alike, and the reference's stays small. -/
def WalksAgree : Prop := ∀ n d, goodB n d = true → swGood n d 21 sw0 ⟨#[]⟩ ∧ swRun n d 21 sw0 ⟨#[]⟩ = (if shortB n d then (gWk n d).word else ⟨#[]⟩, shortB n d)

theorem walks_agree : WalksAgree := fun n d hg => by
  have h0 : Rl wk0 sw0 := ⟨at_zero, by decide, ⟨0, rfl⟩, rfl, rfl⟩
  obtain ⟨h1, h2⟩ := walks_same hg 21 wk0 sw0 h0 rfl (by omega)
  refine ⟨h1, ?_⟩
  have e : shortB n d = (w64 (n * 1048576) == w64 ((wkRun (side n d) 21 wk0).nums.getLastD 0 * d)) := by simp [shortB, hg, wkOf]
  have e2 : (gWk n d).word = (wkRun (side n d) 21 wk0).word := by simp [gWk, hg, wkOf]
  rw [e, e2]; exact h2

end Go.Proofs.YtllcljajlemmaaaDoor
/-
  Short numbers: the number to which a word leads.
-/
namespace Go.Proofs.YtllcljajlemmaaaDoor
open Go K
set_option linter.unusedSimpArgs false
set_option linter.unusedVariables false
set_option maxRecDepth 8000
set_option maxHeartbeats 400000

theorem index_str {s : ByteArray} {k : Nat} (h : k < s.size) : indexA Tryd.prog 9 (.str s) (.int .i64 k) = some (.int .u8 (s.data.getD k 0).toNat) := by
  have h2 : s[k]? = some (s[k]'h) := getElem?_pos s k h
  have h3 : s[k]'h = s.data.getD k 0 := by
    show s.data[k]'h = _
    have h' : k < s.data.size := h
    rw [Array.getD, dif_pos h']; rfl
  simp only [indexA, Tryd.underlying9, Int.natCast_nonneg, if_true, Int.toNat_natCast, h2, Option.map_some, h3]

/-- Where a word tells to go, at its letter 'k'. -/
def ofF (s : ByteArray) (k : Nat) : Int := if k = s.size then 0 else if s.data.getD k 0 = 43 then 1 else -1
def ofK (s : ByteArray) (k : Nat) : Nat := if k = s.size then k else k + 1
end Go.Proofs.YtllcljajlemmaaaDoor
/-
  Short numbers: the walk along a given word.
-/
namespace Go.Proofs.YtllcljajlemmaaaDoor
open Go K
set_option linter.unusedSimpArgs false
set_option linter.unusedVariables false
set_option maxRecDepth 8000
set_option maxHeartbeats 400000

def ofRun (s : ByteArray) : Nat → Wk → Wk
  | 0, i => i
  | k + 1, i =>
    if ofF s i.word.size = 0 ∨ i.word.size = 20 then { i with nums := i.nums ++ [i.x] }
    else if 0 < ofF s i.word.size then ofRun s k ⟨i.nums ++ [i.x], i.word ++ plusB, i.low ++ [i.x], i.high, betw i.x (ofF s i.word.size) (i.low ++ [i.x]) i.high⟩
    else ofRun s k ⟨i.nums ++ [i.x], i.word ++ minusB, i.low, i.high ++ [i.x], betw i.x (ofF s i.word.size) i.low (i.high ++ [i.x])⟩
def ofR (i : Wk) : AV := .tup [.ref 2 [] i.nums.length i.nums.length, .str i.word, .ref 3 [] i.low.length i.low.length, .ref 4 [] i.high.length i.high.length]
def ofL (s : ByteArray) (i : Wk) : List AObj := [.box 9 [.str s], .box 3 [.int .i64 (ofK s i.word.size)], .vec 3 1 i.nums.length (ints i.nums), .vec 3 1 i.low.length (ints i.low), .vec 3 1 i.high.length (ints i.high)]

end Go.Proofs.YtllcljajlemmaaaDoor
/-
  Short numbers: the number to which a word leads.
-/
namespace Go.Proofs.YtllcljajlemmaaaDoor
open Go K
set_option linter.unusedSimpArgs false
set_option linter.unusedVariables false
set_option maxRecDepth 8000
set_option maxHeartbeats 400000

/-- So many parts of the unit, as a fraction. -/
def frN (x : Int) : Int := if mkOk x 1048576 then mkN x 1048576 else 0
def frD (x : Int) : Int := if mkOk x 1048576 then mkD x 1048576 else 0
end Go.Proofs.YtllcljajlemmaaaDoor
/-
  Short numbers: the reference's number of a word.
-/
namespace Go.Proofs.YtllcljajlemmaaaDoor
open Go K
set_option linter.unusedSimpArgs false
set_option linter.unusedVariables false
set_option maxRecDepth 8000
set_option maxHeartbeats 400000

def isPlus (s : ByteArray) (k : Nat) : Bool := s.data.getD k 0 == 43
def swAt (s : ByteArray) : Nat → Sw
  | 0 => sw0
  | k + 1 => swStep (swAt s k) (isPlus s k)
end Go.Proofs.YtllcljajlemmaaaDoor
/-
  Short numbers: the numbers on the way of a word. No program in sight.
-/
namespace Go.Proofs.YtllcljajlemmaaaDoor
open Go K
set_option linter.unusedSimpArgs false
set_option linter.unusedVariables false
set_option maxRecDepth 8000
set_option maxHeartbeats 400000

theorem mkOk_of {n d : Int} (hd : 0 < d) (hs : small n d) (hn : (mkN n d).natAbs ≤ 1000000) (hq : mkD n d ≤ 1000000) : mkOk n d = true := by
  obtain ⟨g, _, _, _, h0, h1, _, _⟩ := mk_spec hd hs
  have hg := gcdI_gcd (n := mkN n d) (d := mkD n d) (by omega) (by omega) (by omega)
  unfold mkOk goodB
  simp only [Bool.and_eq_true, inB_iff, beq_iff_eq]
  refine ⟨⟨⟨by omega, by omega⟩, by omega, by omega⟩, ?_⟩
  rw [hg, h1]; rfl
theorem mk_self {n d : Int} (hg : goodB n d = true) : mkN n d = n ∧ mkD n d = d := by
  have hr := good_range hg
  have h1 : gcdI n d = 1 := by
    simp only [goodB, Bool.and_eq_true, beq_iff_eq] at hg; exact hg.2
  unfold mkN mkD mkG
  rw [if_neg (by omega), h1, Int.tdiv_one, Int.tdiv_one]
  exact ⟨w64_small (by omega), w64_small (by omega)⟩

/-- A multiple of a part of the unit, not far out. -/
def Mh (j h : Nat) (x : Int) : Prop := (∃ m : Int, x = 2 ^ (20 - h) * m) ∧ x.natAbs ≤ 1048576 * j
theorem Mh.up {j h : Nat} {x : Int} (k : Mh j h x) : Mh (j + 1) h x := ⟨k.1, by have := k.2; omega⟩
theorem Mh.half {j h : Nat} {x : Int} (k : Mh j h x) (hh : h < 20) : Mh j (h + 1) x := by
  obtain ⟨⟨m, e⟩, b⟩ := k
  exact ⟨⟨2 * m, by rw [e, pow_half hh]; ac_rfl⟩, b⟩
theorem pw_num : ∀ h : Nat, h < 20 → 2 ^ h * (19 - h) ≤ 1000000 := by decide
theorem pw_den : ∀ h : Nat, h < 20 → 2 ^ h ≤ 1000000 := by decide
theorem pw_pos (h : Nat) : (0 : Int) < 2 ^ h := Int.pow_pos (by omega)
theorem Mh.ok {j h : Nat} {x : Int} (k : Mh j h x) (hw : j + h ≤ 19) : mkOk x 1048576 = true := by
  obtain ⟨⟨m, e⟩, b⟩ := k
  have hp : (2 : Int) ^ (20 - h) * 2 ^ h = 1048576 := by
    rw [← Int.pow_add, show 20 - h + h = 20 by omega]; rfl
  have n1 := pw_num h (by omega)
  have n2 := pw_den h (by omega)
  have p1 := pw_pos (20 - h)
  have p2 := pw_pos h
  have hpn : ((2 : Int) ^ h) = ((2 ^ h : Nat) : Int) := by simp
  have hm : m.natAbs ≤ 2 ^ h * j := by
    have h1 : x.natAbs = (2 ^ (20 - h) : Int).natAbs * m.natAbs := by rw [e, Int.natAbs_mul]
    have h2 : (1048576 : Nat) = (2 ^ (20 - h) : Int).natAbs * 2 ^ h := by
      have := congrArg Int.natAbs hp
      rw [Int.natAbs_mul] at this
      rw [show ((2 : Int) ^ h).natAbs = 2 ^ h by rw [hpn]; rfl] at this
      exact this.symm
    rw [h1, h2, Nat.mul_assoc] at b
    exact Nat.le_of_mul_le_mul_left b (by omega)
  have hj : 2 ^ h * j ≤ 2 ^ h * (19 - h) := Nat.mul_le_mul_left _ (by omega)
  have hsm : small m (2 ^ h) := ⟨by omega, by rw [hpn]; omega⟩
  have hx : x.natAbs ≤ 100000000 := by omega
  obtain ⟨r1, r2⟩ := mk_ratio (n1 := x) (d1 := 1048576) (n2 := m) (d2 := 2 ^ h) (by omega) p2 ⟨by omega, by omega⟩ hsm (by rw [e, ← hp]; ac_rfl)
  obtain ⟨_, _, _, _, _, _, k1, k2⟩ := mk_spec p2 hsm
  refine mkOk_of (by omega) ⟨by omega, by omega⟩ (by rw [r1]; omega) (by rw [r2]; rw [hpn] at k2 ⊢; omega)

def stepP (i : Wk) : Wk := ⟨i.nums ++ [i.x], i.word ++ plusB, i.low ++ [i.x], i.high, betw i.x 1 (i.low ++ [i.x]) i.high⟩
def stepM (i : Wk) : Wk := ⟨i.nums ++ [i.x], i.word ++ minusB, i.low, i.high ++ [i.x], betw i.x (-1) i.low (i.high ++ [i.x])⟩
theorem size_plus (b : ByteArray) : (b ++ plusB).size = b.size + 1 := by simp [ByteArray.size_append, plusB]; rfl
theorem size_minus (b : ByteArray) : (b ++ minusB).size = b.size + 1 := by simp [ByteArray.size_append, minusB]; rfl

/-- What holds on the way: halvings begin only between two bounds. -/
def Wi (i : Wk) : Prop := ∃ j h : Nat, j + h ≤ i.word.size ∧ Mh j h i.x ∧ (∀ y, i.low.getLast? = some y → Mh j h y) ∧ (∀ y, i.high.getLast? = some y → Mh j h y) ∧ (h = 0 ∨ (i.low ≠ [] ∧ i.high ≠ []))
theorem wi0 : Wi wk0 := ⟨0, 0, Nat.le_refl _, ⟨⟨0, rfl⟩, Nat.le_refl _⟩, fun y h => by simp [wk0] at h, fun y h => by simp [wk0] at h, .inl rfl⟩
theorem Mh.mid {j h : Nat} {x y : Int} (k : Mh j h x) (l : Mh j h y) (hh : h < 20) (hj : j ≤ 20) : Mh j (h + 1) (w64 ((w64 (x + y)).tdiv 2)) := by
  obtain ⟨⟨m1, e1⟩, b1⟩ := k
  obtain ⟨⟨m2, e2⟩, b2⟩ := l
  have e3 : x + y = 2 * (2 ^ (20 - (h + 1)) * (m1 + m2)) := by
    rw [e1, e2, pow_half hh, ← Int.mul_add]; ac_rfl
  generalize hz : (2 : Int) ^ (20 - (h + 1)) * (m1 + m2) = z at e3
  have ez : w64 ((w64 (x + y)).tdiv 2) = z := by
    rw [w64_small (x := x + y) (by omega), e3, Int.mul_tdiv_cancel_left z (by omega), w64_small (by omega)]
  rw [ez]
  exact ⟨⟨m1 + m2, hz.symm⟩, by omega⟩
theorem Mh.unit {j : Nat} {x u : Int} (k : Mh j 0 x) (hj : j ≤ 20) (hu : u = 1 ∨ u = -1) : Mh (j + 1) 0 (w64 (x + w64 (u * 1048576))) := by
  obtain ⟨⟨m, e⟩, b⟩ := k
  have ez : w64 (x + w64 (u * 1048576)) = x + u * 1048576 := by
    rw [w64_small (x := u * 1048576) (by omega), w64_small (by omega)]
  rw [ez]
  refine ⟨⟨m + u, ?_⟩, by omega⟩
  rw [Int.mul_add, e, show (2 : Int) ^ (20 - 0) = 1048576 from rfl, Int.mul_comm u]
theorem Wi.plus {i : Wk} (k : Wi i) (hw : i.word.size < 20) : Wi (stepP i) := by
  obtain ⟨j, h, h1, h2, h3, h4, h5⟩ := k
  have hb : ∀ s, betw i.x 1 s i.high = (match i.high.getLast? with | none => w64 (i.x + w64 (1 * 1048576)) | some y => w64 ((w64 (i.x + y)).tdiv 2)) := fun s => betw_up (by omega)
  unfold Wi stepP
  simp only [size_plus, hb, List.getLast?_concat]
  cases hl : i.high.getLast? with
  | none =>
    have hn : i.high = [] := List.getLast?_eq_none_iff.1 hl
    have h0 : h = 0 := by rcases h5 with h5 | h5; exact h5; exact absurd hn h5.2
    subst h0
    exact ⟨j + 1, 0, by omega, h2.unit (by omega) (.inl rfl), fun y e => by cases e; exact h2.up, fun y e => by simp at e, .inl rfl⟩
  | some y =>
    have h6 := h4 y hl
    refine ⟨j, h + 1, by omega, h2.mid h6 (by omega) (by omega), fun z e => by cases e; exact h2.half (by omega), fun z e => by cases e; exact h6.half (by omega), .inr ⟨by simp, fun e => by rw [e] at hl; simp at hl⟩⟩
theorem Wi.minus {i : Wk} (k : Wi i) (hw : i.word.size < 20) : Wi (stepM i) := by
  obtain ⟨j, h, h1, h2, h3, h4, h5⟩ := k
  have hb : ∀ s, betw i.x (-1) i.low s = (match i.low.getLast? with | none => w64 (i.x + w64 (-1 * 1048576)) | some y => w64 ((w64 (i.x + y)).tdiv 2)) := fun s => betw_dn (by omega)
  unfold Wi stepM
  simp only [size_minus, hb, List.getLast?_concat]
  cases hl : i.low.getLast? with
  | none =>
    have hn : i.low = [] := List.getLast?_eq_none_iff.1 hl
    have h0 : h = 0 := by rcases h5 with h5 | h5; exact h5; exact absurd hn h5.1
    subst h0
    exact ⟨j + 1, 0, by omega, h2.unit (by omega) (.inr rfl), fun y e => by simp at e, fun y e => by cases e; exact h2.up, .inl rfl⟩
  | some y =>
    have h6 := h3 y hl
    refine ⟨j, h + 1, by omega, h2.mid h6 (by omega) (by omega), fun z e => by cases e; exact h6.half (by omega), fun z e => by cases e; exact h2.half (by omega), .inr ⟨fun e => by rw [e] at hl; simp at hl, by simp⟩⟩

/-- The walk after so many letters of a word. -/
def atWk (s : ByteArray) : Nat → Wk
  | 0 => wk0
  | k + 1 => if isPlus s k then stepP (atWk s k) else stepM (atWk s k)
theorem atWk_size (s : ByteArray) : ∀ k, (atWk s k).word.size = k
  | 0 => rfl
  | k + 1 => by
    unfold atWk; split
    · simp only [stepP, size_plus, atWk_size s k]
    · simp only [stepM, size_minus, atWk_size s k]
theorem atWk_len (s : ByteArray) : ∀ k, (atWk s k).nums.length = k
  | 0 => rfl
  | k + 1 => by
    unfold atWk; split
    · simp [stepP, atWk_len s k]
    · simp [stepM, atWk_len s k]
theorem atWk_wi (s : ByteArray) : ∀ k, k ≤ 20 → Wi (atWk s k)
  | 0, _ => wi0
  | k + 1, h => by
    have := atWk_wi s k (by omega)
    have hz := atWk_size s k
    unfold atWk; split
    · exact this.plus (by omega)
    · exact this.minus (by omega)
theorem atWk_rl (s : ByteArray) : ∀ k, k ≤ 20 → Rl (atWk s k) (swAt s k)
  | 0, _ => ⟨at_zero, Nat.le_refl _, ⟨0, rfl⟩, rfl, rfl⟩
  | k + 1, h => by
    have := atWk_rl s k (by omega)
    have hz := atWk_size s k
    unfold atWk swAt
    cases isPlus s k
    · exact (minus_rl this (by omega)).2
    · exact (plus_rl this (by omega)).2
theorem swAt_ok (s : ByteArray) (k : Nat) (h : k < 20) : swOk (swAt s k) (isPlus s k) := by
  have := atWk_rl s k (by omega)
  have hz := atWk_size s k
  cases isPlus s k
  · exact (minus_rl this (by omega)).1
  · exact (plus_rl this (by omega)).1
theorem atWk_small (s : ByteArray) (k : Nat) (h : k ≤ 20) : (atWk s k).x.natAbs ≤ 50000000 := by
  have := (atWk_rl s k h).size
  have hz := atWk_size s k
  omega
/-- With fewer letters than 20 each number is a right fraction. -/
theorem atWk_ok (s : ByteArray) (k : Nat) (h : k ≤ 19) : mkOk (atWk s k).x 1048576 = true := by
  obtain ⟨j, h', h1, h2, _⟩ := atWk_wi s k (by omega)
  have hz := atWk_size s k
  exact h2.ok (by omega)
theorem swAt_fr (s : ByteArray) (k : Nat) (h : k ≤ 20) (hm : mkOk (atWk s k).x 1048576 = true) : (swAt s k).an = frN (atWk s k).x ∧ (swAt s k).ad = frD (atWk s k).x := by
  have := (atWk_rl s k h).at_
  unfold frN frD
  rw [if_pos hm, if_pos hm]
  exact this

/-- The program's walk along a word. -/
theorem ofRun_at (s : ByteArray) (hs : s.size ≤ 20) : ∀ (m k : Nat), k ≤ s.size → s.size - k < m → ofRun s m (atWk s k) = { atWk s s.size with nums := (atWk s s.size).nums ++ [(atWk s s.size).x] }
  | 0, k, _, h => by omega
  | m + 1, k, hk, h => by
    have hz := atWk_size s k
    unfold ofRun
    rw [hz]
    by_cases he : k = s.size
    · have : ofF s k = 0 := by simp [ofF, he]
      rw [if_pos (.inl this), he]
    · have ih := ofRun_at s hs m (k + 1) (by omega) (by omega)
      rw [← ih]
      by_cases hp : s.data.getD k 0 = 43
      · have e1 : ofF s k = 1 := by simp only [ofF, he, hp, if_false, if_true]
        have e2 : isPlus s k = true := by simp [isPlus, hp]
        rw [e1, if_neg (by omega), if_pos (by omega)]
        simp only [atWk, e2, if_true]; rfl
      · have e1 : ofF s k = -1 := by simp only [ofF, he, hp, if_false]
        have e2 : isPlus s k = false := by simpa [isPlus] using hp
        rw [e1, if_neg (by omega), if_neg (by omega)]
        simp only [atWk, e2, Bool.false_eq_true, if_false]; rfl
theorem ofRun_nums (s : ByteArray) (hs : s.size ≤ 20) : (ofRun s 21 wk0).nums = (atWk s s.size).nums ++ [(atWk s s.size).x] := by
  have := ofRun_at s hs 21 0 (Nat.zero_le _) (by omega)
  rw [show atWk s 0 = wk0 from rfl] at this
  rw [this]

/-! ### the word of a fraction -/
theorem getD_app1 (b c : ByteArray) (p : Nat) (h : p < b.size) : (b ++ c).data.getD p 0 = b.data.getD p 0 := by
  have h' : p < b.data.size := h
  simp [Array.getD_eq_getD_getElem?, ByteArray.data_append, Array.getElem?_append_left h']
theorem getD_end (b c : ByteArray) : (b ++ c).data.getD b.size 0 = c.data.getD 0 0 := by
  have h : (b.data ++ c.data)[b.size]? = c.data[b.size - b.data.size]? := Array.getElem?_append_right (Nat.le_refl _)
  rw [Array.getD_eq_getD_getElem?, ByteArray.data_append, h, Array.getD_eq_getD_getElem?, show b.size - b.data.size = 0 from Nat.sub_self _]
theorem getD_plus (b : ByteArray) : (b ++ plusB).data.getD b.size 0 = 43 := by rw [getD_end]; rfl
theorem getD_minus (b : ByteArray) : (b ++ minusB).data.getD b.size 0 = 45 := by rw [getD_end]; rfl
theorem wkRun_pre (f : Int → Int) : ∀ (m : Nat) (i : Wk) (p : Nat), p < i.word.size → (wkRun f m i).word.data.getD p 0 = i.word.data.getD p 0
  | 0, i, p, h => rfl
  | m + 1, i, p, h => by
    unfold wkRun
    split
    · rfl
    · split
      · rw [wkRun_pre f m _ p (by simp only [size_plus]; omega)]
        exact getD_app1 _ _ _ h
      · rw [wkRun_pre f m _ p (by simp only [size_minus]; omega)]
        exact getD_app1 _ _ _ h
theorem wkRun_at (f : Int → Int) (hf : ∀ x, f x = 1 ∨ f x = 0 ∨ f x = -1) (s : ByteArray) : ∀ (m k : Nat), m + k = 21 → k ≤ 20 → (wkRun f m (atWk s k)).word = s → wkRun f m (atWk s k) = { atWk s s.size with nums := (atWk s s.size).nums ++ [(atWk s s.size).x] }
  | 0, k, h1, h2, _ => by omega
  | m + 1, k, h1, h2, hw => by
    have hz := atWk_size s k
    unfold wkRun at hw ⊢
    by_cases hst : f (atWk s k).x = 0 ∨ (atWk s k).word.size = 20
    · rw [if_pos hst] at hw ⊢
      have : k = s.size := by rw [← hw]; exact hz.symm
      subst this; rfl
    · rw [if_neg hst] at hw ⊢
      have hst1 : f (atWk s k).x ≠ 0 := fun e => hst (.inl e)
      have hst2 : k ≠ 20 := fun e => hst (.inr (by omega))
      rcases hf (atWk s k).x with e | e | e
      · rw [if_pos (by omega), e] at hw ⊢
        have hp : isPlus s k = true := by
          have := wkRun_pre f m _ k (show k < (stepP (atWk s k)).word.size by simp only [stepP, size_plus]; omega)
          have hw' : (wkRun f m (stepP (atWk s k))).word = s := hw
          rw [hw'] at this
          have h3 := getD_plus (atWk s k).word
          rw [hz] at h3
          have h4 : (stepP (atWk s k)).word.data.getD k 0 = 43 := h3
          rw [h4] at this
          simp [isPlus, this]
        have := wkRun_at f hf s m (k + 1) (by omega) (by omega)
        simp only [atWk, hp, if_true] at this
        exact this hw
      · exact absurd e hst1
      · rw [if_neg (by omega), e] at hw ⊢
        have hp : isPlus s k = false := by
          have := wkRun_pre f m _ k (show k < (stepM (atWk s k)).word.size by simp only [stepM, size_minus]; omega)
          have hw' : (wkRun f m (stepM (atWk s k))).word = s := hw
          rw [hw'] at this
          have h3 := getD_minus (atWk s k).word
          rw [hz] at h3
          have h4 : (stepM (atWk s k)).word.data.getD k 0 = 45 := h3
          rw [h4] at this
          simp [isPlus, this]
        have := wkRun_at f hf s m (k + 1) (by omega) (by omega)
        simp only [atWk, hp, Bool.false_eq_true, if_false] at this
        exact this hw

/-- A short fraction's own walk is the walk along its word, and ends at it. -/
theorem wk_own {n d : Int} (h : shortB n d = true) : gWk n d = { atWk (gWk n d).word (gWk n d).word.size with nums := (atWk (gWk n d).word (gWk n d).word.size).nums ++ [(atWk (gWk n d).word (gWk n d).word.size).x] } := by
  have hg : goodB n d = true := by simp only [shortB, Bool.and_eq_true] at h; exact h.1
  have e : gWk n d = wkRun (side n d) 21 wk0 := by simp [gWk, hg, wkOf]
  rw [e]
  exact wkRun_at (side n d) (side_val n d) _ 21 0 rfl (by omega) rfl
theorem wk_size (n d : Int) : (gWk n d).word.size ≤ 20 := by
  have key : ∀ (f : Int → Int) (k : Nat) (i : Wk), i.word.size ≤ 20 → (wkRun f k i).word.size ≤ 20 := by
    intro f k
    induction k with
    | zero => intro i h; exact h
    | succ k ih =>
      intro i h
      unfold wkRun
      split
      · exact h
      · rename_i hn
        split
        · exact ih _ (by simp only [size_plus]; omega)
        · exact ih _ (by simp only [size_minus]; omega)
  unfold gWk
  split
  · exact key _ _ _ (by decide)
  · decide
theorem wk_end {n d : Int} (h : shortB n d = true) : mkOk (atWk (gWk n d).word (gWk n d).word.size).x 1048576 = true := by
  have hg : goodB n d = true := by simp only [shortB, Bool.and_eq_true] at h; exact h.1
  have hr := good_range hg
  have hw := wk_size n d
  have hx := atWk_small (gWk n d).word _ hw
  have e := wk_own h
  have e2 : wkOf n d = gWk n d := by simp [gWk, hg]
  have h2 : w64 (n * 1048576) = w64 ((atWk (gWk n d).word (gWk n d).word.size).x * d) := by
    simp only [shortB, Bool.and_eq_true, beq_iff_eq] at h
    have h3 := h.2
    rw [e2, e] at h3
    simpa using h3
  generalize (atWk (gWk n d).word (gWk n d).word.size).x = x at *
  have q := mul_le (a := x) (b := d) (A := 50000000) (B := 1000000) hx (by omega)
  rw [w64_small (by omega), w64_small (by omega)] at h2
  obtain ⟨r1, r2⟩ := mk_ratio (n1 := n) (d1 := d) (n2 := x) (d2 := 1048576) (by omega) (by omega) ⟨by omega, by omega⟩ ⟨by omega, by omega⟩ h2
  obtain ⟨s1, s2⟩ := mk_self hg
  unfold mkOk
  rw [← r1, ← r2, s1, s2]; exact hg
/-- Each number on the way of a short fraction is a right fraction. -/
theorem wk_ok {n d : Int} (h : shortB n d = true) (k : Nat) (hk : k ≤ (gWk n d).word.size) : mkOk (atWk (gWk n d).word k).x 1048576 = true := by
  have hw := wk_size n d
  by_cases h2 : k ≤ 19
  · exact atWk_ok _ _ h2
  · have : k = (gWk n d).word.size := by omega
    rw [this]; exact wk_end h

/-! ### the beginning of a word -/
theorem getD_ext (s : ByteArray) (k p : Nat) (h : p < k) : (s.extract 0 k).data.getD p 0 = s.data.getD p 0 := by
  simp only [Array.getD_eq_getD_getElem?, ByteArray.data_extract, Array.getElem?_extract]
  by_cases h2 : p < s.data.size
  · rw [if_pos (by omega)]; simp
  · rw [if_neg (by omega), Array.getElem?_eq_none (by omega)]
theorem atWk_ext (s : ByteArray) (k : Nat) : ∀ p, p ≤ k → atWk (s.extract 0 k) p = atWk s p
  | 0, _ => rfl
  | p + 1, h => by
    have := atWk_ext s k p (by omega)
    simp only [atWk, this, isPlus, getD_ext s k p (by omega)]
    rfl
theorem size_ext (s : ByteArray) (k : Nat) (h : k ≤ s.size) : (s.extract 0 k).size = k := by
  rw [ByteArray.size_extract]; omega

end Go.Proofs.YtllcljajlemmaaaDoor
/-
  Rows of fractions: of a call's own, compared, marked.
-/
namespace Go.Proofs.YtllcljajlemmaaaDoor
open Go K
set_option linter.unusedSimpArgs false
set_option linter.unusedVariables false
set_option maxRecDepth 8000
set_option maxHeartbeats 800000

abbrev Fr := Int × Int
def frE (x : Fr) : AV := .agg [.int .i64 x.1, .int .i64 x.2]
theorem frs_get (d r : List Fr) (e : Fr) : ((d ++ e :: r).map frE)[d.length]? = some (.agg [.int .i64 e.1, .int .i64 e.2]) := by simp [frE]
theorem frs_pure : ∀ l : List Fr, pureL (l.map frE) = true
  | [] => rfl
  | e :: r => by simp [frE, pureL, pureB, frs_pure r]
theorem frs_noOwn (l : List Fr) : noOwn (l.map frE) = true := by
  refine List.all_eq_true.2 fun x hx => ?_
  obtain ⟨e, _, rfl⟩ := List.mem_map.1 hx
  rfl
theorem frs_okTL (l : List Fr) : okTL (l.map frE) = true := by
  rw [okTL_mem]
  intro x hx
  obtain ⟨e, _, rfl⟩ := List.mem_map.1 hx
  rfl
theorem frs_okTO (l : List Fr) (T : TypeId) (z g : Nat) : okTO (.vec T z g (l.map frE)) = true := by
  simp only [okTO, frs_okTL, frs_noOwn, Bool.and_self]

/-- The marks from 'k' on. -/
def mkF : List Fr → Int → List Fr
  | [], _ => []
  | _ :: r, k => (k, k + 1) :: mkF r (k + 2)
theorem mkF_len : ∀ (l : List Fr) (k : Int), (mkF l k).length = l.length
  | [], _ => rfl
  | e :: r, k => by simp [mkF, mkF_len r]
theorem mkF_app : ∀ (d r : List Fr) (k : Int), mkF (d ++ r) k = mkF d k ++ mkF r (k + 2 * d.length)
  | [], r, k => by simp [mkF]
  | e :: d, r, k => by
    simp only [mkF, List.cons_append, mkF_app d r, List.length_cons]
    rw [show k + 2 + 2 * (d.length : Int) = k + 2 * ((d.length + 1 : Nat) : Int) by omega]
end Go.Proofs.YtllcljajlemmaaaDoor
/-
  Lists of whole numbers: their sizes, their copies, compared, marked, found again.
-/
namespace Go.Proofs.YtllcljajlemmaaaDoor
open Go K
set_option linter.unusedSimpArgs false
set_option linter.unusedVariables false
set_option maxHeartbeats 1600000
set_option maxRecDepth 8000

theorem ints_pure : ∀ l : List Int, pureL (ints l) = true
  | [] => rfl
  | x :: r => by
    have := ints_pure r
    simp only [ints, List.map_cons, pureL, pureB, Bool.true_and] at this ⊢
    exact this
theorem ints_get (d r : List Int) (x : Int) : (ints (d ++ x :: r))[d.length]? = some (.int .i64 x) := by simp
theorem i64_id {x : Int} (h1 : -9223372036854775808 ≤ x) (h2 : x < 9223372036854775808) : IntKind.i64.wrap x = x := w64_id h1 (by omega)

/-- The room that is left behind a list. -/
def szN (n : Nat) (l : Int) : Int := if l - n < 0 then -1 else l - n
theorem szIntS_ok (l : List Int) (k : Int) (hl : l.length ≤ 9223372036854775807) (h0 : 0 ≤ k) (h1 : k ≤ 1048576) : Ct Tryd.prog 36 [.sl false (ints l), .int .i64 k] [] (.int .i64 (szN l.length k)) [] := by
  have hw : IntKind.i64.wrap (k - (l.length : Int)) = k - l.length := i64_id (by omega) (by omega)
  refine Ct.by_ hmix [] Tryd.func36 rfl ?_
  simp only [run0, run1, run2, run3, run4, run5, run6, run7, run8, run9, run10, run11, run12, run13, run14, run15, run16, run17, run18, run19, run20, run21, run22, reduceCtorEq, Nat.reduceEqDiff, Nat.reduceAdd, Nat.reduceSub, Nat.reduceLeDiff, indexAddrA, indexRefA, appendA, strA, Nat.reduceMul, Nat.zero_mul, Nat.reduceMod, Int.reduceEq, Int.reduceLT, Int.reduceLE, Nat.reduceLT, Nat.lt_irrefl, Nat.reduceBEq, tys0, tys1, tys2, tys3, tys4, tys5, tys6, tys7, tys8, Tryd.ntmps36, Tryd.results36, hw, List.length_map]
  by_cases h2 : k - (l.length : Int) < 0
  · simp only [run0, run1, run2, run3, run4, run5, run6, run7, run8, run9, run10, run11, run12, run13, run14, run15, run16, run17, run18, run19, run20, run21, run22, reduceCtorEq, Nat.reduceEqDiff, Nat.reduceAdd, Nat.reduceSub, Nat.reduceLeDiff, indexAddrA, indexRefA, appendA, strA, Nat.reduceMul, Nat.zero_mul, Nat.reduceMod, Int.reduceEq, Int.reduceLT, Int.reduceLE, Nat.reduceLT, Nat.lt_irrefl, Nat.reduceBEq, tys0, tys1, tys2, tys3, tys4, tys5, tys6, tys7, tys8, Tryd.ntmps36, Tryd.results36, h2]
    exact Fin.eq (by simp [szN, h2]) rfl
  · simp only [run0, run1, run2, run3, run4, run5, run6, run7, run8, run9, run10, run11, run12, run13, run14, run15, run16, run17, run18, run19, run20, run21, run22, reduceCtorEq, Nat.reduceEqDiff, Nat.reduceAdd, Nat.reduceSub, Nat.reduceLeDiff, indexAddrA, indexRefA, appendA, strA, Nat.reduceMul, Nat.zero_mul, Nat.reduceMod, Int.reduceEq, Int.reduceLT, Int.reduceLE, Nat.reduceLT, Nat.lt_irrefl, Nat.reduceBEq, tys0, tys1, tys2, tys3, tys4, tys5, tys6, tys7, tys8, Tryd.ntmps36, Tryd.results36, h2]
    exact Fin.eq (by simp [szN, h2]) rfl

/-- A row of whole numbers, and zeros behind it. -/
abbrev intsZ (d : List Int) (n : Nat) : List AV := ints d ++ List.replicate n (.int .i64 0)
theorem intsZ_noOwn (d : List Int) (n : Nat) : noOwn (intsZ d n) = true := by
  refine List.all_eq_true.2 fun e he => ?_
  rcases List.mem_append.1 he with he | he
  · exact List.all_eq_true.1 (ints_noOwn d) e he
  · rw [(List.mem_replicate.1 he).2]; rfl
theorem Vw_intR {L : List AObj} {id g n : Nat} {T : TypeId} {es : List AV} {l : List Int} {o : Bool} (hL : L[id]? = some (.vec T 1 g es)) (he : es = ints l) (hn : n = l.length) : Vw L (.ref id [] g n) (.sl o (ints l)) := by
  subst he hn
  have := Vw.refPur (o := o) hL (n := l.length) (by simp) (fun e he c hc => by
    obtain ⟨y, _, rfl⟩ := List.mem_map.1 he
    simp only [AV.cells, List.mem_cons, List.not_mem_nil, or_false] at hc
    subst hc
    exact ⟨.int _ _, fun xs h => by cases h⟩)
  rwa [List.take_of_length_le (by simp)] at this

/-- A copy as a row of the call's own. -/
theorem toIntS_own (l : List Int) (hl : l.length ≤ 1048576) : Ct Tryd.prog 38 [.sl false (ints l)] [] (.ref 0 [] 0 l.length) [.vec 3 1 0 (ints l)] := by
  have b0 : (l.length : Int) ≤ 137438953472 := by omega
  have b1 : (l.length : Int) ≤ 17592186044416 := by omega
  refine Ct.by_ hmix [] Tryd.func38 rfl ?_
  simp only [run0, run1, run2, run3, run4, run5, run6, run7, run8, run9, run10, run11, run12, run13, run14, run15, run16, run17, run18, run19, run20, run21, run22, reduceCtorEq, Nat.reduceEqDiff, Nat.reduceAdd, Nat.reduceSub, Nat.reduceLeDiff, indexAddrA, indexRefA, appendA, strA, Nat.reduceMul, Nat.zero_mul, Nat.reduceMod, Int.reduceEq, Int.reduceLT, Int.reduceLE, Nat.reduceLT, Nat.lt_irrefl, Nat.reduceBEq, tys0, tys1, tys2, tys3, tys4, tys5, tys6, tys7, tys8, Tryd.ntmps38, Tryd.results38, b0, b1, List.length_map, Int.natCast_nonneg, Int.le_refl, Int.toNat_natCast]
  refine AWp.loop_inv (ι := List Int × List Int) (fun p => ⟨[.sl false (ints l), .junk, .junk, .ref 0 [] 0 l.length, .int .i64 p.1.length, .junk, .junk, .junk, .junk, .junk, .junk, .junk, .junk, .junk, .junk, .junk, .junk, .junk, .junk, .junk, .junk, .junk], [.vec 3 1 0 (intsZ p.1 p.2.length)]⟩)
    (fun p => l = p.1 ++ p.2) (fun p => p.2.length) ([], l) rfl ⟨by simp only [List.length_nil, Int.natCast_zero]; repeat constructor, rfl⟩ ?_
  rintro ⟨d, r⟩ ha
  refine W.sound hmix (E := []) ?_
  simp only at ha
  have hda : d.length + r.length = l.length := by rw [ha, List.length_append]
  cases r with
  | nil =>
    have e1 : ¬ ((d.length : Int) < (l.length : Int)) := by simp at hda; omega
    simp only [run0, run1, run2, run3, run4, run5, run6, run7, run8, run9, run10, run11, run12, run13, run14, run15, run16, run17, run18, run19, run20, run21, run22, reduceCtorEq, Nat.reduceEqDiff, Nat.reduceAdd, Nat.reduceSub, Nat.reduceLeDiff, indexAddrA, indexRefA, appendA, strA, Nat.reduceMul, Nat.zero_mul, Nat.reduceMod, Int.reduceEq, Int.reduceLT, Int.reduceLE, Nat.reduceLT, Nat.lt_irrefl, Nat.reduceBEq, tys0, tys1, tys2, tys3, tys4, tys5, tys6, tys7, tys8, Tryd.ntmps38, Tryd.results38, e1, List.length_map]
    have hd : d = l := by rw [ha, List.append_nil]
    subst hd
    exact Fin.own (by simp) rfl
  | cons e r =>
    simp only [List.length_cons] at hda
    have e1 : (d.length : Int) < (l.length : Int) := by omega
    have e2 : (ints l)[d.length]? = some (.int .i64 e) := by rw [ha]; exact ints_get d r e
    have e5 : IntKind.i64.wrap ((d.length : Int) + 1) = ((d ++ [e]).length : Int) := by rw [i64_id (by omega) (by omega)]; simp
    have hle : (ints d).length = d.length := by simp
    have e6 : (intsZ d (r.length + 1))[d.length]? = some (.int .i64 0) := by simp [intsZ, List.replicate_succ]
    have e7 : noOwn (intsZ d (r.length + 1)) = true := intsZ_noOwn d (r.length + 1)
    have e8 : (intsZ d (r.length + 1)).set d.length (.int .i64 e) = intsZ (d ++ [e]) r.length := by
      unfold intsZ
      rw [List.set_append_right _ _ (by simp)]; simp [List.replicate_succ]
    simp only [run0, run1, run2, run3, run4, run5, run6, run7, run8, run9, run10, run11, run12, run13, run14, run15, run16, run17, run18, run19, run20, run21, run22, reduceCtorEq, Nat.reduceEqDiff, Nat.reduceAdd, Nat.reduceSub, Nat.reduceLeDiff, indexAddrA, indexRefA, appendA, strA, Nat.reduceMul, Nat.zero_mul, Nat.reduceMod, Int.reduceEq, Int.reduceLT, Int.reduceLE, Nat.reduceLT, Nat.lt_irrefl, Nat.reduceBEq, tys0, tys1, tys2, tys3, tys4, tys5, tys6, tys7, tys8, Tryd.ntmps38, Tryd.results38, List.length_map, e1, e2, e5, e6, e7, e8, Int.toNat_natCast, Int.natCast_nonneg]
    exact ⟨(d ++ [e], r), by simp [ha], by simp, by simp only [List.length_append, List.length_cons, List.length_nil]; repeat constructor, rfl⟩
theorem toIntS_ok (l : List Int) (hl : l.length ≤ 1048576) : Ct Tryd.prog 38 [.sl false (ints l)] [] (.sl false (ints l)) [] := (toIntS_own l hl).toV (Vw_intR rfl rfl rfl)

theorem eqIntS_ok (l : List Int) (hl : l.length ≤ 1048576) : Ct Tryd.prog 35 [.sl false (ints l), .sl false (ints l)] [] (.bool true) [] := by
  refine Ct.by_ hmix [] Tryd.func35 rfl ?_
  simp only [run0, run1, run2, run3, run4, run5, run6, run7, run8, run9, run10, run11, run12, run13, run14, run15, run16, run17, run18, run19, run20, run21, run22, reduceCtorEq, Nat.reduceEqDiff, Nat.reduceAdd, Nat.reduceSub, Nat.reduceLeDiff, indexAddrA, indexRefA, appendA, strA, Nat.reduceMul, Nat.zero_mul, Nat.reduceMod, Int.reduceEq, Int.reduceLT, Int.reduceLE, Nat.reduceLT, Nat.lt_irrefl, Nat.reduceBEq, tys0, tys1, tys2, tys3, tys4, tys5, tys6, tys7, tys8, Tryd.ntmps35, Tryd.results35, bne_self_eq_false, List.length_map]
  refine AWp.loop_inv (ι := List Int × List Int) (fun p => ⟨[.sl false (ints l), .sl false (ints l), .junk, .junk, .bool false, .int .i64 p.1.length, .junk, .junk, .junk, .junk, .junk, .junk, .junk, .junk, .junk, .junk, .junk, .junk, .junk, .junk, .junk, .junk, .junk, .junk, .junk, .junk], []⟩)
    (fun p => l = p.1 ++ p.2) (fun p => p.2.length) ([], l) rfl ⟨by simp only [List.length_nil, Int.natCast_zero]; repeat constructor, rfl⟩ ?_
  rintro ⟨d, r⟩ ha
  refine W.sound hmix (E := []) ?_
  simp only at ha
  have hda : d.length + r.length = l.length := by rw [ha, List.length_append]
  cases r with
  | nil =>
    have e1 : ¬ ((d.length : Int) < (l.length : Int)) := by simp at hda; omega
    simp only [run0, run1, run2, run3, run4, run5, run6, run7, run8, run9, run10, run11, run12, run13, run14, run15, run16, run17, run18, run19, run20, run21, run22, reduceCtorEq, Nat.reduceEqDiff, Nat.reduceAdd, Nat.reduceSub, Nat.reduceLeDiff, indexAddrA, indexRefA, appendA, strA, Nat.reduceMul, Nat.zero_mul, Nat.reduceMod, Int.reduceEq, Int.reduceLT, Int.reduceLE, Nat.reduceLT, Nat.lt_irrefl, Nat.reduceBEq, tys0, tys1, tys2, tys3, tys4, tys5, tys6, tys7, tys8, Tryd.ntmps35, Tryd.results35, e1, List.length_map]
    exact Fin.eq rfl rfl
  | cons e r =>
    simp only [List.length_cons] at hda
    have e1 : (d.length : Int) < (l.length : Int) := by omega
    have e2 : (ints l)[d.length]? = some (.int .i64 e) := by rw [ha]; exact ints_get d r e
    have e5 : IntKind.i64.wrap ((d.length : Int) + 1) = ((d ++ [e]).length : Int) := by rw [i64_id (by omega) (by omega)]; simp
    simp only [run0, run1, run2, run3, run4, run5, run6, run7, run8, run9, run10, run11, run12, run13, run14, run15, run16, run17, run18, run19, run20, run21, run22, reduceCtorEq, Nat.reduceEqDiff, Nat.reduceAdd, Nat.reduceSub, Nat.reduceLeDiff, indexAddrA, indexRefA, appendA, strA, Nat.reduceMul, Nat.zero_mul, Nat.reduceMod, Int.reduceEq, Int.reduceLT, Int.reduceLE, Nat.reduceLT, Nat.lt_irrefl, Nat.reduceBEq, tys0, tys1, tys2, tys3, tys4, tys5, tys6, tys7, tys8, Tryd.ntmps35, Tryd.results35, List.length_map, e1, e2, Int.toNat_natCast, Int.natCast_nonneg, bne_self_eq_false]
    refine ⟨by kernel_rfl, ?_⟩
    simp only [run0, run1, run2, run3, run4, run5, run6, run7, run8, run9, run10, run11, run12, run13, run14, run15, run16, run17, run18, run19, run20, run21, run22, reduceCtorEq, Nat.reduceEqDiff, Nat.reduceAdd, Nat.reduceSub, Nat.reduceLeDiff, indexAddrA, indexRefA, appendA, strA, Nat.reduceMul, Nat.zero_mul, Nat.reduceMod, Int.reduceEq, Int.reduceLT, Int.reduceLE, Nat.reduceLT, Nat.lt_irrefl, Nat.reduceBEq, tys0, tys1, tys2, tys3, tys4, tys5, tys6, tys7, tys8, Tryd.ntmps35, Tryd.results35, e5]
    exact ⟨(d ++ [e], r), by simp [ha], by simp, by simp only [List.length_append, List.length_cons, List.length_nil]; repeat constructor⟩

/-- The marks from 'k' on. -/
def mkI : List Int → Int → List Int
  | [], _ => []
  | _ :: r, k => k :: mkI r (k + 1)
theorem mkI_len : ∀ (l : List Int) (k : Int), (mkI l k).length = l.length
  | [], _ => rfl
  | e :: r, k => by simp [mkI, mkI_len r]
theorem mkI_app : ∀ (d r : List Int) (k : Int), mkI (d ++ r) k = mkI d k ++ mkI r (k + d.length)
  | [], r, k => by simp [mkI]
  | e :: d, r, k => by
    simp only [mkI, List.cons_append, mkI_app d r, List.length_cons]
    rw [show k + 1 + (d.length : Int) = k + ((d.length + 1 : Nat) : Int) by omega]
theorem heldIntS_ok (l : List Int) (k : Int) (hl : l.length ≤ 1048576) (h0 : 0 ≤ k) (hk : k ≤ 4611686018427387904) : Ct Tryd.prog 22 [.sl false (ints (mkI l k)), .int .i64 k] [] (.int .i64 (k + l.length)) [] := by
  have hml := mkI_len l k
  refine Ct.by_ hmix [] Tryd.func22 rfl ?_
  simp only [run0, run1, run2, run3, run4, run5, run6, run7, run8, run9, run10, run11, run12, run13, run14, run15, run16, run17, run18, run19, run20, run21, run22, reduceCtorEq, Nat.reduceEqDiff, Nat.reduceAdd, Nat.reduceSub, Nat.reduceLeDiff, indexAddrA, indexRefA, appendA, strA, Nat.reduceMul, Nat.zero_mul, Nat.reduceMod, Int.reduceEq, Int.reduceLT, Int.reduceLE, Nat.reduceLT, Nat.lt_irrefl, Nat.reduceBEq, tys0, tys1, tys2, tys3, tys4, tys5, tys6, tys7, tys8, Tryd.ntmps22, Tryd.results22, hml, List.length_map]
  refine AWp.loop_inv (ι := List Int × List Int) (fun p => ⟨[.sl false (ints (mkI l k)), .int .i64 (k + p.1.length), .junk, .junk, .int .i64 0, .int .i64 p.1.length, .junk, .junk, .junk, .junk, .junk, .junk, .junk, .junk, .junk, .junk, .junk, .junk, .junk, .junk, .junk], []⟩)
    (fun p => l = p.1 ++ p.2) (fun p => p.2.length) ([], l) rfl ⟨by simp only [List.length_nil, Int.natCast_zero, Int.add_zero]; repeat constructor, rfl⟩ ?_
  rintro ⟨d, r⟩ ha
  refine W.sound hmix (E := []) ?_
  simp only at ha
  have hda : d.length + r.length = l.length := by rw [ha, List.length_append]
  cases r with
  | nil =>
    have e1 : ¬ ((d.length : Int) < (l.length : Int)) := by simp at hda; omega
    simp only [run0, run1, run2, run3, run4, run5, run6, run7, run8, run9, run10, run11, run12, run13, run14, run15, run16, run17, run18, run19, run20, run21, run22, reduceCtorEq, Nat.reduceEqDiff, Nat.reduceAdd, Nat.reduceSub, Nat.reduceLeDiff, indexAddrA, indexRefA, appendA, strA, Nat.reduceMul, Nat.zero_mul, Nat.reduceMod, Int.reduceEq, Int.reduceLT, Int.reduceLE, Nat.reduceLT, Nat.lt_irrefl, Nat.reduceBEq, tys0, tys1, tys2, tys3, tys4, tys5, tys6, tys7, tys8, Tryd.ntmps22, Tryd.results22, e1, hml, List.length_map]
    refine Fin.eq ?_ rfl
    rw [ha]; simp
  | cons e r =>
    simp only [List.length_cons] at hda
    have e1 : (d.length : Int) < (l.length : Int) := by omega
    have e2 : (ints (mkI l k))[d.length]? = some (.int .i64 (k + d.length)) := by
      rw [ha, mkI_app, mkI, ← mkI_len d k]; exact ints_get _ _ _
    have e5 : IntKind.i64.wrap ((d.length : Int) + 1) = ((d ++ [e]).length : Int) := by rw [i64_id (by omega) (by omega)]; simp
    have e7 : IntKind.i64.wrap (k + (d.length : Int) + 1) = k + ((d ++ [e]).length : Int) := by
      rw [i64_id (by omega) (by omega)]; simp; omega
    simp only [run0, run1, run2, run3, run4, run5, run6, run7, run8, run9, run10, run11, run12, run13, run14, run15, run16, run17, run18, run19, run20, run21, run22, reduceCtorEq, Nat.reduceEqDiff, Nat.reduceAdd, Nat.reduceSub, Nat.reduceLeDiff, indexAddrA, indexRefA, appendA, strA, Nat.reduceMul, Nat.zero_mul, Nat.reduceMod, Int.reduceEq, Int.reduceLT, Int.reduceLE, Nat.reduceLT, Nat.lt_irrefl, Nat.reduceBEq, tys0, tys1, tys2, tys3, tys4, tys5, tys6, tys7, tys8, Tryd.ntmps22, Tryd.results22, e1, e2, hml, List.length_map, Int.toNat_natCast, Int.natCast_nonneg, bne_self_eq_false, e5, e7]
    exact ⟨(d ++ [e], r), by simp [ha], by simp, by simp only [List.length_append, List.length_cons, List.length_nil]; repeat constructor⟩
theorem markIntS_ok (l : List Int) (id g : Nat) (L0 : List AObj) (k : Int) (hL : L0[id]? = some (.vec 3 1 g (ints l))) (hl : l.length ≤ 1048576) (h0 : 0 ≤ k) (hk : k ≤ 4611686018427387904) :
    Ct Tryd.prog 21 [.ref id [] g l.length, .int .i64 k] L0 (.int .i64 (k + l.length)) (L0.set id (.vec 3 1 g (ints (mkI l k)))) := by
  have hid := (List.getElem?_eq_some_iff.1 hL).1
  have hget : ∀ X, (L0.set id X)[id]? = some X := fun X => List.getElem?_set_self hid
  have hsame : L0 = L0.set id (.vec 3 1 g (ints l)) := by
    apply List.ext_getElem?
    intro i
    by_cases hi : id = i
    · subst hi; rw [hget, hL]
    · rw [List.getElem?_set_ne hi]
  refine Ct.by_ hmix [] Tryd.func21 rfl ?_
  simp only [run0, run1, run2, run3, run4, run5, run6, run7, run8, run9, run10, run11, run12, run13, run14, run15, run16, run17, run18, run19, run20, run21, run22, reduceCtorEq, Nat.reduceEqDiff, Nat.reduceAdd, Nat.reduceSub, Nat.reduceLeDiff, indexAddrA, indexRefA, appendA, strA, Nat.reduceMul, Nat.zero_mul, Nat.reduceMod, Int.reduceEq, Int.reduceLT, Int.reduceLE, Nat.reduceLT, Nat.lt_irrefl, Nat.reduceBEq, tys0, tys1, tys2, tys3, tys4, tys5, tys6, tys7, tys8, Tryd.ntmps21, Tryd.results21]
  refine AWp.loop_inv (ι := List Int × List Int) (fun p => ⟨[.ref id [] g l.length, .int .i64 (k + p.1.length), .junk, .junk, .int .i64 0, .int .i64 p.1.length, .junk, .junk, .junk, .junk, .junk, .junk, .junk, .junk, .junk, .junk, .junk, .junk, .junk], L0.set id (.vec 3 1 g (ints (mkI p.1 k) ++ ints p.2))⟩)
    (fun p => l = p.1 ++ p.2) (fun p => p.2.length) ([], l) rfl ⟨by simp only [List.length_nil, Int.natCast_zero, Int.add_zero]; repeat constructor, by simpa [mkI] using hsame⟩ ?_
  rintro ⟨d, r⟩ ha
  refine W.sound hmix (E := []) ?_
  simp only at ha
  have hda : d.length + r.length = l.length := by rw [ha, List.length_append]
  have hml := mkI_len d k
  cases r with
  | nil =>
    have e1 : ¬ ((d.length : Int) < (l.length : Int)) := by simp at hda; omega
    simp only [run0, run1, run2, run3, run4, run5, run6, run7, run8, run9, run10, run11, run12, run13, run14, run15, run16, run17, run18, run19, run20, run21, run22, reduceCtorEq, Nat.reduceEqDiff, Nat.reduceAdd, Nat.reduceSub, Nat.reduceLeDiff, indexAddrA, indexRefA, appendA, strA, Nat.reduceMul, Nat.zero_mul, Nat.reduceMod, Int.reduceEq, Int.reduceLT, Int.reduceLE, Nat.reduceLT, Nat.lt_irrefl, Nat.reduceBEq, tys0, tys1, tys2, tys3, tys4, tys5, tys6, tys7, tys8, Tryd.ntmps21, Tryd.results21, e1, hget]
    have hd : d = l := by rw [ha, List.append_nil]
    subst hd
    exact Fin.own (by simp) rfl
  | cons e r =>
    simp only [List.length_cons] at hda
    have e1 : (d.length : Int) < (l.length : Int) := by omega
    have e2 : (ints (mkI d k) ++ AV.int .i64 e :: ints r)[d.length]? = some (.int .i64 e) := by rw [← hml]; simp
    have e3 : noOwn (ints (mkI d k) ++ AV.int .i64 e :: ints r) = true := by
      have := ints_noOwn (mkI d k ++ e :: r)
      simpa using this
    have e4 : (ints (mkI d k) ++ AV.int .i64 e :: ints r).set d.length (.int .i64 (k + d.length)) = ints (mkI d k) ++ AV.int .i64 (k + d.length) :: ints r := by rw [← hml]; simp
    have e5 : IntKind.i64.wrap ((d.length : Int) + 1) = ((d ++ [e]).length : Int) := by rw [i64_id (by omega) (by omega)]; simp
    have e7 : IntKind.i64.wrap (k + (d.length : Int) + 1) = k + ((d ++ [e]).length : Int) := by
      rw [i64_id (by omega) (by omega)]; simp; omega
    simp only [run0, run1, run2, run3, run4, run5, run6, run7, run8, run9, run10, run11, run12, run13, run14, run15, run16, run17, run18, run19, run20, run21, run22, reduceCtorEq, Nat.reduceEqDiff, Nat.reduceAdd, Nat.reduceSub, Nat.reduceLeDiff, indexAddrA, indexRefA, appendA, strA, Nat.reduceMul, Nat.zero_mul, Nat.reduceMod, Int.reduceEq, Int.reduceLT, Int.reduceLE, Nat.reduceLT, Nat.lt_irrefl, Nat.reduceBEq, tys0, tys1, tys2, tys3, tys4, tys5, tys6, tys7, tys8, Tryd.ntmps21, Tryd.results21, List.map_cons, e1, hget, e2, e3, e4, e5, e7, List.set_set, Int.toNat_natCast, Int.natCast_nonneg, setE]
    exact ⟨(d ++ [e], r), by simp [ha], by simp, by simp only [List.length_append, List.length_cons, List.length_nil]; repeat constructor, by simp [mkI_app, mkI]⟩

end Go.Proofs.YtllcljajlemmaaaDoor
/-
  Lists of whole numbers that come in.
-/
namespace Go.Proofs.YtllcljajlemmaaaDoor
open Go K
set_option linter.unusedSimpArgs false
set_option linter.unusedVariables false

theorem ints_in : ∀ es : List AV, (∀ x ∈ es, IsOf Tryd.prog 3 x) → ∃ l : List Int, es = ints l
  | [], _ => ⟨[], rfl⟩
  | x :: es, hes => by
    obtain ⟨l, rfl⟩ := ints_in es fun y hy => hes y (List.mem_cons_of_mem _ hy)
    obtain ⟨_, h⟩ := (hes x (List.mem_cons_self ..)).one ty_a3
    obtain ⟨n, e, _⟩ := h.int Tryd.underlying3
    simp at e
    subst e
    exact ⟨n :: l, rfl⟩
theorem szN_spec (n : Nat) (k : Int) : (0 ≤ k - n ∧ szN n k = k - n) ∨ (k - n < 0 ∧ szN n k = -1) := by
  unfold szN
  by_cases h : k - n < 0
  · exact .inr ⟨h, if_pos h⟩
  · exact .inl ⟨by omega, if_neg h⟩
theorem mx_len : maxLen = 9223372036854775807 := by decide

end Go.Proofs.YtllcljajlemmaaaDoor
/-
  Games: positions as data: sizes, copies, compared; which are games, by both.
-/
namespace Go.Proofs.YtllcljajlemmaaaDoor
open Go K
set_option linter.unusedSimpArgs false
set_option linter.unusedVariables false
set_option maxHeartbeats 1600000
set_option maxRecDepth 8000

abbrev GP := List Int × List Int
def posE (p : GP) : AV := .agg [.sl false (ints p.1), .sl false (ints p.2)]
theorem pos_get (d r : List GP) (e : GP) : ((d ++ e :: r).map posE)[d.length]? = some (.agg [.sl false (ints e.1), .sl false (ints e.2)]) := by simp [posE]
theorem posL_pure : ∀ l : List GP, pureL (l.map posE) = true
  | [] => rfl
  | x :: r => by simp [posE, pureL, pureB, ints_pure, posL_pure r]
theorem posL_noOwn (l : List GP) : noOwn (l.map posE) = true := by
  refine List.all_eq_true.2 fun x hx => ?_
  obtain ⟨e, _, rfl⟩ := List.mem_map.1 hx
  rfl
theorem pos_split {l d r : List GP} {e : GP} (ha : l = d ++ e :: r) (hl : l.length ≤ 1048576) : (d.length : Int) < (l.length : Int) ∧ (l.map posE)[d.length]? = some (.agg [.sl false (ints e.1), .sl false (ints e.2)]) ∧ IntKind.i64.wrap ((d.length : Int) + 1) = ((d ++ [e]).length : Int) := by
  have hda : l.length = d.length + (r.length + 1) := by rw [ha]; simp
  refine ⟨by omega, by rw [ha]; exact pos_get d r e, by rw [i64_id (by omega) (by omega)]; simp⟩
theorem pos_end {l d : List GP} (ha : l = d ++ []) : ¬ ((d.length : Int) < (l.length : Int)) := by rw [ha]; simp
theorem int_split {l d r : List Int} {e : Int} (ha : l = d ++ e :: r) (hl : l.length ≤ 1048576) : (d.length : Int) < (l.length : Int) ∧ (ints l)[d.length]? = some (.int .i64 e) ∧ IntKind.i64.wrap ((d.length : Int) + 1) = ((d ++ [e]).length : Int) := by
  have hda : l.length = d.length + (r.length + 1) := by rw [ha]; simp
  refine ⟨by omega, by rw [ha]; exact ints_get d r e, by rw [i64_id (by omega) (by omega)]; simp⟩
theorem int_end {l d : List Int} (ha : l = d ++ []) : ¬ ((d.length : Int) < (l.length : Int)) := by rw [ha]; simp

/-! ### what comes in -/
def fitP (p : GP) : Prop := p.1.length ≤ 9223372036854775807 ∧ p.2.length ≤ 9223372036854775807
theorem pos_in : ∀ es : List AV, (∀ x ∈ es, IsOf Tryd.prog 49 x) → ∃ l : List GP, es = l.map posE ∧ ∀ p ∈ l, fitP p
  | [], _ => ⟨[], rfl, by simp⟩
  | x :: es, hes => by
    obtain ⟨l, rfl, h2⟩ := pos_in es fun y hy => hes y (List.mem_cons_of_mem _ hy)
    obtain ⟨k, cs, rfl, hcl, hx⟩ := (hes x (List.mem_cons_self ..)).agg ty_a49
    rw [ty_c49] at hcl
    match cs, hcl with
    | [u, v], _ =>
      obtain ⟨_, g0⟩ := hx.field ty_f49_0
      obtain ⟨_, g1⟩ := hx.field ty_f49_1
      rw [ty_c36] at g0
      rw [ty_c36] at g1
      simp only [List.drop_zero, List.take_succ_cons, List.take_zero, List.drop_succ_cons] at g0 g1
      obtain ⟨e0, q0, l0, s0⟩ := g0.slice Tryd.underlying36
      obtain ⟨e1, q1, l1, s1⟩ := g1.slice Tryd.underlying36
      simp only [List.cons.injEq, and_true] at q0 q1
      subst q0 q1
      obtain ⟨a, rfl⟩ := ints_in e0 s0
      obtain ⟨b, rfl⟩ := ints_in e1 s1
      rw [mx_len] at l0 l1
      refine ⟨(a, b) :: l, rfl, fun p hp => ?_⟩
      rcases List.mem_cons.1 hp with rfl | hp
      · exact ⟨by simpa using l0, by simpa using l1⟩
      · exact h2 p hp
theorem laws_isPoS {x : AV} (h : IsOf Tryd.prog 28 x) : ∃ g : List GP, x = .sl false (g.map posE) ∧ g.length ≤ 9223372036854775807 ∧ ∀ p ∈ g, fitP p := by
  obtain ⟨n, h0⟩ := h.one ty_a28
  obtain ⟨es, e0, hel, hes⟩ := h0.slice Tryd.underlying28
  simp only [List.cons.injEq, and_true] at e0
  subst e0
  obtain ⟨l, rfl, h2⟩ := pos_in es hes
  rw [mx_len] at hel
  exact ⟨l, rfl, by simpa using hel, h2⟩

/-! ### sizes -/
def psz (p : GP) : Nat := p.1.length + p.2.length
def gsz : List GP → Nat
  | [] => 0
  | p :: r => psz p + gsz r
theorem szPosition_ok (p : GP) (k : Int) (hf : fitP p) (h0 : 0 ≤ k) (h1 : k ≤ 1048576) : Ct Tryd.prog 23 [.agg [.sl false (ints p.1), .sl false (ints p.2)], .int .i64 k] [] (.int .i64 (szN (psz p) k)) [] := by
  have p1 := ints_pure p.1
  have p2 := ints_pure p.2
  have s3 := szN_spec (psz p) k
  unfold psz at s3
  refine Ct.by_ hmix [] Tryd.func23 rfl ?_
  simp only [run0, run1, run2, run3, run4, run5, run6, run7, run8, run9, run10, run11, run12, run13, run14, run15, run16, run17, run18, run19, run20, run21, run22, reduceCtorEq, Nat.reduceEqDiff, Nat.reduceAdd, Nat.reduceSub, Nat.reduceLeDiff, indexAddrA, indexRefA, appendA, strA, Nat.reduceMul, Nat.zero_mul, Nat.reduceMod, Int.reduceEq, Int.reduceLT, Int.reduceLE, Nat.reduceLT, Nat.lt_irrefl, Nat.reduceBEq, tys0, tys1, tys2, tys3, tys4, tys5, tys6, tys7, tys8, Tryd.ntmps23, Tryd.results23]
  refine RunL.callp rfl rfl ok_f36 (szIntS_ok p.1 k hf.1 h0 h1) (by simp only [pureL, pureB, p1, Bool.and_self]) rfl ?_
  rcases szN_spec p.1.length k with ⟨a, b⟩ | ⟨a, b⟩
  · have e : ¬ szN p.1.length k < 0 := by omega
    simp only [run0, run1, run2, run3, run4, run5, run6, run7, run8, run9, run10, run11, run12, run13, run14, run15, run16, run17, run18, run19, run20, run21, run22, reduceCtorEq, Nat.reduceEqDiff, Nat.reduceAdd, Nat.reduceSub, Nat.reduceLeDiff, indexAddrA, indexRefA, appendA, strA, Nat.reduceMul, Nat.zero_mul, Nat.reduceMod, Int.reduceEq, Int.reduceLT, Int.reduceLE, Nat.reduceLT, Nat.lt_irrefl, Nat.reduceBEq, tys0, tys1, tys2, tys3, tys4, tys5, tys6, tys7, tys8, Tryd.ntmps23, Tryd.results23, e]
    refine RunL.callp rfl rfl ok_f36 (szIntS_ok p.2 _ hf.2 (by omega) (by omega)) (by simp only [pureL, pureB, p2, Bool.and_self]) rfl ?_
    rcases szN_spec p.2.length (szN p.1.length k) with ⟨c, d⟩ | ⟨c, d⟩
    · have e : ¬ szN p.2.length (szN p.1.length k) < 0 := by omega
      simp only [run0, run1, run2, run3, run4, run5, run6, run7, run8, run9, run10, run11, run12, run13, run14, run15, run16, run17, run18, run19, run20, run21, run22, reduceCtorEq, Nat.reduceEqDiff, Nat.reduceAdd, Nat.reduceSub, Nat.reduceLeDiff, indexAddrA, indexRefA, appendA, strA, Nat.reduceMul, Nat.zero_mul, Nat.reduceMod, Int.reduceEq, Int.reduceLT, Int.reduceLE, Nat.reduceLT, Nat.lt_irrefl, Nat.reduceBEq, tys0, tys1, tys2, tys3, tys4, tys5, tys6, tys7, tys8, Tryd.ntmps23, Tryd.results23, e]
      exact Fin.eq (by unfold psz; congr 1; omega) rfl
    · have e : szN p.2.length (szN p.1.length k) < 0 := by omega
      simp only [run0, run1, run2, run3, run4, run5, run6, run7, run8, run9, run10, run11, run12, run13, run14, run15, run16, run17, run18, run19, run20, run21, run22, reduceCtorEq, Nat.reduceEqDiff, Nat.reduceAdd, Nat.reduceSub, Nat.reduceLeDiff, indexAddrA, indexRefA, appendA, strA, Nat.reduceMul, Nat.zero_mul, Nat.reduceMod, Int.reduceEq, Int.reduceLT, Int.reduceLE, Nat.reduceLT, Nat.lt_irrefl, Nat.reduceBEq, tys0, tys1, tys2, tys3, tys4, tys5, tys6, tys7, tys8, Tryd.ntmps23, Tryd.results23, e]
      exact Fin.eq (by unfold psz; congr 1; omega) rfl
  · have e : szN p.1.length k < 0 := by omega
    simp only [run0, run1, run2, run3, run4, run5, run6, run7, run8, run9, run10, run11, run12, run13, run14, run15, run16, run17, run18, run19, run20, run21, run22, reduceCtorEq, Nat.reduceEqDiff, Nat.reduceAdd, Nat.reduceSub, Nat.reduceLeDiff, indexAddrA, indexRefA, appendA, strA, Nat.reduceMul, Nat.zero_mul, Nat.reduceMod, Int.reduceEq, Int.reduceLT, Int.reduceLE, Nat.reduceLT, Nat.lt_irrefl, Nat.reduceBEq, tys0, tys1, tys2, tys3, tys4, tys5, tys6, tys7, tys8, Tryd.ntmps23, Tryd.results23, e]
    exact Fin.eq (by unfold psz; congr 1; omega) rfl
theorem szPositionS_ok (g : List GP) (k : Int) (hl : g.length ≤ 9223372036854775807) (hf : ∀ p ∈ g, fitP p) (h0 : 0 ≤ k) (h1 : k ≤ 1048576) : Ct Tryd.prog 10 [.sl false (g.map posE), .int .i64 k] [] (.int .i64 (szN (g.length + gsz g) k)) [] := by
  have hw : IntKind.i64.wrap (k - (g.length : Int)) = k - g.length := i64_id (by omega) (by omega)
  have s3 := szN_spec (g.length + gsz g) k
  refine Ct.by_ hmix [] Tryd.func10 rfl ?_
  simp only [run0, run1, run2, run3, run4, run5, run6, run7, run8, run9, run10, run11, run12, run13, run14, run15, run16, run17, run18, run19, run20, run21, run22, reduceCtorEq, Nat.reduceEqDiff, Nat.reduceAdd, Nat.reduceSub, Nat.reduceLeDiff, indexAddrA, indexRefA, appendA, strA, Nat.reduceMul, Nat.zero_mul, Nat.reduceMod, Int.reduceEq, Int.reduceLT, Int.reduceLE, Nat.reduceLT, Nat.lt_irrefl, Nat.reduceBEq, tys0, tys1, tys2, tys3, tys4, tys5, tys6, tys7, tys8, Tryd.ntmps10, Tryd.results10, hw, List.length_map]
  by_cases hn : k - (g.length : Int) < 0
  · simp only [run0, run1, run2, run3, run4, run5, run6, run7, run8, run9, run10, run11, run12, run13, run14, run15, run16, run17, run18, run19, run20, run21, run22, reduceCtorEq, Nat.reduceEqDiff, Nat.reduceAdd, Nat.reduceSub, Nat.reduceLeDiff, indexAddrA, indexRefA, appendA, strA, Nat.reduceMul, Nat.zero_mul, Nat.reduceMod, Int.reduceEq, Int.reduceLT, Int.reduceLE, Nat.reduceLT, Nat.lt_irrefl, Nat.reduceBEq, tys0, tys1, tys2, tys3, tys4, tys5, tys6, tys7, tys8, Tryd.ntmps10, Tryd.results10, hn]
    exact Fin.eq (by congr 1; omega) rfl
  simp only [run0, run1, run2, run3, run4, run5, run6, run7, run8, run9, run10, run11, run12, run13, run14, run15, run16, run17, run18, run19, run20, run21, run22, reduceCtorEq, Nat.reduceEqDiff, Nat.reduceAdd, Nat.reduceSub, Nat.reduceLeDiff, indexAddrA, indexRefA, appendA, strA, Nat.reduceMul, Nat.zero_mul, Nat.reduceMod, Int.reduceEq, Int.reduceLT, Int.reduceLE, Nat.reduceLT, Nat.lt_irrefl, Nat.reduceBEq, tys0, tys1, tys2, tys3, tys4, tys5, tys6, tys7, tys8, Tryd.ntmps10, Tryd.results10, hn]
  refine AWp.loop_inv (ι := List GP × List GP × Int) (fun p => ⟨[.sl false (g.map posE), .int .i64 p.2.2, .junk, .junk, .int .i64 0, .int .i64 p.1.length, .junk, .junk, .junk, .junk, .junk, .junk, .junk, .junk, .junk, .junk, .junk, .junk, .junk, .junk, .junk, .junk, .junk, .junk, .junk, .junk, .junk], []⟩)
    (fun p => g = p.1 ++ p.2.1 ∧ 0 ≤ p.2.2 ∧ p.2.2 ≤ 1048576 ∧ szN (gsz p.2.1) p.2.2 = szN (g.length + gsz g) k) (fun p => p.2.1.length) ([], g, k - g.length)
    ⟨rfl, by simp only; omega, by simp only; omega, by have := szN_spec (gsz g) (k - g.length); simp only; omega⟩ ⟨by simp only [List.length_nil, Int.natCast_zero]; repeat constructor, rfl⟩ ?_
  rintro ⟨d, r, l'⟩ ⟨ha, h2, h3, h4⟩
  refine W.sound hmix (E := []) ?_
  simp only at ha h2 h3 h4
  cases r with
  | nil =>
    have e1 := pos_end ha
    simp only [run0, run1, run2, run3, run4, run5, run6, run7, run8, run9, run10, run11, run12, run13, run14, run15, run16, run17, run18, run19, run20, run21, run22, reduceCtorEq, Nat.reduceEqDiff, Nat.reduceAdd, Nat.reduceSub, Nat.reduceLeDiff, indexAddrA, indexRefA, appendA, strA, Nat.reduceMul, Nat.zero_mul, Nat.reduceMod, Int.reduceEq, Int.reduceLT, Int.reduceLE, Nat.reduceLT, Nat.lt_irrefl, Nat.reduceBEq, tys0, tys1, tys2, tys3, tys4, tys5, tys6, tys7, tys8, Tryd.ntmps10, Tryd.results10, e1, List.length_map]
    exact Fin.eq (by rw [← h4]; have := szN_spec (gsz []) l'; simp only [gsz] at this; congr 1; simp only [gsz]; omega) rfl
  | cons e r =>
    have hgl : g.length ≤ 1048576 := by omega
    obtain ⟨e1, e2, e5⟩ := pos_split ha hgl
    have hz := szPosition_ok e l' (hf e (by rw [ha]; simp)) h2 h3
    simp only [run0, run1, run2, run3, run4, run5, run6, run7, run8, run9, run10, run11, run12, run13, run14, run15, run16, run17, run18, run19, run20, run21, run22, reduceCtorEq, Nat.reduceEqDiff, Nat.reduceAdd, Nat.reduceSub, Nat.reduceLeDiff, indexAddrA, indexRefA, appendA, strA, Nat.reduceMul, Nat.zero_mul, Nat.reduceMod, Int.reduceEq, Int.reduceLT, Int.reduceLE, Nat.reduceLT, Nat.lt_irrefl, Nat.reduceBEq, tys0, tys1, tys2, tys3, tys4, tys5, tys6, tys7, tys8, Tryd.ntmps10, Tryd.results10, e1, e2, List.length_map, Int.toNat_natCast, Int.natCast_nonneg]
    have q1 := ints_pure e.1
    have q2 := ints_pure e.2
    refine RunL.callp rfl rfl ok_f23 hz (by simp only [pureL, pureB, q1, q2, Bool.and_self]) rfl ?_
    simp only [gsz] at h4
    have k1 := szN_spec (psz e) l'
    have k2 := szN_spec (psz e + gsz r) l'
    have k3 := szN_spec (gsz r) (szN (psz e) l')
    by_cases hneg : szN (psz e) l' < 0
    · simp only [run0, run1, run2, run3, run4, run5, run6, run7, run8, run9, run10, run11, run12, run13, run14, run15, run16, run17, run18, run19, run20, run21, run22, reduceCtorEq, Nat.reduceEqDiff, Nat.reduceAdd, Nat.reduceSub, Nat.reduceLeDiff, indexAddrA, indexRefA, appendA, strA, Nat.reduceMul, Nat.zero_mul, Nat.reduceMod, Int.reduceEq, Int.reduceLT, Int.reduceLE, Nat.reduceLT, Nat.lt_irrefl, Nat.reduceBEq, tys0, tys1, tys2, tys3, tys4, tys5, tys6, tys7, tys8, Tryd.ntmps10, Tryd.results10, hneg]
      exact Fin.eq (by rw [← h4]; congr 1; omega) rfl
    · simp only [run0, run1, run2, run3, run4, run5, run6, run7, run8, run9, run10, run11, run12, run13, run14, run15, run16, run17, run18, run19, run20, run21, run22, reduceCtorEq, Nat.reduceEqDiff, Nat.reduceAdd, Nat.reduceSub, Nat.reduceLeDiff, indexAddrA, indexRefA, appendA, strA, Nat.reduceMul, Nat.zero_mul, Nat.reduceMod, Int.reduceEq, Int.reduceLT, Int.reduceLE, Nat.reduceLT, Nat.lt_irrefl, Nat.reduceBEq, tys0, tys1, tys2, tys3, tys4, tys5, tys6, tys7, tys8, Tryd.ntmps10, Tryd.results10, hneg, e5]
      exact ⟨(d ++ [e], r, szN (psz e) l'), ⟨by simp [ha], by simp only; omega, by simp only; omega, by rw [← h4]; simp only; omega⟩, by simp, by simp only [List.length_append, List.length_cons, List.length_nil]; repeat constructor⟩
theorem gsz_mem : ∀ {g : List GP} {p : GP}, p ∈ g → psz p ≤ gsz g
  | q :: r, p, h => by
    simp only [gsz]
    rcases List.mem_cons.1 h with rfl | h
    · omega
    · have := gsz_mem h; omega

/-! ### copies, as values -/
def smallP (p : GP) : Prop := p.1.length ≤ 1048576 ∧ p.2.length ≤ 1048576
theorem toPosition_ok (p : GP) (h : smallP p) : Ct Tryd.prog 25 [.agg [.sl false (ints p.1), .sl false (ints p.2)]] [] (.agg [.sl false (ints p.1), .sl false (ints p.2)]) [] := by
  have p1 := ints_pure p.1
  have p2 := ints_pure p.2
  refine Ct.by_ hmix [] Tryd.func25 rfl ?_
  simp only [run0, run1, run2, run3, run4, run5, run6, run7, run8, run9, run10, run11, run12, run13, run14, run15, run16, run17, run18, run19, run20, run21, run22, reduceCtorEq, Nat.reduceEqDiff, Nat.reduceAdd, Nat.reduceSub, Nat.reduceLeDiff, indexAddrA, indexRefA, appendA, strA, Nat.reduceMul, Nat.zero_mul, Nat.reduceMod, Int.reduceEq, Int.reduceLT, Int.reduceLE, Nat.reduceLT, Nat.lt_irrefl, Nat.reduceBEq, tys0, tys1, tys2, tys3, tys4, tys5, tys6, tys7, tys8, Tryd.ntmps25, Tryd.results25]
  refine RunL.callp rfl rfl ok_f38 (toIntS_ok p.1 h.1) (by simp only [pureL, pureB, p1, Bool.and_self]) rfl ?_
  simp only [run0, run1, run2, run3, run4, run5, run6, run7, run8, run9, run10, run11, run12, run13, run14, run15, run16, run17, run18, run19, run20, run21, run22, reduceCtorEq, Nat.reduceEqDiff, Nat.reduceAdd, Nat.reduceSub, Nat.reduceLeDiff, indexAddrA, indexRefA, appendA, strA, Nat.reduceMul, Nat.zero_mul, Nat.reduceMod, Int.reduceEq, Int.reduceLT, Int.reduceLE, Nat.reduceLT, Nat.lt_irrefl, Nat.reduceBEq, tys0, tys1, tys2, tys3, tys4, tys5, tys6, tys7, tys8, Tryd.ntmps25, Tryd.results25]
  refine RunL.callp rfl rfl ok_f38 (toIntS_ok p.2 h.2) (by simp only [pureL, pureB, p2, Bool.and_self]) rfl ?_
  simp only [run0, run1, run2, run3, run4, run5, run6, run7, run8, run9, run10, run11, run12, run13, run14, run15, run16, run17, run18, run19, run20, run21, run22, reduceCtorEq, Nat.reduceEqDiff, Nat.reduceAdd, Nat.reduceSub, Nat.reduceLeDiff, indexAddrA, indexRefA, appendA, strA, Nat.reduceMul, Nat.zero_mul, Nat.reduceMod, Int.reduceEq, Int.reduceLT, Int.reduceLE, Nat.reduceLT, Nat.lt_irrefl, Nat.reduceBEq, tys0, tys1, tys2, tys3, tys4, tys5, tys6, tys7, tys8, Tryd.ntmps25, Tryd.results25]
  exact Fin.eq rfl (by simp only [pureB, pureL, p1, p2, Bool.and_self])
def zP : AV := .agg [nilV, nilV]
theorem zP_noOwn (es : List GP) (n : Nat) : noOwn (es.map posE ++ List.replicate n zP) = true := by
  refine List.all_eq_true.2 fun e he => ?_
  rcases List.mem_append.1 he with he | he
  · exact List.all_eq_true.1 (posL_noOwn es) e he
  · rw [(List.mem_replicate.1 he).2]; rfl
theorem zP_c : zP.cells = [.lit (.slice none 0 0), .lit (.slice none 0 0)] := rfl
theorem zP_a : aggB zP = true := rfl
theorem zP_s (a b : AV) : setE zP 0 2 (.agg [a, b]) = .agg [a, b] := rfl
abbrev posZ (d : List GP) (n : Nat) : List AV := d.map posE ++ List.replicate n zP
theorem Vw_poss {L : List AObj} {id g n : Nat} {T : TypeId} {es : List AV} {l : List GP} {o : Bool} (hL : L[id]? = some (.vec T 2 g es)) (he : es = l.map posE) (hn : n = l.length) : Vw L (.ref id [] g n) (.sl o (l.map posE)) := by
  subst he hn
  have := Vw.refPur (L := L) (id := id) (g := g) (n := l.length) (o := o) hL (by simp) (fun e he c hc => by
    obtain ⟨e', _, rfl⟩ := List.mem_map.1 he
    simp only [posE, AV.cells, List.mem_cons, List.not_mem_nil, or_false] at hc
    rcases hc with rfl | rfl <;> exact ⟨.of (by simp only [pureB, ints_pure]), fun xs h => by cases h⟩)
  rwa [List.take_of_length_le (by simp)] at this
theorem toPositionS_ok (g : List GP) (hl : g.length ≤ 1048576) (hs : ∀ p ∈ g, smallP p) : Ct Tryd.prog 12 [.sl false (g.map posE)] [] (.sl false (g.map posE)) [] := by
  have b0 : (g.length : Int) ≤ 137438953472 := by omega
  have b1 : (g.length : Int) ≤ 17592186044416 := by omega
  have b2 : (g.length : Int) ≤ 8796093022208 := by omega
  have b3 : (g.length : Int) ≤ 2932031007402 := by omega
  refine Ct.by_ hmix [] Tryd.func12 rfl ?_
  simp only [run0, run1, run2, run3, run4, run5, run6, run7, run8, run9, run10, run11, run12, run13, run14, run15, run16, run17, run18, run19, run20, run21, run22, reduceCtorEq, Nat.reduceEqDiff, Nat.reduceAdd, Nat.reduceSub, Nat.reduceLeDiff, indexAddrA, indexRefA, appendA, strA, Nat.reduceMul, Nat.zero_mul, Nat.reduceMod, Int.reduceEq, Int.reduceLT, Int.reduceLE, Nat.reduceLT, Nat.lt_irrefl, Nat.reduceBEq, tys0, tys1, tys2, tys3, tys4, tys5, tys6, tys7, tys8, Tryd.ntmps12, Tryd.results12, b0, b1, b2, b3, List.length_map, Int.natCast_nonneg, Int.le_refl, Int.toNat_natCast]
  refine AWp.loop_inv (ι := List GP × List GP) (fun p => ⟨[.sl false (g.map posE), .junk, .junk, .ref 0 [] 0 g.length, .int .i64 p.1.length, .junk, .junk, .junk, .junk, .junk, .junk, .junk, .junk, .junk, .junk, .junk, .junk, .junk, .junk, .junk, .junk, .junk, .junk], [.vec 39 2 0 (posZ p.1 p.2.length)]⟩)
    (fun p => g = p.1 ++ p.2) (fun p => p.2.length) ([], g) rfl ⟨by simp only [List.length_nil, Int.natCast_zero]; repeat constructor, rfl⟩ ?_
  rintro ⟨d, r⟩ ha
  refine W.sound hmix (E := []) ?_
  simp only at ha
  cases r with
  | nil =>
    have e1 := pos_end ha
    simp only [run0, run1, run2, run3, run4, run5, run6, run7, run8, run9, run10, run11, run12, run13, run14, run15, run16, run17, run18, run19, run20, run21, run22, reduceCtorEq, Nat.reduceEqDiff, Nat.reduceAdd, Nat.reduceSub, Nat.reduceLeDiff, indexAddrA, indexRefA, appendA, strA, Nat.reduceMul, Nat.zero_mul, Nat.reduceMod, Int.reduceEq, Int.reduceLT, Int.reduceLE, Nat.reduceLT, Nat.lt_irrefl, Nat.reduceBEq, tys0, tys1, tys2, tys3, tys4, tys5, tys6, tys7, tys8, Tryd.ntmps12, Tryd.results12, e1, List.length_map]
    have hd : d = g := by rw [ha, List.append_nil]
    subst hd
    exact Fin.value (Vw_poss rfl (by simp) rfl)
  | cons e r =>
    obtain ⟨e1, e2, e5⟩ := pos_split ha hl
    have e6 : (posZ d (r.length + 1))[d.length]? = some zP := by simp [posZ, List.replicate_succ]
    have e7 : noOwn (posZ d (r.length + 1)) = true := zP_noOwn d (r.length + 1)
    have e8 : (posZ d (r.length + 1)).set d.length (.agg [.sl false (ints e.1), .sl false (ints e.2)]) = posZ (d ++ [e]) r.length := by
      unfold posZ
      rw [List.set_append_right _ _ (by simp)]; simp [List.replicate_succ, posE]
    have hc := toPosition_ok e (hs e (by rw [ha]; simp))
    have p1 := ints_pure e.1
    have p2 := ints_pure e.2
    simp only [run0, run1, run2, run3, run4, run5, run6, run7, run8, run9, run10, run11, run12, run13, run14, run15, run16, run17, run18, run19, run20, run21, run22, reduceCtorEq, Nat.reduceEqDiff, Nat.reduceAdd, Nat.reduceSub, Nat.reduceLeDiff, indexAddrA, indexRefA, appendA, strA, Nat.reduceMul, Nat.zero_mul, Nat.reduceMod, Int.reduceEq, Int.reduceLT, Int.reduceLE, Nat.reduceLT, Nat.lt_irrefl, Nat.reduceBEq, tys0, tys1, tys2, tys3, tys4, tys5, tys6, tys7, tys8, Tryd.ntmps12, Tryd.results12, List.length_map, e1, e2, Int.toNat_natCast, Int.natCast_nonneg]
    refine RunL.callp rfl rfl ok_f25 hc (by simp only [pureL, pureB, p1, p2, Bool.and_self]) rfl ?_
    simp only [run0, run1, run2, run3, run4, run5, run6, run7, run8, run9, run10, run11, run12, run13, run14, run15, run16, run17, run18, run19, run20, run21, run22, reduceCtorEq, Nat.reduceEqDiff, Nat.reduceAdd, Nat.reduceSub, Nat.reduceLeDiff, indexAddrA, indexRefA, appendA, strA, Nat.reduceMul, Nat.zero_mul, Nat.reduceMod, Int.reduceEq, Int.reduceLT, Int.reduceLE, Nat.reduceLT, Nat.lt_irrefl, Nat.reduceBEq, tys0, tys1, tys2, tys3, tys4, tys5, tys6, tys7, tys8, Tryd.ntmps12, Tryd.results12, List.length_map, e1, e5, e6, e7, e8, zP_c, zP_a, zP_s, Int.toNat_natCast, Int.natCast_nonneg]
    exact ⟨(d ++ [e], r), by simp [ha], by simp, by simp only [List.length_append, List.length_cons, List.length_nil]; repeat constructor, rfl⟩
theorem eqPosition_ok (p : GP) (h : smallP p) : Ct Tryd.prog 20 [.agg [.sl false (ints p.1), .sl false (ints p.2)], .agg [.sl false (ints p.1), .sl false (ints p.2)]] [] (.bool true) [] := by
  have p1 := ints_pure p.1
  have p2 := ints_pure p.2
  refine Ct.by_ hmix [] Tryd.func20 rfl ?_
  simp only [run0, run1, run2, run3, run4, run5, run6, run7, run8, run9, run10, run11, run12, run13, run14, run15, run16, run17, run18, run19, run20, run21, run22, reduceCtorEq, Nat.reduceEqDiff, Nat.reduceAdd, Nat.reduceSub, Nat.reduceLeDiff, indexAddrA, indexRefA, appendA, strA, Nat.reduceMul, Nat.zero_mul, Nat.reduceMod, Int.reduceEq, Int.reduceLT, Int.reduceLE, Nat.reduceLT, Nat.lt_irrefl, Nat.reduceBEq, tys0, tys1, tys2, tys3, tys4, tys5, tys6, tys7, tys8, Tryd.ntmps20, Tryd.results20]
  refine RunL.callp rfl rfl ok_f35 (eqIntS_ok p.1 h.1) (by simp only [pureL, pureB, p1, Bool.and_self]) rfl ?_
  simp only [run0, run1, run2, run3, run4, run5, run6, run7, run8, run9, run10, run11, run12, run13, run14, run15, run16, run17, run18, run19, run20, run21, run22, reduceCtorEq, Nat.reduceEqDiff, Nat.reduceAdd, Nat.reduceSub, Nat.reduceLeDiff, indexAddrA, indexRefA, appendA, strA, Nat.reduceMul, Nat.zero_mul, Nat.reduceMod, Int.reduceEq, Int.reduceLT, Int.reduceLE, Nat.reduceLT, Nat.lt_irrefl, Nat.reduceBEq, tys0, tys1, tys2, tys3, tys4, tys5, tys6, tys7, tys8, Tryd.ntmps20, Tryd.results20]
  refine RunL.callp rfl rfl ok_f35 (eqIntS_ok p.2 h.2) (by simp only [pureL, pureB, p2, Bool.and_self]) rfl ?_
  simp only [run0, run1, run2, run3, run4, run5, run6, run7, run8, run9, run10, run11, run12, run13, run14, run15, run16, run17, run18, run19, run20, run21, run22, reduceCtorEq, Nat.reduceEqDiff, Nat.reduceAdd, Nat.reduceSub, Nat.reduceLeDiff, indexAddrA, indexRefA, appendA, strA, Nat.reduceMul, Nat.zero_mul, Nat.reduceMod, Int.reduceEq, Int.reduceLT, Int.reduceLE, Nat.reduceLT, Nat.lt_irrefl, Nat.reduceBEq, tys0, tys1, tys2, tys3, tys4, tys5, tys6, tys7, tys8, Tryd.ntmps20, Tryd.results20]
  exact Fin.eq rfl rfl
theorem eqPositionS_ok (g : List GP) (hl : g.length ≤ 1048576) (hs : ∀ p ∈ g, smallP p) : Ct Tryd.prog 7 [.sl false (g.map posE), .sl false (g.map posE)] [] (.bool true) [] := by
  refine Ct.by_ hmix [] Tryd.func7 rfl ?_
  simp only [run0, run1, run2, run3, run4, run5, run6, run7, run8, run9, run10, run11, run12, run13, run14, run15, run16, run17, run18, run19, run20, run21, run22, reduceCtorEq, Nat.reduceEqDiff, Nat.reduceAdd, Nat.reduceSub, Nat.reduceLeDiff, indexAddrA, indexRefA, appendA, strA, Nat.reduceMul, Nat.zero_mul, Nat.reduceMod, Int.reduceEq, Int.reduceLT, Int.reduceLE, Nat.reduceLT, Nat.lt_irrefl, Nat.reduceBEq, tys0, tys1, tys2, tys3, tys4, tys5, tys6, tys7, tys8, Tryd.ntmps7, Tryd.results7, bne_self_eq_false, List.length_map]
  refine AWp.loop_inv (ι := List GP × List GP) (fun p => ⟨[.sl false (g.map posE), .sl false (g.map posE), .junk, .junk, .bool false, .int .i64 p.1.length, .junk, .junk, .junk, .junk, .junk, .junk, .junk, .junk, .junk, .junk, .junk, .junk, .junk, .junk, .junk, .junk, .junk, .junk, .junk, .junk, .junk], []⟩)
    (fun p => g = p.1 ++ p.2) (fun p => p.2.length) ([], g) rfl ⟨by simp only [List.length_nil, Int.natCast_zero]; repeat constructor, rfl⟩ ?_
  rintro ⟨d, r⟩ ha
  refine W.sound hmix (E := []) ?_
  simp only at ha
  cases r with
  | nil =>
    have e1 := pos_end ha
    simp only [run0, run1, run2, run3, run4, run5, run6, run7, run8, run9, run10, run11, run12, run13, run14, run15, run16, run17, run18, run19, run20, run21, run22, reduceCtorEq, Nat.reduceEqDiff, Nat.reduceAdd, Nat.reduceSub, Nat.reduceLeDiff, indexAddrA, indexRefA, appendA, strA, Nat.reduceMul, Nat.zero_mul, Nat.reduceMod, Int.reduceEq, Int.reduceLT, Int.reduceLE, Nat.reduceLT, Nat.lt_irrefl, Nat.reduceBEq, tys0, tys1, tys2, tys3, tys4, tys5, tys6, tys7, tys8, Tryd.ntmps7, Tryd.results7, e1, List.length_map]
    exact Fin.eq rfl rfl
  | cons e r =>
    obtain ⟨e1, e2, e5⟩ := pos_split ha hl
    have p1 := ints_pure e.1
    have p2 := ints_pure e.2
    simp only [run0, run1, run2, run3, run4, run5, run6, run7, run8, run9, run10, run11, run12, run13, run14, run15, run16, run17, run18, run19, run20, run21, run22, reduceCtorEq, Nat.reduceEqDiff, Nat.reduceAdd, Nat.reduceSub, Nat.reduceLeDiff, indexAddrA, indexRefA, appendA, strA, Nat.reduceMul, Nat.zero_mul, Nat.reduceMod, Int.reduceEq, Int.reduceLT, Int.reduceLE, Nat.reduceLT, Nat.lt_irrefl, Nat.reduceBEq, tys0, tys1, tys2, tys3, tys4, tys5, tys6, tys7, tys8, Tryd.ntmps7, Tryd.results7, List.length_map, e1, e2, Int.toNat_natCast, Int.natCast_nonneg]
    refine ⟨by kernel_rfl, ?_⟩
    refine RunL.callp rfl rfl ok_f20 (eqPosition_ok e (hs e (by rw [ha]; simp))) (by simp only [pureL, pureB, p1, p2, Bool.and_self]) rfl ?_
    simp only [run0, run1, run2, run3, run4, run5, run6, run7, run8, run9, run10, run11, run12, run13, run14, run15, run16, run17, run18, run19, run20, run21, run22, reduceCtorEq, Nat.reduceEqDiff, Nat.reduceAdd, Nat.reduceSub, Nat.reduceLeDiff, indexAddrA, indexRefA, appendA, strA, Nat.reduceMul, Nat.zero_mul, Nat.reduceMod, Int.reduceEq, Int.reduceLT, Int.reduceLE, Nat.reduceLT, Nat.lt_irrefl, Nat.reduceBEq, tys0, tys1, tys2, tys3, tys4, tys5, tys6, tys7, tys8, Tryd.ntmps7, Tryd.results7, e5]
    exact ⟨(d ++ [e], r), by simp [ha], by simp, by simp only [List.length_append, List.length_cons, List.length_nil]; repeat constructor⟩

/-! ### which are games -/
def ris (n : Int) : Option Int → List Int → Bool
  | _, [] => true
  | p, k :: r => inB k 0 n && (match p with | none => true | some q => decide (q < k)) && ris n (some k) r
def gmI : Nat → List GP → Bool
  | _, [] => true
  | i, p :: r => ris ((i : Int) - 1) none p.1 && ris ((i : Int) - 1) none p.2 && gmI (i + 1) r
def gameB (g : List GP) : Bool := gmI 0 g && inB g.length 1 40
theorem ris_cons (n : Int) (p : Option Int) (k : Int) (r : List Int) : ris n p (k :: r) = (inB k 0 n && (match p with | none => true | some q => decide (q < k)) && ris n (some k) r) := rfl
theorem rising_ok (l : List Int) (n : Nat) (hl : l.length ≤ 1048576) (hn : n ≤ 1048576) : Ct Tryd.prog 39 [.sl false (ints l), .int .i64 n] [] (.bool (ris ((n : Int) - 1) none l)) [] := by
  have hw : IntKind.i64.wrap ((n : Int) - 1) = (n : Int) - 1 := i64_id (by omega) (by omega)
  refine Ct.by_ hmix [] Tryd.func39 rfl ?_
  simp only [run0, run1, run2, run3, run4, run5, run6, run7, run8, run9, run10, run11, run12, run13, run14, run15, run16, run17, run18, run19, run20, run21, run22, reduceCtorEq, Nat.reduceEqDiff, Nat.reduceAdd, Nat.reduceSub, Nat.reduceLeDiff, indexAddrA, indexRefA, appendA, strA, Nat.reduceMul, Nat.zero_mul, Nat.reduceMod, Int.reduceEq, Int.reduceLT, Int.reduceLE, Nat.reduceLT, Nat.lt_irrefl, Nat.reduceBEq, tys0, tys1, tys2, tys3, tys4, tys5, tys6, tys7, tys8, Tryd.ntmps39, Tryd.results39, List.length_map]
  refine AWp.loop_inv (ι := List Int × List Int) (fun p => ⟨[.sl false (ints l), .int .i64 n, .junk, .junk, .bool false, .junk, .junk, .sl false (ints l), .int .i64 l.length, .int .i64 p.1.length, .junk, .junk, .junk, .junk, .junk, .junk, .junk, .junk, .junk, .junk, .junk, .junk, .junk, .junk, .junk, .junk, .junk, .junk, .junk, .junk, .junk, .junk, .junk], []⟩)
    (fun p => l = p.1 ++ p.2 ∧ ris ((n : Int) - 1) p.1.getLast? p.2 = ris ((n : Int) - 1) none l) (fun p => p.2.length) ([], l) ⟨rfl, rfl⟩ ⟨by simp only [List.length_nil, Int.natCast_zero]; repeat constructor, rfl⟩ ?_
  rintro ⟨d, r⟩ ⟨ha, h2⟩
  refine W.sound hmix (E := []) ?_
  simp only at ha h2
  cases r with
  | nil =>
    have e1 := int_end ha
    simp only [run0, run1, run2, run3, run4, run5, run6, run7, run8, run9, run10, run11, run12, run13, run14, run15, run16, run17, run18, run19, run20, run21, run22, reduceCtorEq, Nat.reduceEqDiff, Nat.reduceAdd, Nat.reduceSub, Nat.reduceLeDiff, indexAddrA, indexRefA, appendA, strA, Nat.reduceMul, Nat.zero_mul, Nat.reduceMod, Int.reduceEq, Int.reduceLT, Int.reduceLE, Nat.reduceLT, Nat.lt_irrefl, Nat.reduceBEq, tys0, tys1, tys2, tys3, tys4, tys5, tys6, tys7, tys8, Tryd.ntmps39, Tryd.results39, e1, List.length_map]
    exact Fin.eq (by rw [← h2]; rfl) rfl
  | cons k r =>
    obtain ⟨e1, e2, e5⟩ := int_split ha hl
    rw [ris_cons] at h2
    simp only [run0, run1, run2, run3, run4, run5, run6, run7, run8, run9, run10, run11, run12, run13, run14, run15, run16, run17, run18, run19, run20, run21, run22, reduceCtorEq, Nat.reduceEqDiff, Nat.reduceAdd, Nat.reduceSub, Nat.reduceLeDiff, indexAddrA, indexRefA, appendA, strA, Nat.reduceMul, Nat.zero_mul, Nat.reduceMod, Int.reduceEq, Int.reduceLT, Int.reduceLE, Nat.reduceLT, Nat.lt_irrefl, Nat.reduceBEq, tys0, tys1, tys2, tys3, tys4, tys5, tys6, tys7, tys8, Tryd.ntmps39, Tryd.results39, List.length_map, hw, e1, e2, Int.toNat_natCast, Int.natCast_nonneg]
    refine RunL.callp rfl rfl ok_f40 (in_ok k 0 ((n : Int) - 1)) (by first | rfl | simp only [pureL, pureB, Bool.and_self, Bool.and_true, Bool.true_and]) rfl ?_
    cases hb : inB k 0 ((n : Int) - 1)
    · simp only [run0, run1, run2, run3, run4, run5, run6, run7, run8, run9, run10, run11, run12, run13, run14, run15, run16, run17, run18, run19, run20, run21, run22, reduceCtorEq, Nat.reduceEqDiff, Nat.reduceAdd, Nat.reduceSub, Nat.reduceLeDiff, indexAddrA, indexRefA, appendA, strA, Nat.reduceMul, Nat.zero_mul, Nat.reduceMod, Int.reduceEq, Int.reduceLT, Int.reduceLE, Nat.reduceLT, Nat.lt_irrefl, Nat.reduceBEq, tys0, tys1, tys2, tys3, tys4, tys5, tys6, tys7, tys8, Tryd.ntmps39, Tryd.results39]
      exact Fin.eq (by rw [← h2, hb]; rfl) rfl
    rcases List.eq_nil_or_concat d with rfl | ⟨d', q, rfl⟩
    · simp only [run0, run1, run2, run3, run4, run5, run6, run7, run8, run9, run10, run11, run12, run13, run14, run15, run16, run17, run18, run19, run20, run21, run22, reduceCtorEq, Nat.reduceEqDiff, Nat.reduceAdd, Nat.reduceSub, Nat.reduceLeDiff, indexAddrA, indexRefA, appendA, strA, Nat.reduceMul, Nat.zero_mul, Nat.reduceMod, Int.reduceEq, Int.reduceLT, Int.reduceLE, Nat.reduceLT, Nat.lt_irrefl, Nat.reduceBEq, tys0, tys1, tys2, tys3, tys4, tys5, tys6, tys7, tys8, Tryd.ntmps39, Tryd.results39, List.length_nil, Int.natCast_zero, Int.lt_irrefl, e5]
      exact ⟨([k], r), ⟨ha, by rw [← h2, hb]; rfl⟩, by simp, by simp only [List.length_append, List.length_cons, List.length_nil]; repeat constructor⟩
    · have hda : l.length = d'.length + 1 + (r.length + 1) := by rw [ha]; simp; try omega
      have k0 : (0 : Int) < ((d'.concat q).length : Int) := by simp; try omega
      have k1 : IntKind.i64.wrap (((d'.concat q).length : Int) - 1) = (d'.length : Int) := by rw [i64_id (by simp; try omega) (by simp; try omega)]; simp
      have k2 : (ints l)[d'.length]? = some (.int .i64 q) := by rw [ha]; simp
      have k3 : (d'.length : Int) < (l.length : Int) := by omega
      rw [hb] at h2
      simp only [List.concat_eq_append, List.getLast?_concat, Bool.true_and] at h2
      by_cases hq : k ≤ q
      · simp only [run0, run1, run2, run3, run4, run5, run6, run7, run8, run9, run10, run11, run12, run13, run14, run15, run16, run17, run18, run19, run20, run21, run22, reduceCtorEq, Nat.reduceEqDiff, Nat.reduceAdd, Nat.reduceSub, Nat.reduceLeDiff, indexAddrA, indexRefA, appendA, strA, Nat.reduceMul, Nat.zero_mul, Nat.reduceMod, Int.reduceEq, Int.reduceLT, Int.reduceLE, Nat.reduceLT, Nat.lt_irrefl, Nat.reduceBEq, tys0, tys1, tys2, tys3, tys4, tys5, tys6, tys7, tys8, Tryd.ntmps39, Tryd.results39, List.length_map, k0, k1, k2, k3, hq, Int.toNat_natCast, Int.natCast_nonneg]
        exact Fin.eq (by rw [← h2, show decide (q < k) = false by simp; omega]; rfl) rfl
      · simp only [run0, run1, run2, run3, run4, run5, run6, run7, run8, run9, run10, run11, run12, run13, run14, run15, run16, run17, run18, run19, run20, run21, run22, reduceCtorEq, Nat.reduceEqDiff, Nat.reduceAdd, Nat.reduceSub, Nat.reduceLeDiff, indexAddrA, indexRefA, appendA, strA, Nat.reduceMul, Nat.zero_mul, Nat.reduceMod, Int.reduceEq, Int.reduceLT, Int.reduceLE, Nat.reduceLT, Nat.lt_irrefl, Nat.reduceBEq, tys0, tys1, tys2, tys3, tys4, tys5, tys6, tys7, tys8, Tryd.ntmps39, Tryd.results39, List.length_map, k0, k1, k2, k3, hq, e5, Int.toNat_natCast, Int.natCast_nonneg]
        rw [show decide (q < k) = true by simp; omega, Bool.true_and] at h2
        exact ⟨(d'.concat q ++ [k], r), ⟨by simp [ha], by simp only [List.getLast?_concat]; exact h2⟩, by simp, by simp only [List.length_append, List.length_cons, List.length_nil]; repeat constructor⟩
theorem l1Rising_ok (l : List Int) (n : Int) (hl : l.length ≤ 1048576) : Ct Tryd.prog 30 [.sl false (ints l), .int .i64 0, .int .i64 n] [] (.bool (ris n none l)) [] := by
  refine Ct.by_ hmix [] Tryd.func30 rfl ?_
  simp only [run0, run1, run2, run3, run4, run5, run6, run7, run8, run9, run10, run11, run12, run13, run14, run15, run16, run17, run18, run19, run20, run21, run22, reduceCtorEq, Nat.reduceEqDiff, Nat.reduceAdd, Nat.reduceSub, Nat.reduceLeDiff, indexAddrA, indexRefA, appendA, strA, Nat.reduceMul, Nat.zero_mul, Nat.reduceMod, Int.reduceEq, Int.reduceLT, Int.reduceLE, Nat.reduceLT, Nat.lt_irrefl, Nat.reduceBEq, tys0, tys1, tys2, tys3, tys4, tys5, tys6, tys7, tys8, Tryd.ntmps30, Tryd.results30, List.length_map]
  refine AWp.loop_inv (ι := List Int × List Int) (fun p => ⟨[.sl false (ints l), .int .i64 0, .int .i64 n, .junk, .junk, .junk, .bool false, .junk, .junk, .sl false (ints l), .int .i64 l.length, .int .i64 p.1.length, .junk, .junk, .junk, .junk, .junk, .junk, .junk, .junk, .junk, .junk, .junk, .junk, .junk, .junk, .junk, .junk, .junk, .junk, .junk, .junk, .junk, .junk, .junk], []⟩)
    (fun p => l = p.1 ++ p.2 ∧ ris n p.1.getLast? p.2 = ris n none l) (fun p => p.2.length) ([], l) ⟨rfl, rfl⟩ ⟨by simp only [List.length_nil, Int.natCast_zero]; repeat constructor, rfl⟩ ?_
  rintro ⟨d, r⟩ ⟨ha, h2⟩
  refine W.sound hmix (E := []) ?_
  simp only at ha h2
  cases r with
  | nil =>
    have e1 := int_end ha
    simp only [run0, run1, run2, run3, run4, run5, run6, run7, run8, run9, run10, run11, run12, run13, run14, run15, run16, run17, run18, run19, run20, run21, run22, reduceCtorEq, Nat.reduceEqDiff, Nat.reduceAdd, Nat.reduceSub, Nat.reduceLeDiff, indexAddrA, indexRefA, appendA, strA, Nat.reduceMul, Nat.zero_mul, Nat.reduceMod, Int.reduceEq, Int.reduceLT, Int.reduceLE, Nat.reduceLT, Nat.lt_irrefl, Nat.reduceBEq, tys0, tys1, tys2, tys3, tys4, tys5, tys6, tys7, tys8, Tryd.ntmps30, Tryd.results30, e1, List.length_map]
    exact Fin.eq (by rw [← h2]; rfl) rfl
  | cons k r =>
    obtain ⟨e1, e2, e5⟩ := int_split ha hl
    rw [ris_cons] at h2
    simp only [run0, run1, run2, run3, run4, run5, run6, run7, run8, run9, run10, run11, run12, run13, run14, run15, run16, run17, run18, run19, run20, run21, run22, reduceCtorEq, Nat.reduceEqDiff, Nat.reduceAdd, Nat.reduceSub, Nat.reduceLeDiff, indexAddrA, indexRefA, appendA, strA, Nat.reduceMul, Nat.zero_mul, Nat.reduceMod, Int.reduceEq, Int.reduceLT, Int.reduceLE, Nat.reduceLT, Nat.lt_irrefl, Nat.reduceBEq, tys0, tys1, tys2, tys3, tys4, tys5, tys6, tys7, tys8, Tryd.ntmps30, Tryd.results30, List.length_map, e1, e2, Int.toNat_natCast, Int.natCast_nonneg]
    refine RunL.callp rfl rfl ok_f31 (l1In_ok k 0 n) (by first | rfl | simp only [pureL, pureB, Bool.and_self, Bool.and_true, Bool.true_and]) rfl ?_
    cases hb : inB k 0 n
    · simp only [run0, run1, run2, run3, run4, run5, run6, run7, run8, run9, run10, run11, run12, run13, run14, run15, run16, run17, run18, run19, run20, run21, run22, reduceCtorEq, Nat.reduceEqDiff, Nat.reduceAdd, Nat.reduceSub, Nat.reduceLeDiff, indexAddrA, indexRefA, appendA, strA, Nat.reduceMul, Nat.zero_mul, Nat.reduceMod, Int.reduceEq, Int.reduceLT, Int.reduceLE, Nat.reduceLT, Nat.lt_irrefl, Nat.reduceBEq, tys0, tys1, tys2, tys3, tys4, tys5, tys6, tys7, tys8, Tryd.ntmps30, Tryd.results30]
      exact Fin.eq (by rw [← h2, hb]; rfl) rfl
    rcases List.eq_nil_or_concat d with rfl | ⟨d', q, rfl⟩
    · simp only [run0, run1, run2, run3, run4, run5, run6, run7, run8, run9, run10, run11, run12, run13, run14, run15, run16, run17, run18, run19, run20, run21, run22, reduceCtorEq, Nat.reduceEqDiff, Nat.reduceAdd, Nat.reduceSub, Nat.reduceLeDiff, indexAddrA, indexRefA, appendA, strA, Nat.reduceMul, Nat.zero_mul, Nat.reduceMod, Int.reduceEq, Int.reduceLT, Int.reduceLE, Nat.reduceLT, Nat.lt_irrefl, Nat.reduceBEq, tys0, tys1, tys2, tys3, tys4, tys5, tys6, tys7, tys8, Tryd.ntmps30, Tryd.results30, List.length_nil, Int.natCast_zero, Int.lt_irrefl, e5]
      exact ⟨([k], r), ⟨ha, by rw [← h2, hb]; rfl⟩, by simp, by simp only [List.length_append, List.length_cons, List.length_nil]; repeat constructor⟩
    · have hda : l.length = d'.length + 1 + (r.length + 1) := by rw [ha]; simp; try omega
      have k0 : (0 : Int) < ((d'.concat q).length : Int) := by simp; try omega
      have k1 : IntKind.i64.wrap (((d'.concat q).length : Int) - 1) = (d'.length : Int) := by rw [i64_id (by simp; try omega) (by simp; try omega)]; simp
      have k2 : (ints l)[d'.length]? = some (.int .i64 q) := by rw [ha]; simp
      have k3 : (d'.length : Int) < (l.length : Int) := by omega
      rw [hb] at h2
      simp only [List.concat_eq_append, List.getLast?_concat, Bool.true_and] at h2
      by_cases hq : k ≤ q
      · simp only [run0, run1, run2, run3, run4, run5, run6, run7, run8, run9, run10, run11, run12, run13, run14, run15, run16, run17, run18, run19, run20, run21, run22, reduceCtorEq, Nat.reduceEqDiff, Nat.reduceAdd, Nat.reduceSub, Nat.reduceLeDiff, indexAddrA, indexRefA, appendA, strA, Nat.reduceMul, Nat.zero_mul, Nat.reduceMod, Int.reduceEq, Int.reduceLT, Int.reduceLE, Nat.reduceLT, Nat.lt_irrefl, Nat.reduceBEq, tys0, tys1, tys2, tys3, tys4, tys5, tys6, tys7, tys8, Tryd.ntmps30, Tryd.results30, List.length_map, k0, k1, k2, k3, hq, Int.toNat_natCast, Int.natCast_nonneg]
        exact Fin.eq (by rw [← h2, show decide (q < k) = false by simp; omega]; rfl) rfl
      · simp only [run0, run1, run2, run3, run4, run5, run6, run7, run8, run9, run10, run11, run12, run13, run14, run15, run16, run17, run18, run19, run20, run21, run22, reduceCtorEq, Nat.reduceEqDiff, Nat.reduceAdd, Nat.reduceSub, Nat.reduceLeDiff, indexAddrA, indexRefA, appendA, strA, Nat.reduceMul, Nat.zero_mul, Nat.reduceMod, Int.reduceEq, Int.reduceLT, Int.reduceLE, Nat.reduceLT, Nat.lt_irrefl, Nat.reduceBEq, tys0, tys1, tys2, tys3, tys4, tys5, tys6, tys7, tys8, Tryd.ntmps30, Tryd.results30, List.length_map, k0, k1, k2, k3, hq, e5, Int.toNat_natCast, Int.natCast_nonneg]
        rw [show decide (q < k) = true by simp; omega, Bool.true_and] at h2
        exact ⟨(d'.concat q ++ [k], r), ⟨by simp [ha], by simp only [List.getLast?_concat]; exact h2⟩, by simp, by simp only [List.length_append, List.length_cons, List.length_nil]; repeat constructor⟩

structure GmS where
  d : List GP
  r : List GP
  X : List AObj
end Go.Proofs.YtllcljajlemmaaaDoor
/-
  The text of a game: numbers.
-/
namespace Go.Proofs.YtllcljajlemmaaaDoor
open Go K Go.RowKit
set_option linter.unusedSimpArgs false
set_option linter.unusedVariables false
set_option maxHeartbeats 1600000
set_option maxRecDepth 8000

theorem join_snoc (sep x : List UInt8) : ∀ (xs : List (List UInt8)), xs ≠ [] → Lib.join (xs ++ [x]) sep = Lib.join xs sep ++ sep ++ x
  | [], h => absurd rfl h
  | [a], _ => by simp [Lib.join, List.intercalate]
  | a :: b :: r, _ => by
    have ih := join_snoc sep x (b :: r) (by simp)
    have e : ∀ (y : List UInt8) (ys : List (List UInt8)), Lib.join (a :: y :: ys) sep = a ++ sep ++ Lib.join (y :: ys) sep := fun y ys => by simp [Lib.join, List.intercalate]
    rw [List.cons_append, List.cons_append, e, e, ← List.cons_append, ih]
    simp
theorem join_len (sep : List UInt8) (m : Nat) : ∀ (xs : List (List UInt8)), (∀ x ∈ xs, x.length ≤ m) → (Lib.join xs sep).length ≤ xs.length * (m + sep.length)
  | [], _ => by simp [Lib.join, List.intercalate]
  | [a], h => by
    have := h a (by simp)
    simp [Lib.join, List.intercalate]; omega
  | a :: b :: r, h => by
    have ih := join_len sep m (b :: r) fun x hx => h x (by simp [hx])
    have ha := h a (by simp)
    have e : Lib.join (a :: b :: r) sep = a ++ sep ++ Lib.join (b :: r) sep := by simp [Lib.join, List.intercalate]
    rw [e]
    simp only [List.length_append, List.length_cons] at ih ⊢
    have : (r.length + 1 + 1) * (m + sep.length) = (r.length + 1) * (m + sep.length) + (m + sep.length) := by rw [Nat.add_mul (r.length + 1) 1, Nat.one_mul]
    omega
theorem dec_len {i : Nat} (h : i < 100) : (Lib.decDigits i).length ≤ 2 := by
  rw [Lib.decDigits]
  split
  · simp
  · rw [Lib.decDigits, dif_pos (by omega)]; simp
def numsL (l : List Int) : List UInt8 := Lib.join (l.map fun x => Lib.decDigits x.toNat) [44]
def numsS (l : List Int) : ByteArray := ⟨(numsL l).toArray⟩
def decN (l : List Int) : List ByteArray := l.map fun x => decS x.toNat
theorem numsS_join (l : List Int) : joinS (decN l) ⟨#[44]⟩ = numsS l := by
  unfold joinS numsS numsL decN
  congr 2
  rw [List.map_map]
  rfl
def okNums (l : List Int) : Prop := l.length ≤ 1000 ∧ ∀ x ∈ l, 0 ≤ x ∧ x < 100
theorem numsL_len {l : List Int} (h : okNums l) : (numsL l).length ≤ 3000 := by
  have := join_len [44] 2 (l.map fun x => Lib.decDigits x.toNat) (fun y hy => by
    obtain ⟨x, hx, rfl⟩ := List.mem_map.1 hy
    have := h.2 x hx
    exact dec_len (by omega))
  simp only [List.length_map, List.length_cons, List.length_nil] at this
  have := h.1
  unfold numsL
  omega
theorem numsS_size (l : List Int) : (numsS l).size = (numsL l).length := by simp [numsS, ByteArray.size]
theorem strs_noOwn (l : List ByteArray) : noOwn (strs l) = true := by
  refine List.all_eq_true.2 fun x hx => ?_
  obtain ⟨e, _, rfl⟩ := List.mem_map.1 hx
  rfl
theorem Vw_strs {L : List AObj} {id g n : Nat} {T : TypeId} {l : List ByteArray} {o : Bool} (hL : L[id]? = some (.vec T 1 g (strs l))) (hn : n = l.length) : Vw L (.ref id [] g n) (.sl o (strs l)) := by
  subst hn
  have := Vw.refPur (L := L) (id := id) (g := g) (n := l.length) (o := o) hL (by simp) (fun e he c hc => by
    obtain ⟨e', _, rfl⟩ := List.mem_map.1 he
    simp only [AV.cells, List.mem_cons, List.not_mem_nil, or_false] at hc
    subst hc
    exact ⟨.of rfl, fun xs h => by cases h⟩)
  rwa [List.take_of_length_le (by simp)] at this
theorem numbersText_ok (l : List Int) (h : okNums l) : Ct Tryd.prog 27 [.sl false (ints l)] [] (.str (numsS l)) [] := by
  have hl := h.1
  refine Ct.by_ hmix [] Tryd.func27 rfl ?_
  simp only [run0, run1, run2, run3, run4, run5, run6, run7, run8, run9, run10, run11, run12, run13, run14, run15, run16, run17, run18, run19, run20, run21, run22, reduceCtorEq, Nat.reduceEqDiff, Nat.reduceAdd, Nat.reduceSub, Nat.reduceLeDiff, indexAddrA, indexRefA, appendA, strA, Nat.reduceMul, Nat.zero_mul, Nat.reduceMod, Int.reduceEq, Int.reduceLT, Int.reduceLE, Nat.reduceLT, Nat.lt_irrefl, Nat.reduceBEq, tys0, tys1, tys2, tys3, tys4, tys5, tys6, tys7, tys8, Tryd.ntmps27, Tryd.results27, ints_length]
  refine AWp.loop_inv (ι := List Int × List Int) (fun q => ⟨[.junk, .junk, .str ⟨#[]⟩, .ref 0 [] q.1.length q.1.length, .junk, .junk, .junk, .sl false (ints l), .int .i64 l.length, .int .i64 q.1.length, .junk, .junk, .junk, .junk, .junk, .junk, .junk, .junk, .junk, .junk, .junk], [.vec 9 1 q.1.length (strs (decN q.1))]⟩)
    (fun q => l = q.1 ++ q.2) (fun q => q.2.length) ([], l) rfl ⟨by simp only [List.length_nil, Int.natCast_zero]; repeat constructor, rfl⟩ ?_
  rintro ⟨d, r⟩ ha
  refine W.sound hmix (E := []) ?_
  simp only at ha
  cases r with
  | cons x r =>
    obtain ⟨e1, e2, e5⟩ := int_split ha (by omega)
    have hx := h.2 x (by rw [ha]; simp)
    obtain ⟨k, rfl⟩ := Int.eq_ofNat_of_zero_le hx.1
    have f3 : d.length + 1 ≤ 137438953472 := by have := congrArg List.length ha; simp at this; omega
    have f4 := strs_noOwn (decN d)
    have f5 : (strs (decN d)).length = d.length := by simp [strs, decN]
    simp only [run0, run1, run2, run3, run4, run5, run6, run7, run8, run9, run10, run11, run12, run13, run14, run15, run16, run17, run18, run19, run20, run21, run22, reduceCtorEq, Nat.reduceEqDiff, Nat.reduceAdd, Nat.reduceSub, Nat.reduceLeDiff, indexAddrA, indexRefA, appendA, strA, Nat.reduceMul, Nat.zero_mul, Nat.reduceMod, Int.reduceEq, Int.reduceLT, Int.reduceLE, Nat.reduceLT, Nat.lt_irrefl, Nat.reduceBEq, tys0, tys1, tys2, tys3, tys4, tys5, tys6, tys7, tys8, Tryd.ntmps27, Tryd.results27, ints_length, e1, e2, Int.toNat_natCast, Int.natCast_nonneg]
    refine RunL.callp rfl rfl ok_f41 (itoa_ok k (by omega)) (by first | rfl | simp only [pureL, pureB, Bool.and_self, Bool.and_true, Bool.true_and]) rfl ?_
    simp only [run0, run1, run2, run3, run4, run5, run6, run7, run8, run9, run10, run11, run12, run13, run14, run15, run16, run17, run18, run19, run20, run21, run22, reduceCtorEq, Nat.reduceEqDiff, Nat.reduceAdd, Nat.reduceSub, Nat.reduceLeDiff, indexAddrA, indexRefA, appendA, strA, Nat.reduceMul, Nat.zero_mul, Nat.reduceMod, Int.reduceEq, Int.reduceLT, Int.reduceLE, Nat.reduceLT, Nat.lt_irrefl, Nat.reduceBEq, tys0, tys1, tys2, tys3, tys4, tys5, tys6, tys7, tys8, Tryd.ntmps27, Tryd.results27, e5, f3, f4, f5]
    exact ⟨(d ++ [(k : Int)], r), by simp [ha], by simp, by simp only [List.length_append, List.length_cons, List.length_nil]; repeat constructor, by simp [strs, decN]⟩
  | nil =>
    have e1 := int_end ha
    rw [List.append_nil] at ha
    subst ha
    have hj := join_ok (decN l) false ⟨#[44]⟩ (by simp [decN]; omega) (by
      have := numsL_len h
      unfold numsL at this
      unfold decN
      rw [List.map_map]
      have e : (fun x : Int => (decS x.toNat).data.toList) = fun x => Lib.decDigits x.toNat := rfl
      show (Lib.join (List.map (fun x : Int => (decS x.toNat).data.toList) l) [44]).length ≤ _
      rw [e]; omega)
    rw [numsS_join] at hj
    simp only [run0, run1, run2, run3, run4, run5, run6, run7, run8, run9, run10, run11, run12, run13, run14, run15, run16, run17, run18, run19, run20, run21, run22, reduceCtorEq, Nat.reduceEqDiff, Nat.reduceAdd, Nat.reduceSub, Nat.reduceLeDiff, indexAddrA, indexRefA, appendA, strA, Nat.reduceMul, Nat.zero_mul, Nat.reduceMod, Int.reduceEq, Int.reduceLT, Int.reduceLE, Nat.reduceLT, Nat.lt_irrefl, Nat.reduceBEq, tys0, tys1, tys2, tys3, tys4, tys5, tys6, tys7, tys8, Tryd.ntmps27, Tryd.results27, ints_length, e1]
    refine RunL.lendV rfl rfl ok_f28 rfl hj (.cons (Vw_strs (l := decN l) rfl (by simp [decN])) (.cons (.pur (.str _)) .nil)) rfl rfl ?_
    simp only [run0, run1, run2, run3, run4, run5, run6, run7, run8, run9, run10, run11, run12, run13, run14, run15, run16, run17, run18, run19, run20, run21, run22, reduceCtorEq, Nat.reduceEqDiff, Nat.reduceAdd, Nat.reduceSub, Nat.reduceLeDiff, indexAddrA, indexRefA, appendA, strA, Nat.reduceMul, Nat.zero_mul, Nat.reduceMod, Int.reduceEq, Int.reduceLT, Int.reduceLE, Nat.reduceLT, Nat.lt_irrefl, Nat.reduceBEq, tys0, tys1, tys2, tys3, tys4, tys5, tys6, tys7, tys8, Tryd.ntmps27, Tryd.results27]
    exact Fin.eq rfl rfl

end Go.Proofs.YtllcljajlemmaaaDoor
/-
  Games: which are right, by both; the order of positions, plain; the program's memory of it.
-/
namespace Go.Proofs.YtllcljajlemmaaaDoor
open Go K
set_option linter.unusedSimpArgs false
set_option linter.unusedVariables false
set_option maxHeartbeats 1600000
set_option maxRecDepth 8000

theorem isGame_ok (g : List GP) (hl : g.length ≤ 1048576) (hs : ∀ p ∈ g, smallP p) : Ct Tryd.prog 26 [.sl false (g.map posE)] [] (.bool (gameB g)) [] := by
  refine Ct.by_ hmix [] Tryd.func26 rfl ?_
  simp only [run0, run1, run2, run3, run4, run5, run6, run7, run8, run9, run10, run11, run12, run13, run14, run15, run16, run17, run18, run19, run20, run21, run22, reduceCtorEq, Nat.reduceEqDiff, Nat.reduceAdd, Nat.reduceSub, Nat.reduceLeDiff, indexAddrA, indexRefA, appendA, strA, Nat.reduceMul, Nat.zero_mul, Nat.reduceMod, Int.reduceEq, Int.reduceLT, Int.reduceLE, Nat.reduceLT, Nat.lt_irrefl, Nat.reduceBEq, tys0, tys1, tys2, tys3, tys4, tys5, tys6, tys7, tys8, Tryd.ntmps26, Tryd.results26, List.length_map]
  refine AWp.loop_inv (ι := GmS) (fun q => ⟨[.sl false (g.map posE), .junk, .bool false, .junk, .junk, .sl false (g.map posE), .int .i64 g.length, .int .i64 q.d.length, .junk, .junk, .junk, .junk, .junk, .junk, .junk, .junk, .junk, .junk, .junk, .junk, .junk, .junk, .junk, .junk, .junk, .junk, .junk, .junk], q.X⟩)
    (fun q => g = q.d ++ q.r ∧ gmI q.d.length q.r = gmI 0 g) (fun q => q.r.length) ⟨[], g, []⟩ ⟨rfl, rfl⟩ ⟨by simp only [List.length_nil, Int.natCast_zero]; repeat constructor, rfl⟩ ?_
  rintro ⟨d, r, X⟩ ⟨ha, h2⟩
  refine W.sound hmix (E := []) ?_
  simp only at ha h2
  cases r with
  | nil =>
    have e1 := pos_end ha
    simp only [run0, run1, run2, run3, run4, run5, run6, run7, run8, run9, run10, run11, run12, run13, run14, run15, run16, run17, run18, run19, run20, run21, run22, reduceCtorEq, Nat.reduceEqDiff, Nat.reduceAdd, Nat.reduceSub, Nat.reduceLeDiff, indexAddrA, indexRefA, appendA, strA, Nat.reduceMul, Nat.zero_mul, Nat.reduceMod, Int.reduceEq, Int.reduceLT, Int.reduceLE, Nat.reduceLT, Nat.lt_irrefl, Nat.reduceBEq, tys0, tys1, tys2, tys3, tys4, tys5, tys6, tys7, tys8, Tryd.ntmps26, Tryd.results26, List.length_map, e1]
    refine RunL.callp rfl rfl ok_f40 (in_ok g.length 1 40) (by first | rfl | simp only [pureL, pureB, Bool.and_self, Bool.and_true, Bool.true_and]) rfl ?_
    simp only [run0, run1, run2, run3, run4, run5, run6, run7, run8, run9, run10, run11, run12, run13, run14, run15, run16, run17, run18, run19, run20, run21, run22, reduceCtorEq, Nat.reduceEqDiff, Nat.reduceAdd, Nat.reduceSub, Nat.reduceLeDiff, indexAddrA, indexRefA, appendA, strA, Nat.reduceMul, Nat.zero_mul, Nat.reduceMod, Int.reduceEq, Int.reduceLT, Int.reduceLE, Nat.reduceLT, Nat.lt_irrefl, Nat.reduceBEq, tys0, tys1, tys2, tys3, tys4, tys5, tys6, tys7, tys8, Tryd.ntmps26, Tryd.results26]
    exact Fin.eq (by rw [gameB, ← h2]; rfl) rfl
  | cons e r =>
    obtain ⟨e1, e2, e5⟩ := pos_split ha hl
    have hse := hs e (by rw [ha]; simp)
    have hdl : d.length ≤ 1048576 := by omega
    have p1 := ints_pure e.1
    have p2 := ints_pure e.2
    simp only [gmI] at h2
    simp only [run0, run1, run2, run3, run4, run5, run6, run7, run8, run9, run10, run11, run12, run13, run14, run15, run16, run17, run18, run19, run20, run21, run22, reduceCtorEq, Nat.reduceEqDiff, Nat.reduceAdd, Nat.reduceSub, Nat.reduceLeDiff, indexAddrA, indexRefA, appendA, strA, Nat.reduceMul, Nat.zero_mul, Nat.reduceMod, Int.reduceEq, Int.reduceLT, Int.reduceLE, Nat.reduceLT, Nat.lt_irrefl, Nat.reduceBEq, tys0, tys1, tys2, tys3, tys4, tys5, tys6, tys7, tys8, Tryd.ntmps26, Tryd.results26, List.length_map, e1, e2, Int.toNat_natCast, Int.natCast_nonneg, List.getElem?_append_right, Nat.sub_self]
    refine RunL.callp rfl rfl ok_f39 (rising_ok e.1 d.length hse.1 hdl) (by simp only [pureL, pureB, p1, Bool.and_self]) rfl ?_
    cases h3 : ris ((d.length : Int) - 1) none e.1
    · simp only [run0, run1, run2, run3, run4, run5, run6, run7, run8, run9, run10, run11, run12, run13, run14, run15, run16, run17, run18, run19, run20, run21, run22, reduceCtorEq, Nat.reduceEqDiff, Nat.reduceAdd, Nat.reduceSub, Nat.reduceLeDiff, indexAddrA, indexRefA, appendA, strA, Nat.reduceMul, Nat.zero_mul, Nat.reduceMod, Int.reduceEq, Int.reduceLT, Int.reduceLE, Nat.reduceLT, Nat.lt_irrefl, Nat.reduceBEq, tys0, tys1, tys2, tys3, tys4, tys5, tys6, tys7, tys8, Tryd.ntmps26, Tryd.results26]
      exact Fin.eq (by rw [gameB, ← h2, h3]; rfl) rfl
    simp only [run0, run1, run2, run3, run4, run5, run6, run7, run8, run9, run10, run11, run12, run13, run14, run15, run16, run17, run18, run19, run20, run21, run22, reduceCtorEq, Nat.reduceEqDiff, Nat.reduceAdd, Nat.reduceSub, Nat.reduceLeDiff, indexAddrA, indexRefA, appendA, strA, Nat.reduceMul, Nat.zero_mul, Nat.reduceMod, Int.reduceEq, Int.reduceLT, Int.reduceLE, Nat.reduceLT, Nat.lt_irrefl, Nat.reduceBEq, tys0, tys1, tys2, tys3, tys4, tys5, tys6, tys7, tys8, Tryd.ntmps26, Tryd.results26, List.length_map, List.getElem?_append_right, Nat.sub_self]
    refine RunL.callp rfl rfl ok_f39 (rising_ok e.2 d.length hse.2 hdl) (by simp only [pureL, pureB, p2, Bool.and_self]) rfl ?_
    cases h4 : ris ((d.length : Int) - 1) none e.2
    · simp only [run0, run1, run2, run3, run4, run5, run6, run7, run8, run9, run10, run11, run12, run13, run14, run15, run16, run17, run18, run19, run20, run21, run22, reduceCtorEq, Nat.reduceEqDiff, Nat.reduceAdd, Nat.reduceSub, Nat.reduceLeDiff, indexAddrA, indexRefA, appendA, strA, Nat.reduceMul, Nat.zero_mul, Nat.reduceMod, Int.reduceEq, Int.reduceLT, Int.reduceLE, Nat.reduceLT, Nat.lt_irrefl, Nat.reduceBEq, tys0, tys1, tys2, tys3, tys4, tys5, tys6, tys7, tys8, Tryd.ntmps26, Tryd.results26]
      exact Fin.eq (by rw [gameB, ← h2, h3, h4]; rfl) rfl
    simp only [run0, run1, run2, run3, run4, run5, run6, run7, run8, run9, run10, run11, run12, run13, run14, run15, run16, run17, run18, run19, run20, run21, run22, reduceCtorEq, Nat.reduceEqDiff, Nat.reduceAdd, Nat.reduceSub, Nat.reduceLeDiff, indexAddrA, indexRefA, appendA, strA, Nat.reduceMul, Nat.zero_mul, Nat.reduceMod, Int.reduceEq, Int.reduceLT, Int.reduceLE, Nat.reduceLT, Nat.lt_irrefl, Nat.reduceBEq, tys0, tys1, tys2, tys3, tys4, tys5, tys6, tys7, tys8, Tryd.ntmps26, Tryd.results26, e5]
    rw [h3, h4, Bool.true_and, Bool.true_and] at h2
    exact ⟨⟨d ++ [e], r, _⟩, ⟨by simp [ha], by simp only [List.length_append, List.length_cons, List.length_nil]; exact h2⟩, by simp, by simp only [List.length_append, List.length_cons, List.length_nil]; repeat constructor, rfl⟩
theorem gaGood_ok (g : List GP) (hl : g.length ≤ 1048576) (hs : ∀ p ∈ g, smallP p) : Ct Tryd.prog 16 [.sl false (g.map posE)] [] (.bool (gameB g)) [] := by
  refine Ct.by_ hmix [] Tryd.func16 rfl ?_
  simp only [run0, run1, run2, run3, run4, run5, run6, run7, run8, run9, run10, run11, run12, run13, run14, run15, run16, run17, run18, run19, run20, run21, run22, reduceCtorEq, Nat.reduceEqDiff, Nat.reduceAdd, Nat.reduceSub, Nat.reduceLeDiff, indexAddrA, indexRefA, appendA, strA, Nat.reduceMul, Nat.zero_mul, Nat.reduceMod, Int.reduceEq, Int.reduceLT, Int.reduceLE, Nat.reduceLT, Nat.lt_irrefl, Nat.reduceBEq, tys0, tys1, tys2, tys3, tys4, tys5, tys6, tys7, tys8, Tryd.ntmps16, Tryd.results16, List.length_map]
  refine AWp.loop_inv (ι := GmS) (fun q => ⟨[.sl false (g.map posE), .junk, .bool false, .junk, .junk, .sl false (g.map posE), .int .i64 g.length, .int .i64 q.d.length, .junk, .junk, .junk, .junk, .junk, .junk, .junk, .junk, .junk, .junk, .junk, .junk, .junk, .junk, .junk, .junk, .junk, .junk, .junk, .junk, .junk, .junk], q.X⟩)
    (fun q => g = q.d ++ q.r ∧ gmI q.d.length q.r = gmI 0 g) (fun q => q.r.length) ⟨[], g, []⟩ ⟨rfl, rfl⟩ ⟨by simp only [List.length_nil, Int.natCast_zero]; repeat constructor, rfl⟩ ?_
  rintro ⟨d, r, X⟩ ⟨ha, h2⟩
  refine W.sound hmix (E := []) ?_
  simp only at ha h2
  cases r with
  | nil =>
    have e1 := pos_end ha
    simp only [run0, run1, run2, run3, run4, run5, run6, run7, run8, run9, run10, run11, run12, run13, run14, run15, run16, run17, run18, run19, run20, run21, run22, reduceCtorEq, Nat.reduceEqDiff, Nat.reduceAdd, Nat.reduceSub, Nat.reduceLeDiff, indexAddrA, indexRefA, appendA, strA, Nat.reduceMul, Nat.zero_mul, Nat.reduceMod, Int.reduceEq, Int.reduceLT, Int.reduceLE, Nat.reduceLT, Nat.lt_irrefl, Nat.reduceBEq, tys0, tys1, tys2, tys3, tys4, tys5, tys6, tys7, tys8, Tryd.ntmps16, Tryd.results16, List.length_map, e1]
    refine RunL.callp rfl rfl ok_f31 (l1In_ok g.length 1 40) (by first | rfl | simp only [pureL, pureB, Bool.and_self, Bool.and_true, Bool.true_and]) rfl ?_
    simp only [run0, run1, run2, run3, run4, run5, run6, run7, run8, run9, run10, run11, run12, run13, run14, run15, run16, run17, run18, run19, run20, run21, run22, reduceCtorEq, Nat.reduceEqDiff, Nat.reduceAdd, Nat.reduceSub, Nat.reduceLeDiff, indexAddrA, indexRefA, appendA, strA, Nat.reduceMul, Nat.zero_mul, Nat.reduceMod, Int.reduceEq, Int.reduceLT, Int.reduceLE, Nat.reduceLT, Nat.lt_irrefl, Nat.reduceBEq, tys0, tys1, tys2, tys3, tys4, tys5, tys6, tys7, tys8, Tryd.ntmps16, Tryd.results16]
    exact Fin.eq (by rw [gameB, ← h2]; rfl) rfl
  | cons e r =>
    obtain ⟨e1, e2, e5⟩ := pos_split ha hl
    have hse := hs e (by rw [ha]; simp)
    have hw : IntKind.i64.wrap ((d.length : Int) - 1) = (d.length : Int) - 1 := i64_id (by omega) (by omega)
    have p1 := ints_pure e.1
    have p2 := ints_pure e.2
    simp only [gmI] at h2
    simp only [run0, run1, run2, run3, run4, run5, run6, run7, run8, run9, run10, run11, run12, run13, run14, run15, run16, run17, run18, run19, run20, run21, run22, reduceCtorEq, Nat.reduceEqDiff, Nat.reduceAdd, Nat.reduceSub, Nat.reduceLeDiff, indexAddrA, indexRefA, appendA, strA, Nat.reduceMul, Nat.zero_mul, Nat.reduceMod, Int.reduceEq, Int.reduceLT, Int.reduceLE, Nat.reduceLT, Nat.lt_irrefl, Nat.reduceBEq, tys0, tys1, tys2, tys3, tys4, tys5, tys6, tys7, tys8, Tryd.ntmps16, Tryd.results16, List.length_map, hw, e1, e2, Int.toNat_natCast, Int.natCast_nonneg, List.getElem?_append_right, Nat.sub_self]
    refine RunL.callp rfl rfl ok_f30 (l1Rising_ok e.1 _ hse.1) (by simp only [pureL, pureB, p1, Bool.and_self]) rfl ?_
    cases h3 : ris ((d.length : Int) - 1) none e.1
    · simp only [run0, run1, run2, run3, run4, run5, run6, run7, run8, run9, run10, run11, run12, run13, run14, run15, run16, run17, run18, run19, run20, run21, run22, reduceCtorEq, Nat.reduceEqDiff, Nat.reduceAdd, Nat.reduceSub, Nat.reduceLeDiff, indexAddrA, indexRefA, appendA, strA, Nat.reduceMul, Nat.zero_mul, Nat.reduceMod, Int.reduceEq, Int.reduceLT, Int.reduceLE, Nat.reduceLT, Nat.lt_irrefl, Nat.reduceBEq, tys0, tys1, tys2, tys3, tys4, tys5, tys6, tys7, tys8, Tryd.ntmps16, Tryd.results16]
      exact Fin.eq (by rw [gameB, ← h2, h3]; rfl) rfl
    simp only [run0, run1, run2, run3, run4, run5, run6, run7, run8, run9, run10, run11, run12, run13, run14, run15, run16, run17, run18, run19, run20, run21, run22, reduceCtorEq, Nat.reduceEqDiff, Nat.reduceAdd, Nat.reduceSub, Nat.reduceLeDiff, indexAddrA, indexRefA, appendA, strA, Nat.reduceMul, Nat.zero_mul, Nat.reduceMod, Int.reduceEq, Int.reduceLT, Int.reduceLE, Nat.reduceLT, Nat.lt_irrefl, Nat.reduceBEq, tys0, tys1, tys2, tys3, tys4, tys5, tys6, tys7, tys8, Tryd.ntmps16, Tryd.results16, List.length_map, hw, List.getElem?_append_right, Nat.sub_self]
    refine RunL.callp rfl rfl ok_f30 (l1Rising_ok e.2 _ hse.2) (by simp only [pureL, pureB, p2, Bool.and_self]) rfl ?_
    cases h4 : ris ((d.length : Int) - 1) none e.2
    · simp only [run0, run1, run2, run3, run4, run5, run6, run7, run8, run9, run10, run11, run12, run13, run14, run15, run16, run17, run18, run19, run20, run21, run22, reduceCtorEq, Nat.reduceEqDiff, Nat.reduceAdd, Nat.reduceSub, Nat.reduceLeDiff, indexAddrA, indexRefA, appendA, strA, Nat.reduceMul, Nat.zero_mul, Nat.reduceMod, Int.reduceEq, Int.reduceLT, Int.reduceLE, Nat.reduceLT, Nat.lt_irrefl, Nat.reduceBEq, tys0, tys1, tys2, tys3, tys4, tys5, tys6, tys7, tys8, Tryd.ntmps16, Tryd.results16]
      exact Fin.eq (by rw [gameB, ← h2, h3, h4]; rfl) rfl
    simp only [run0, run1, run2, run3, run4, run5, run6, run7, run8, run9, run10, run11, run12, run13, run14, run15, run16, run17, run18, run19, run20, run21, run22, reduceCtorEq, Nat.reduceEqDiff, Nat.reduceAdd, Nat.reduceSub, Nat.reduceLeDiff, indexAddrA, indexRefA, appendA, strA, Nat.reduceMul, Nat.zero_mul, Nat.reduceMod, Int.reduceEq, Int.reduceLT, Int.reduceLE, Nat.reduceLT, Nat.lt_irrefl, Nat.reduceBEq, tys0, tys1, tys2, tys3, tys4, tys5, tys6, tys7, tys8, Tryd.ntmps16, Tryd.results16, e5]
    rw [h3, h4, Bool.true_and, Bool.true_and] at h2
    exact ⟨⟨d ++ [e], r, _⟩, ⟨by simp [ha], by simp only [List.length_append, List.length_cons, List.length_nil]; exact h2⟩, by simp, by simp only [List.length_append, List.length_cons, List.length_nil]; repeat constructor, rfl⟩
/-- Is it a game with that position? -/
def hasB (g : List GP) (a : Int) : Bool := gameB g && inB a 0 ((g.length : Int) - 1)
/-! ### games whose options stand ahead -/
/-- Each option is a position ahead of it. -/
def GameOk (g : List GP) : Prop := ∀ (i : Nat) (p : GP), g[i]? = some p → smallP p ∧ (∀ x ∈ p.1, 0 ≤ x ∧ x < (i : Int)) ∧ ∀ x ∈ p.2, 0 ≤ x ∧ x < (i : Int)
theorem ris_mem {n : Int} : ∀ {l : List Int} {p : Option Int}, ris n p l = true → ∀ x ∈ l, 0 ≤ x ∧ x ≤ n
  | [], p, h, x, hx => by simp at hx
  | k :: r, p, h, x, hx => by
    simp only [ris, Bool.and_eq_true] at h
    rcases List.mem_cons.1 hx with rfl | hx
    · simpa [inB] using h.1.1
    · exact ris_mem h.2 x hx
theorem ris_len {n : Int} : ∀ {l : List Int} {q : Int}, ris n (some q) l = true → 0 ≤ q → q ≤ n → (l.length : Int) + q ≤ n
  | [], q, h, h0, h1 => by simpa using h1
  | k :: r, q, h, h0, h1 => by
    simp only [ris, Bool.and_eq_true, decide_eq_true_eq, inB] at h
    have := ris_len h.2 (by omega) (by omega)
    simp only [List.length_cons]
    omega
theorem ris_small {n : Int} {l : List Int} (h : ris n none l = true) : (l.length : Int) ≤ n + 1 ∨ l = [] := by
  cases l with
  | nil => exact .inr rfl
  | cons k r =>
    left
    simp only [ris, Bool.and_eq_true, decide_eq_true_eq, inB] at h
    have := ris_len h.2 (by omega) (by omega)
    simp only [List.length_cons]
    omega
theorem gmI_at : ∀ {g : List GP} {i : Nat}, gmI i g = true → ∀ (k : Nat) (p : GP), g[k]? = some p → ris (((i + k : Nat) : Int) - 1) none p.1 = true ∧ ris (((i + k : Nat) : Int) - 1) none p.2 = true
  | [], i, h, k, p, hk => by simp at hk
  | q :: r, i, h, k, p, hk => by
    simp only [gmI, Bool.and_eq_true] at h
    cases k with
    | zero => simp at hk; subst hk; exact ⟨h.1.1, h.1.2⟩
    | succ k =>
      have := gmI_at h.2 k p (by simpa using hk)
      rwa [show i + 1 + k = i + (k + 1) by omega] at this
theorem gameB_ok {g : List GP} (h : gameB g = true) : GameOk g ∧ 1 ≤ g.length ∧ g.length ≤ 40 ∧ ∀ p ∈ g, p.1.length ≤ 40 ∧ p.2.length ≤ 40 := by
  simp only [gameB, Bool.and_eq_true, inB, decide_eq_true_eq] at h
  obtain ⟨h1, h2, h3⟩ := h
  have key : ∀ (i : Nat) (p : GP), g[i]? = some p → (p.1.length ≤ 40 ∧ p.2.length ≤ 40) ∧ (∀ x ∈ p.1, 0 ≤ x ∧ x < (i : Int)) ∧ ∀ x ∈ p.2, 0 ≤ x ∧ x < (i : Int) := by
    intro i p hp
    have hi := (List.getElem?_eq_some_iff.1 hp).1
    obtain ⟨a, b⟩ := gmI_at h1 i p hp
    rw [Nat.zero_add] at a b
    refine ⟨⟨?_, ?_⟩, fun x hx => by have := ris_mem a x hx; omega, fun x hx => by have := ris_mem b x hx; omega⟩
    · rcases ris_small a with h | h
      · omega
      · simp [h]
    · rcases ris_small b with h | h
      · omega
      · simp [h]
  refine ⟨fun i p hp => ?_, by omega, by omega, fun p hp => ?_⟩
  · obtain ⟨⟨k1, k2⟩, k3⟩ := key i p hp
    exact ⟨⟨by omega, by omega⟩, k3⟩
  · obtain ⟨i, hi, rfl⟩ := List.getElem_of_mem hp
    exact (key i _ (List.getElem?_eq_getElem hi)).1

/-! ### the order -/
def lefts (g : List GP) (a : Nat) : List Int := (g.getD a ([], [])).1
def rights (g : List GP) (a : Nat) : List Int := (g.getD a ([], [])).2
/-- Is a position at most another one? 'f': how many steps at most. -/
def leF (g : List GP) : Nat → Nat → Nat → Bool
  | 0, _, _ => true
  | f + 1, a, b => (lefts g a).all (fun x => !leF g f b x.toNat) && (rights g b).all (fun y => !leF g f y.toNat a)
def leG (g : List GP) (a b : Nat) : Bool := leF g (a + b + 1) a b
theorem lefts_lt {g : List GP} (hg : GameOk g) {a : Nat} {x : Int} (h : x ∈ lefts g a) : 0 ≤ x ∧ x < (a : Int) := by
  unfold lefts at h
  rw [List.getD_eq_getElem?_getD] at h
  cases hp : g[a]? with
  | none => rw [hp] at h; simp at h
  | some p => rw [hp] at h; exact (hg a p hp).2.1 x h
theorem rights_lt {g : List GP} (hg : GameOk g) {a : Nat} {x : Int} (h : x ∈ rights g a) : 0 ≤ x ∧ x < (a : Int) := by
  unfold rights at h
  rw [List.getD_eq_getElem?_getD] at h
  cases hp : g[a]? with
  | none => rw [hp] at h; simp at h
  | some p => rw [hp] at h; exact (hg a p hp).2.2 x h
theorem all_congr_mem {α : Type} {l : List α} {p q : α → Bool} (h : ∀ x ∈ l, p x = q x) : l.all p = l.all q := by
  induction l with
  | nil => rfl
  | cons a l ih => simp only [List.all_cons, h a (by simp), ih fun x hx => h x (by simp [hx])]
theorem leF_deep {g : List GP} (hg : GameOk g) : ∀ (f h a b : Nat), a + b < f → a + b < h → leF g f a b = leF g h a b
  | 0, h, a, b, h1, _ => by omega
  | f + 1, 0, a, b, _, h2 => by omega
  | f + 1, h + 1, a, b, h1, h2 => by
    simp only [leF]
    congr 1
    · refine all_congr_mem fun x hx => ?_
      have := lefts_lt hg hx
      rw [leF_deep hg f h b x.toNat (by omega) (by omega)]
    · refine all_congr_mem fun x hx => ?_
      have := rights_lt hg hx
      rw [leF_deep hg f h x.toNat a (by omega) (by omega)]
theorem leF_succ (g : List GP) (f a b : Nat) : leF g (f + 1) a b = ((lefts g a).all (fun x => !leF g f b x.toNat) && (rights g b).all (fun y => !leF g f y.toNat a)) := rfl
theorem leG_eq {g : List GP} (hg : GameOk g) (a b : Nat) : leG g a b = ((lefts g a).all (fun x => !leG g b x.toNat) && (rights g b).all (fun y => !leG g y.toNat a)) := by
  unfold leG
  rw [leF_succ g (a + b) a b]
  congr 1
  · refine all_congr_mem fun x hx => ?_
    have := lefts_lt hg hx
    rw [leF_deep hg (a + b) (b + x.toNat + 1) b x.toNat (by omega) (by omega)]
  · refine all_congr_mem fun x hx => ?_
    have := rights_lt hg hx
    rw [leF_deep hg (a + b) (x.toNat + a + 1) x.toNat a (by omega) (by omega)]

/-! ### what is known already -/
abbrev Memo := List ((Int × Int) × Bool)
abbrev JS := Memo × List AObj
structure MemOk (g : List GP) (m : Memo) : Prop where
  nd : (m.map Prod.fst).Nodup
  ok : ∀ k v, getM m k = some v → ∃ a b : Nat, k = ((a : Int), (b : Int)) ∧ a < g.length ∧ b < g.length ∧ v = leG g a b
theorem MemOk.nil (g : List GP) : MemOk g [] := ⟨by simp, by simp [getM]⟩
theorem fold_law {g : List GP} {F : JS → Int → Bool × JS} {v : Int → Bool} : ∀ (l : List Int) (q : Bool × JS), MemOk g q.2.1 →
    (∀ x ∈ l, ∀ s : JS, MemOk g s.1 → (F s x).1 = v x ∧ MemOk g (F s x).2.1 ∧ ∃ Y, (F s x).2.2 = s.2 ++ Y) →
    (l.foldl (fun (q : Bool × JS) x => if q.1 then (!(F q.2 x).1, (F q.2 x).2) else q) q).1 = (q.1 && l.all fun x => !v x) ∧
    MemOk g (l.foldl (fun (q : Bool × JS) x => if q.1 then (!(F q.2 x).1, (F q.2 x).2) else q) q).2.1 ∧ ∃ Y, (l.foldl (fun (q : Bool × JS) x => if q.1 then (!(F q.2 x).1, (F q.2 x).2) else q) q).2.2 = q.2.2 ++ Y
  | [], q, hq, _ => ⟨by simp, hq, [], by simp⟩
  | x :: l, q, hq, hF => by
    simp only [List.foldl_cons, List.all_cons]
    obtain ⟨h1, h2, Y, h3⟩ := hF x (by simp) q.2 hq
    cases hb : q.1
    · rw [if_neg (by simp)]
      obtain ⟨k1, k2, k3⟩ := fold_law l q hq (fun y hy => hF y (by simp [hy]))
      refine ⟨by rw [k1, hb]; rfl, k2, k3⟩
    · rw [if_pos rfl]
      obtain ⟨k1, k2, Z, k3⟩ := fold_law l (!(F q.2 x).1, (F q.2 x).2) h2 (fun y hy => hF y (by simp [hy]))
      refine ⟨by rw [k1, h1, Bool.true_and], k2, Y ++ Z, by rw [k3, h3, List.append_assoc]⟩
theorem MemOk.put {g : List GP} {m : Memo} (h : MemOk g m) {a b : Nat} (ha : a < g.length) (hb : b < g.length) : MemOk g (putM m ((a : Int), (b : Int)) (leG g a b)) :=
  ⟨putM_nodup h.nd _ _, fun k v hk => by
    rw [getM_putM] at hk
    split at hk
    · rename_i e
      cases hk
      exact ⟨a, b, e.symm, ha, hb, rfl⟩
    · exact h.ok k v hk⟩
end Go.Proofs.YtllcljajlemmaaaDoor
/-
  The text of a game: both sides.
-/
namespace Go.Proofs.YtllcljajlemmaaaDoor
open Go K Go.RowKit
set_option linter.unusedSimpArgs false
set_option linter.unusedVariables false
set_option maxHeartbeats 1600000
set_option maxRecDepth 8000

def partS (p : GP) : ByteArray := (numsS p.1 ++ ⟨#[124]⟩) ++ numsS p.2
def gameS (g : List GP) : ByteArray := joinS (g.map partS) ⟨#[59]⟩
theorem size_app (a b : ByteArray) : (a ++ b).size = a.size + b.size := ByteArray.size_append
theorem partS_len {p : GP} (h1 : okNums p.1) (h2 : okNums p.2) : (partS p).data.toList.length ≤ 7000 := by
  have a1 := numsL_len h1
  have a2 := numsL_len h2
  have e : (partS p).data.toList.length = (partS p).size := by rw [Array.length_toList]; rfl
  rw [e]
  unfold partS
  rw [size_app, size_app, numsS_size, numsS_size]
  show (numsL p.1).length + 1 + (numsL p.2).length ≤ 7000
  omega
theorem okPos {g : List GP} (h : gameB g = true) : g.length ≤ 40 ∧ ∀ p ∈ g, okNums p.1 ∧ okNums p.2 := by
  obtain ⟨h1, h2, h3, h4⟩ := gameB_ok h
  refine ⟨h3, fun p hp => ?_⟩
  obtain ⟨i, hi, rfl⟩ := List.getElem_of_mem hp
  obtain ⟨k1, k2, k3⟩ := h1 i _ (List.getElem?_eq_getElem hi)
  have := h4 _ (List.getElem_mem hi)
  exact ⟨⟨by omega, fun x hx => by have := k2 x hx; omega⟩, ⟨by omega, fun x hx => by have := k3 x hx; omega⟩⟩
theorem gameS_len {g : List GP} (hl : g.length ≤ 40) (h : ∀ p ∈ g, okNums p.1 ∧ okNums p.2) : (Lib.join ((g.map partS).map (·.data.toList)) [59]).length ≤ 300000 := by
  have := join_len [59] 7000 ((g.map partS).map (·.data.toList)) (fun x hx => by
    rw [List.map_map] at hx
    obtain ⟨p, hp, rfl⟩ := List.mem_map.1 hx
    exact partS_len (h p hp).1 (h p hp).2)
  simp only [List.length_map, List.length_cons, List.length_nil] at this
  have : g.length * (7000 + (0 + 1)) ≤ 40 * (7000 + (0 + 1)) := Nat.mul_le_mul_right _ hl
  omega
def gtR (g : List GP) : AV := .tup [.str (if gameB g then gameS g else ⟨#[]⟩), .bool (gameB g)]
theorem implText_ok (g : List GP) (lg : g.length ≤ 1048576) (sg : ∀ p ∈ g, smallP p) : Ct Tryd.prog 13 [.sl false (g.map posE)] [] (gtR g) [] := by
  have pg := posL_pure g
  refine Ct.by_ hmix [] Tryd.func13 rfl ?_
  simp only [run0, run1, run2, run3, run4, run5, run6, run7, run8, run9, run10, run11, run12, run13, run14, run15, run16, run17, run18, run19, run20, run21, run22, reduceCtorEq, Nat.reduceEqDiff, Nat.reduceAdd, Nat.reduceSub, Nat.reduceLeDiff, indexAddrA, indexRefA, appendA, strA, Nat.reduceMul, Nat.zero_mul, Nat.reduceMod, Int.reduceEq, Int.reduceLT, Int.reduceLE, Nat.reduceLT, Nat.lt_irrefl, Nat.reduceBEq, tys0, tys1, tys2, tys3, tys4, tys5, tys6, tys7, tys8, Tryd.ntmps13, Tryd.results13]
  refine RunL.callp rfl rfl ok_f26 (isGame_ok g lg sg) (by simp only [pureL, pureB, pg, Bool.and_self]) rfl ?_
  cases h1 : gameB g
  · simp only [run0, run1, run2, run3, run4, run5, run6, run7, run8, run9, run10, run11, run12, run13, run14, run15, run16, run17, run18, run19, run20, run21, run22, reduceCtorEq, Nat.reduceEqDiff, Nat.reduceAdd, Nat.reduceSub, Nat.reduceLeDiff, indexAddrA, indexRefA, appendA, strA, Nat.reduceMul, Nat.zero_mul, Nat.reduceMod, Int.reduceEq, Int.reduceLT, Int.reduceLE, Nat.reduceLT, Nat.lt_irrefl, Nat.reduceBEq, tys0, tys1, tys2, tys3, tys4, tys5, tys6, tys7, tys8, Tryd.ntmps13, Tryd.results13]
    exact Fin.eq (by simp [gtR, h1]) rfl
  obtain ⟨hl, hok⟩ := okPos h1
  unfold gtR
  rw [h1, if_pos rfl]
  simp only [run0, run1, run2, run3, run4, run5, run6, run7, run8, run9, run10, run11, run12, run13, run14, run15, run16, run17, run18, run19, run20, run21, run22, reduceCtorEq, Nat.reduceEqDiff, Nat.reduceAdd, Nat.reduceSub, Nat.reduceLeDiff, indexAddrA, indexRefA, appendA, strA, Nat.reduceMul, Nat.zero_mul, Nat.reduceMod, Int.reduceEq, Int.reduceLT, Int.reduceLE, Nat.reduceLT, Nat.lt_irrefl, Nat.reduceBEq, tys0, tys1, tys2, tys3, tys4, tys5, tys6, tys7, tys8, Tryd.ntmps13, Tryd.results13, List.length_map]
  refine AWp.loop_inv (ι := GmS) (fun q => ⟨[.junk, .junk, .str ⟨#[]⟩, .bool false, .ref 0 [] q.d.length q.d.length, .junk, .junk, .junk, .junk, .junk, .junk, .sl false (g.map posE), .int .i64 g.length, .int .i64 q.d.length, .junk, .junk, .junk, .junk, .junk, .junk, .junk, .junk, .junk, .junk, .junk, .junk, .junk, .junk, .junk, .junk, .junk], .vec 9 1 q.d.length (strs (q.d.map partS)) :: q.X⟩)
    (fun q => g = q.d ++ q.r) (fun q => q.r.length) ⟨[], g, []⟩ rfl ⟨by simp only [List.length_nil, Int.natCast_zero]; repeat constructor, rfl⟩ ?_
  rintro ⟨d, r, X⟩ ha
  refine W.sound hmix (E := []) ?_
  simp only at ha
  cases r with
  | cons p r =>
    obtain ⟨e1, e2, e5⟩ := pos_split ha (by omega)
    have hp := hok p (by rw [ha]; simp)
    have f3 : d.length + 1 ≤ 137438953472 := by have := congrArg List.length ha; simp at this; omega
    have f4 := strs_noOwn (d.map partS)
    have f5 : (strs (d.map partS)).length = d.length := by simp [strs]
    have z1 := numsL_len hp.1
    have z2 := numsL_len hp.2
    have s1 : (numsS p.1).size + (ByteArray.mk #[124]).size ≤ 9223372036854775807 := by rw [numsS_size]; show _ + 1 ≤ _; omega
    have s2 : (numsS p.1 ++ ByteArray.mk #[124]).size + (numsS p.2).size ≤ 9223372036854775807 := by rw [size_app, numsS_size, numsS_size]; show _ + 1 + _ ≤ _; omega
    simp only [run0, run1, run2, run3, run4, run5, run6, run7, run8, run9, run10, run11, run12, run13, run14, run15, run16, run17, run18, run19, run20, run21, run22, reduceCtorEq, Nat.reduceEqDiff, Nat.reduceAdd, Nat.reduceSub, Nat.reduceLeDiff, indexAddrA, indexRefA, appendA, strA, Nat.reduceMul, Nat.zero_mul, Nat.reduceMod, Int.reduceEq, Int.reduceLT, Int.reduceLE, Nat.reduceLT, Nat.lt_irrefl, Nat.reduceBEq, tys0, tys1, tys2, tys3, tys4, tys5, tys6, tys7, tys8, Tryd.ntmps13, Tryd.results13, List.length_map, e1, e2, Int.toNat_natCast, Int.natCast_nonneg, List.getElem?_append_right, Nat.le_refl, Nat.sub_self]
    refine ⟨by kernel_rfl, ?_⟩
    refine RunL.callp rfl rfl ok_f27 (numbersText_ok p.1 hp.1) (by simp only [pureL, pureB, ints_pure, Bool.and_self]) rfl ?_
    simp only [run0, run1, run2, run3, run4, run5, run6, run7, run8, run9, run10, run11, run12, run13, run14, run15, run16, run17, run18, run19, run20, run21, run22, reduceCtorEq, Nat.reduceEqDiff, Nat.reduceAdd, Nat.reduceSub, Nat.reduceLeDiff, indexAddrA, indexRefA, appendA, strA, Nat.reduceMul, Nat.zero_mul, Nat.reduceMod, Int.reduceEq, Int.reduceLT, Int.reduceLE, Nat.reduceLT, Nat.lt_irrefl, Nat.reduceBEq, tys0, tys1, tys2, tys3, tys4, tys5, tys6, tys7, tys8, Tryd.ntmps13, Tryd.results13, s1, s2, List.getElem?_append_right, Nat.le_refl, Nat.sub_self]
    refine RunL.callp rfl rfl ok_f27 (numbersText_ok p.2 hp.2) (by simp only [pureL, pureB, ints_pure, Bool.and_self]) rfl ?_
    simp only [run0, run1, run2, run3, run4, run5, run6, run7, run8, run9, run10, run11, run12, run13, run14, run15, run16, run17, run18, run19, run20, run21, run22, reduceCtorEq, Nat.reduceEqDiff, Nat.reduceAdd, Nat.reduceSub, Nat.reduceLeDiff, indexAddrA, indexRefA, appendA, strA, Nat.reduceMul, Nat.zero_mul, Nat.reduceMod, Int.reduceEq, Int.reduceLT, Int.reduceLE, Nat.reduceLT, Nat.lt_irrefl, Nat.reduceBEq, tys0, tys1, tys2, tys3, tys4, tys5, tys6, tys7, tys8, Tryd.ntmps13, Tryd.results13, s1, s2, e5, f3, f4, f5]
    exact ⟨⟨d ++ [p], r, _⟩, by simp [ha], by simp, by simp only [List.length_append, List.length_cons, List.length_nil]; repeat constructor, by simp only [List.length_append, List.length_cons, List.length_nil, strs, List.map_append]; rfl⟩
  | nil =>
    have e1 := pos_end ha
    rw [List.append_nil] at ha
    subst ha
    have hj := join_ok (g.map partS) false ⟨#[59]⟩ (by simp; omega) (by have := gameS_len hl hok; show (Lib.join _ [59]).length ≤ _; omega)
    simp only [run0, run1, run2, run3, run4, run5, run6, run7, run8, run9, run10, run11, run12, run13, run14, run15, run16, run17, run18, run19, run20, run21, run22, reduceCtorEq, Nat.reduceEqDiff, Nat.reduceAdd, Nat.reduceSub, Nat.reduceLeDiff, indexAddrA, indexRefA, appendA, strA, Nat.reduceMul, Nat.zero_mul, Nat.reduceMod, Int.reduceEq, Int.reduceLT, Int.reduceLE, Nat.reduceLT, Nat.lt_irrefl, Nat.reduceBEq, tys0, tys1, tys2, tys3, tys4, tys5, tys6, tys7, tys8, Tryd.ntmps13, Tryd.results13, e1]
    refine RunL.lendV rfl rfl ok_f28 rfl hj (.cons (Vw_strs (l := g.map partS) rfl (by simp)) (.cons (.pur (.str _)) .nil)) rfl rfl ?_
    simp only [run0, run1, run2, run3, run4, run5, run6, run7, run8, run9, run10, run11, run12, run13, run14, run15, run16, run17, run18, run19, run20, run21, run22, reduceCtorEq, Nat.reduceEqDiff, Nat.reduceAdd, Nat.reduceSub, Nat.reduceLeDiff, indexAddrA, indexRefA, appendA, strA, Nat.reduceMul, Nat.zero_mul, Nat.reduceMod, Int.reduceEq, Int.reduceLT, Int.reduceLE, Nat.reduceLT, Nat.lt_irrefl, Nat.reduceBEq, tys0, tys1, tys2, tys3, tys4, tys5, tys6, tys7, tys8, Tryd.ntmps13, Tryd.results13]
    exact Fin.eq rfl rfl

/-! ### the reference -/
theorem decS_small {i : Nat} (h : i < 10) : decS i = strOfNums [48 + (i : Int)] := by
  unfold decS strOfNums
  rw [Lib.decDigits, dif_pos h]
  have : ((48 : Int) + i).toNat = 48 + i := by omega
  simp [this]
theorem decS_big {i : Nat} (h : ¬ i < 10) : decS i = decS (i / 10) ++ strOfNums [48 + ((i % 10 : Nat) : Int)] := by
  have : ((48 : Int) + ((i % 10 : Nat) : Int)).toNat = 48 + i % 10 := by omega
  have e : decS i = ⟨(Lib.decDigits (i / 10) ++ [UInt8.ofNat (48 + i % 10)]).toArray⟩ := by
    unfold decS
    rw [Lib.decDigits, dif_neg h]
  rw [e]
  unfold decS strOfNums
  rw [List.map_cons, List.map_nil, this]
  refine ByteArray.ext ?_
  simp
theorem cv_u8 (n : Int) : convA Tryd.prog 3 5 (.int .i64 n) = some (.int .u8 (IntKind.u8.wrap n)) := by
  unfold convA
  rw [Tryd.underlying3, Tryd.underlying5]
theorem cv_no (own : Bool) (es : List AV) : convA Tryd.prog 67 9 (.sl own es) = none := rfl
theorem num_ok : ∀ (i : Nat), i < 100 → Ct Tryd.prog 51 [.int .i64 i] [] (.str (decS i)) [] := by
  have small : ∀ (i : Nat), i < 10 → Ct Tryd.prog 51 [.int .i64 i] [] (.str (decS i)) [] := fun i hi => by
    have e1 : (i : Int) < 10 := by omega
    have w1 : IntKind.i64.wrap (48 + (i : Int)) = 48 + i := i64_id (by omega) (by omega)
    have w2 : IntKind.u8.wrap (48 + (i : Int)) = 48 + i := by
      show (48 + (i : Int)).emod (2 ^ 8) = _
      exact Int.emod_eq_of_lt (by omega) (by omega)
    refine Ct.by_ hmix [] Tryd.func51 rfl ?_
    simp only [run0, run1, run2, run3, run4, run5, run6, run7, run8, run9, run10, run11, run12, run13, run14, run15, run16, run17, run18, run19, run20, run21, run22, reduceCtorEq, Nat.reduceEqDiff, Nat.reduceAdd, Nat.reduceSub, Nat.reduceLeDiff, indexAddrA, indexRefA, appendA, strA, Nat.reduceMul, Nat.zero_mul, Nat.reduceMod, Int.reduceEq, Int.reduceLT, Int.reduceLE, Nat.reduceLT, Nat.lt_irrefl, Nat.reduceBEq, tys0, tys1, tys2, tys3, tys4, tys5, tys6, tys7, tys8, Tryd.ntmps51, Tryd.results51, e1, w1, w2, cv_u8, cv_no]
    refine RunL.strOf (n := 48 + i) (ns := []) rfl rfl Tryd.underlying67 Tryd.underlying5 Tryd.underlying9 (by rfl) ?_
    simp only [run0, run1, run2, run3, run4, run5, run6, run7, run8, run9, run10, run11, run12, run13, run14, run15, run16, run17, run18, run19, run20, run21, run22, reduceCtorEq, Nat.reduceEqDiff, Nat.reduceAdd, Nat.reduceSub, Nat.reduceLeDiff, indexAddrA, indexRefA, appendA, strA, Nat.reduceMul, Nat.zero_mul, Nat.reduceMod, Int.reduceEq, Int.reduceLT, Int.reduceLE, Nat.reduceLT, Nat.lt_irrefl, Nat.reduceBEq, tys0, tys1, tys2, tys3, tys4, tys5, tys6, tys7, tys8, Tryd.ntmps51, Tryd.results51]
    exact Fin.eq (by rw [decS_small hi]) rfl
  intro i hi
  by_cases h10 : i < 10
  · exact small i h10
  have e1 : ¬ (i : Int) < 10 := by omega
  have q1 : IntKind.i64.wrap ((i : Int).tdiv 10) = ((i / 10 : Nat) : Int) := by
    have : (i : Int).tdiv 10 = ((i / 10 : Nat) : Int) := by rw [Int.tdiv_eq_ediv_of_nonneg (by omega)]; simp
    rw [this]; exact i64_id (by omega) (by omega)
  have q2 : (i : Int).tmod 10 = ((i % 10 : Nat) : Int) := by rw [Int.tmod_eq_emod_of_nonneg (by omega)]; simp
  have w1 : IntKind.i64.wrap (48 + ((i % 10 : Nat) : Int)) = 48 + ((i % 10 : Nat) : Int) := i64_id (by omega) (by omega)
  have w2 : IntKind.u8.wrap (48 + ((i % 10 : Nat) : Int)) = 48 + ((i % 10 : Nat) : Int) := by
    show (48 + ((i % 10 : Nat) : Int)).emod (2 ^ 8) = _
    exact Int.emod_eq_of_lt (by omega) (by omega)
  have hz : (decS (i / 10)).size + (strOfNums [48 + ((i % 10 : Nat) : Int)]).size ≤ 9223372036854775807 := by
    rw [strOfNums_size]
    have := dec_len (i := i / 10) (by omega)
    have e : (decS (i / 10)).size = (Lib.decDigits (i / 10)).length := by simp [decS, ByteArray.size]
    rw [e]; simp; omega
  refine Ct.by_ hmix [] Tryd.func51 rfl ?_
  simp only [run0, run1, run2, run3, run4, run5, run6, run7, run8, run9, run10, run11, run12, run13, run14, run15, run16, run17, run18, run19, run20, run21, run22, reduceCtorEq, Nat.reduceEqDiff, Nat.reduceAdd, Nat.reduceSub, Nat.reduceLeDiff, indexAddrA, indexRefA, appendA, strA, Nat.reduceMul, Nat.zero_mul, Nat.reduceMod, Int.reduceEq, Int.reduceLT, Int.reduceLE, Nat.reduceLT, Nat.lt_irrefl, Nat.reduceBEq, tys0, tys1, tys2, tys3, tys4, tys5, tys6, tys7, tys8, Tryd.ntmps51, Tryd.results51, e1, q1]
  refine ⟨by kernel_rfl, ?_⟩
  refine RunL.callp rfl rfl ok_f51 (small (i / 10) (by omega)) rfl rfl ?_
  simp only [run0, run1, run2, run3, run4, run5, run6, run7, run8, run9, run10, run11, run12, run13, run14, run15, run16, run17, run18, run19, run20, run21, run22, reduceCtorEq, Nat.reduceEqDiff, Nat.reduceAdd, Nat.reduceSub, Nat.reduceLeDiff, indexAddrA, indexRefA, appendA, strA, Nat.reduceMul, Nat.zero_mul, Nat.reduceMod, Int.reduceEq, Int.reduceLT, Int.reduceLE, Nat.reduceLT, Nat.lt_irrefl, Nat.reduceBEq, tys0, tys1, tys2, tys3, tys4, tys5, tys6, tys7, tys8, Tryd.ntmps51, Tryd.results51, q2, w1, w2, cv_u8, cv_no]
  refine RunL.strOf (n := 48 + ((i % 10 : Nat) : Int)) (ns := []) rfl rfl Tryd.underlying67 Tryd.underlying5 Tryd.underlying9 (by rfl) ?_
  simp only [run0, run1, run2, run3, run4, run5, run6, run7, run8, run9, run10, run11, run12, run13, run14, run15, run16, run17, run18, run19, run20, run21, run22, reduceCtorEq, Nat.reduceEqDiff, Nat.reduceAdd, Nat.reduceSub, Nat.reduceLeDiff, indexAddrA, indexRefA, appendA, strA, Nat.reduceMul, Nat.zero_mul, Nat.reduceMod, Int.reduceEq, Int.reduceLT, Int.reduceLE, Nat.reduceLT, Nat.lt_irrefl, Nat.reduceBEq, tys0, tys1, tys2, tys3, tys4, tys5, tys6, tys7, tys8, Tryd.ntmps51, Tryd.results51, hz]
  exact Fin.eq (by rw [decS_big h10]) rfl

end Go.Proofs.YtllcljajlemmaaaDoor
