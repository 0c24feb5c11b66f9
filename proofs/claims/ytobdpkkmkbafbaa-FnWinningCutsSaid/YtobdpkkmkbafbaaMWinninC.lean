/-
  Texts joined in one: K28, K29, K16, Facts, GR1, GR2, GR3, GR4, GR5, BR1, BR2, BR3, BR4, BR5, GF1, GF2, GF3, GF4.
-/
import Derived.Test.YtobdpkkmkbafbaaMWinninB
import Derived.Lib.Builder
import Derived.Lib.UnsafeStr
import Derived.Laws.Externs
import Derived.Test.YtobdpkkmkbafbaaProg
import Derived.Test.YtobdpkkmkbafbaaMWinninA
/-
  A logic of values for Go's functions (part 28): a loop over a function whose rounds all go on.
-/
namespace Go.Proofs.Ytobdpkkmkbafbaa.K
set_option linter.unusedVariables false
set_option linter.unusedSimpArgs false
open Go Go.RowKit

mutual
/-- Values that hold no yield. -/
def noY : AV → Bool
  | .sl _ es => noYL es
  | .agg cs => noYL cs
  | .tup cs => noYL cs
  | .fn _ cs => noYL cs
  | .rptr c _ => noY c
  | .yld _ _ _ => false
  | _ => true
def noYL : List AV → Bool
  | [] => true
  | x :: xs => noY x && noYL xs
end
theorem noYL_mem {xs : List AV} : noYL xs = true ↔ ∀ x ∈ xs, noY x = true := by
  induction xs with
  | nil => simp [noYL]
  | cons x xs ih => simp [noYL, ih]
theorem noY_cells {x c : AV} (h : noY x = true) (hc : c ∈ x.cells) : noY c = true := by
  cases x <;> first
    | (simp only [AV.cells, List.mem_singleton] at hc; subst hc; exact h)
    | (simp only [AV.cells] at hc; simp only [noY] at h; exact noYL_mem.1 h c hc)
mutual
theorem noY_of : ∀ {x : AV}, pureB x = true → noY x = true
  | .int _ _, _ => rfl
  | .bool _, _ => rfl
  | .str _, _ => rfl
  | .lit _, _ => rfl
  | .junk, _ => rfl
  | .sl _ es, h => by simp only [pureB] at h; simp only [noY]; exact noYL_of h
  | .agg es, h => by simp only [pureB] at h; simp only [noY]; exact noYL_of h
  | .tup es, h => by simp only [pureB] at h; simp only [noY]; exact noYL_of h
  | .fn _ es, h => by simp only [pureB] at h; simp only [noY]; exact noYL_of h
  | .rptr c _, h => by simp only [pureB] at h; simp only [noY]; exact noY_of h
  | .ref .., _ => rfl
  | .ptr .., _ => rfl
  | .eptr .., _ => rfl
  | .map _, _ => rfl
  | .yld .., h => by simp [pureB] at h
theorem noYL_of : ∀ {xs : List AV}, pureL xs = true → noYL xs = true
  | [], _ => rfl
  | x :: xs, h => by
    simp only [pureL, Bool.and_eq_true] at h
    simp only [noYL, noY_of h.1, noYL_of h.2, Bool.and_self]
end
def noYO : AObj → Bool
  | .box _ cs => noYL cs
  | .vec _ _ _ es => noYL es
  | _ => true

theorem noYL_sub : ∀ (p : Pth) (es es' : List AV), noYL es = true → sub es p = some es' → noYL es' = true
  | [], es, es', h, hs => by simp [sub] at hs; subst hs; exact h
  | (i, j) :: p, es, es', h, hs => by
    simp only [sub] at hs
    cases he : es[i]? with
    | none => simp only [he] at hs; cases hs
    | some e =>
      simp only [he] at hs
      cases hc : e.cells[j]? with
      | none => simp only [hc] at hs; cases hs
      | some x =>
        simp only [hc] at hs
        have hx := noY_cells (noYL_mem.1 h e (List.mem_of_getElem? he)) (List.mem_of_getElem? hc)
        cases x with
        | sl own es2 =>
          cases own with
          | true => exact noYL_sub p es2 es' (by simpa [noY] using hx) hs
          | false => cases hs
        | _ => cases hs

/-- Two tellings of memory that agree but for a loop's record. -/
structure AgrY (γ γ' : Nat → Gh) : Prop where
  ro : ∀ b o, γ b = .ro o → (∀ r, o ≠ .loop r) → γ' b = .ro o
  ow : ∀ b id p c, γ' b = .ow id p c ↔ γ b = .ow id p c

theorem AgrY.roCell {γ γ' : Nat → Gh} (h : AgrY γ γ') {A : Option Addr} {k : Nat} {v : Value} (hr : roCell γ A k = some v) : K.roCell γ' A k = some v := by
  unfold K.roCell at *
  split at hr
  · rename_i b o
    split at hr
    · rename_i arr T fr hb
      simp only [h.ro _ _ hb (fun d e => by cases e)]
      exact hr
    · cases hr
  · cases hr

theorem AgrY.refOk {γ γ' : Nat → Gh} (A : AgrY γ γ') {L : List AObj} {id : Nat} {p : Pth} {g n : Nat} {v : Value} (h : RefOk γ L id p g n v) : RefOk γ' L id p g n v := by
  unfold RefOk at *
  split at h
  · obtain ⟨h1, h2⟩ := h
    refine ⟨h1, fun e => ?_⟩
    obtain ⟨es', he, hn, hv⟩ := h2 e
    refine ⟨es', he, hn, ?_⟩
    rcases hv with ⟨h1, h2, h3⟩ | ⟨b, c, h1, h2⟩
    · exact .inl ⟨h1, h2, fun b c hb => h3 b c ((A.ow _ _ _ _).1 hb)⟩
    · exact .inr ⟨b, c, h1, (A.ow _ _ _ _).2 h2⟩
  · exact h
  · exact h

theorem AgrY.eptrOk {γ γ' : Nat → Gh} (A : AgrY γ γ') {L : List AObj} {id : Nat} {p : Pth} {g i off : Nat} {v : Value} (h : EptrOk γ L id p g i off v) : EptrOk γ' L id p g i off v := by
  unfold EptrOk at *
  split at h
  · obtain ⟨h1, h2⟩ := h
    refine ⟨h1, fun e => ?_⟩
    obtain ⟨es', e1, b, c, sz, h3, h4, h5, h6, h7, h8⟩ := h2 e
    exact ⟨es', e1, b, c, sz, h3, h4, h5, h6, h7, (A.ow _ _ _ _).2 h8⟩
  · exact h
  · exact h

theorem RV.agrY {γ γ' : Nat → Gh} (A : AgrY γ γ') {L : List AObj} {x : AV} {v : Value} (h : RV γ L x v) : noY x = true → RV γ' L x v := by
  induction h with
  | int k n => intro _; exact .int k n
  | bool b => intro _; exact .bool b
  | str s => intro _; exact .str s
  | lit v h => intro _; exact .lit v h
  | sl own es A' n c sz vals hn hc hsz h2 h1 h3 ih =>
    intro hy
    simp only [noY] at hy
    exact .sl own es A' n c sz vals hn hc hsz (fun i e j x a b => A.roCell (h2 i e j x a b)) h1 fun i e j x a b => ih i e j x a b (noY_cells (noYL_mem.1 hy e (List.mem_of_getElem? a)) (List.mem_of_getElem? b))
  | agg cs vs hn h1 h ih => intro hy; simp only [noY] at hy; exact .agg cs vs hn h1 fun i x hx => ih i x hx (noYL_mem.1 hy x (List.mem_of_getElem? hx))
  | tup cs vs hn h ih => intro hy; simp only [noY] at hy; exact .tup cs vs hn fun i x hx => ih i x hx (noYL_mem.1 hy x (List.mem_of_getElem? hx))
  | ref id p g n v h h1 => intro _; exact .ref id p g n v (A.refOk h) h1
  | ptr id off b c T cs hL h => intro _; exact .ptr id off b c T cs hL ((A.ow _ _ _ _).2 h)
  | eptr id p g i off v h h1 => intro _; exact .eptr id p g i off v (A.eptrOk h) h1
  | rptr x off b o vals h2 h1 h3 ih => intro hy; simp only [noY] at hy; exact .rptr x off b o vals (fun j y a => A.roCell (h2 j y a)) h1 fun j y a => ih j y a (noY_cells hy (List.mem_of_getElem? a))
  | fn f cs vs hn h ih => intro hy; simp only [noY] at hy; exact .fn f cs vs hn fun i x hx => ih i x hx (noYL_mem.1 hy x (List.mem_of_getElem? hx))
  | map id b c kt vt es hL h => intro _; exact .map id b c kt vt es hL ((A.ow _ _ _ _).2 h)
  | yld l r ts h hts ih => intro hy; simp [noY] at hy
  | junk v => intro _; exact .junk v

theorem BlockRep.agrY {γ γ' : Nat → Gh} (A : AgrY γ γ') {L : List AObj} {o : Obj} {id : Nat} {p : Pth} {c : Nat} (hy : L.all noYO = true) (h : BlockRep γ L o id p c) : BlockRep γ' L o id p c := by
  unfold BlockRep at *
  split at h
  · rename_i T cs hL
    have hy := List.all_eq_true.1 hy _ (List.mem_of_getElem? hL)
    obtain ⟨h1, arr, h2, h3, h4⟩ := h
    refine ⟨h1, arr, h2, h3, fun j x hx => ?_⟩
    obtain ⟨v, a, b, c⟩ := h4 j x hx
    exact ⟨v, a, b, c.agrY A (noYL_mem.1 hy x (List.mem_of_getElem? hx))⟩
  · rename_i T sz g es hL
    have hy := List.all_eq_true.1 hy _ (List.mem_of_getElem? hL)
    obtain ⟨es', s, arr, T', h1, h2, h3, h4, h5, h6, h7⟩ := h
    have hy' := noYL_sub _ _ _ hy h1
    refine ⟨es', s, arr, T', h1, h2, h3, h4, h5, h6, h7.1, fun i e j x hi hj => ?_⟩
    obtain ⟨v, a, b, c⟩ := h7.2 i e j x hi hj
    refine ⟨v, a, b, ?_⟩
    have hx : noY x = true := noY_cells (noYL_mem.1 hy' e (List.mem_of_getElem? hi)) (List.mem_of_getElem? hj)
    unfold CV at *
    split at c
    · rcases c with ⟨h1, h2, h3⟩ | ⟨b, c, h1, h2⟩
      · exact .inl ⟨h1, h2, fun b c hb => h3 b c ((A.ow _ _ _ _).1 hb)⟩
      · exact .inr ⟨b, c, h1, (A.ow _ _ _ _).2 h2⟩
    · exact c.agrY A hx
  · exact h
  · exact h

theorem newG_same (γ : Nat → Gh) (n : Nat) (g : Gh) : newG γ n g n = g := by simp [newG]
theorem newG_other {γ : Nat → Gh} {n b : Nat} {g : Gh} (h : b ≠ n) : newG γ n g b = γ b := by simp [newG, h]

theorem agrY_hush {γ : Nat → Gh} {l : Nat} {r : Loop} (h : γ l = .ro (.loop r)) : AgrY γ (newG γ l .out) := by
  refine ⟨fun b o hb hn => ?_, fun b id p c => ?_⟩
  · have hne : b ≠ l := fun e => by rw [e, h] at hb; cases hb; exact hn _ rfl
    rw [newG_other hne]; exact hb
  · by_cases hne : b = l
    · subst hne; rw [newG_same, h]; exact ⟨fun h => (by cases h), fun h => (by cases h)⟩
    · rw [newG_other hne]

theorem agr_wake {γ : Nat → Gh} {l : Nat} {r : Loop} (h : γ l = .out) : Agr γ (newG γ l (.ro (.loop r))) := by
  refine ⟨fun b o hb hn => ?_, fun b id p c => ?_⟩
  · have hne : b ≠ l := fun e => by rw [e, h] at hb; cases hb
    rw [newG_other hne]; exact hb
  · by_cases hne : b = l
    · subst hne; rw [newG_same, h]; exact ⟨fun h => (by cases h), fun h => (by cases h)⟩
    · rw [newG_other hne]

theorem BlockRep.noLoop {γ : Nat → Gh} {L : List AObj} {o : Obj} {id : Nat} {p : Pth} {c : Nat} (h : BlockRep γ L o id p c) : ∀ x, o ≠ .loop x := by
  intro x e
  subst e
  unfold BlockRep at h
  split at h
  · obtain ⟨_, _, h, _⟩ := h; cases h
  · obtain ⟨_, _, _, _, _, h, _⟩ := h; cases h
  · obtain ⟨_, _, _, h, _⟩ := h; cases h
  · exact h

/-- The record is not looked at any more; it may turn. -/
theorem Inv.hush {γ : Nat → Gh} {L : List AObj} {w w' : World} {l : Nat} {r : Loop} (h : Inv γ L w) (hl : γ l = .ro (.loop r)) (hy : L.all noYO = true) (hw : ∀ b : Nat, b ≠ l → w'.heap[b]? = w.heap[b]?) :
    Inv (newG γ l .out) L w' := by
  have A := agrY_hush hl
  have ne : ∀ {b id p c}, γ b = .ow id p c → b ≠ l := fun hb e => by rw [e, hl] at hb; cases hb
  refine ⟨fun b o hb => ?_, fun b id p c hb => ?_, fun b b' id p c c' h1 h2 => h.inj b b' id p c c' ((A.ow _ _ _ _).1 h1) ((A.ow _ _ _ _).1 h2), fun id T cs hL => ?_, fun id kt vt es hL => ?_⟩
  · have hne : b ≠ l := fun e => by rw [e, newG_same] at hb; cases hb
    rw [newG_other hne] at hb
    rw [hw b hne]; exact h.ro b o hb
  · have hb := (A.ow _ _ _ _).1 hb
    obtain ⟨o, ho, hr⟩ := h.ow b id p c hb
    exact ⟨o, by rw [hw b (ne hb)]; exact ho, hr.agrY A hy⟩
  · obtain ⟨b, c, hb⟩ := h.box id T cs hL; exact ⟨b, c, (A.ow _ _ _ _).2 hb⟩
  · obtain ⟨b, c, hb⟩ := h.map id kt vt es hL; exact ⟨b, c, (A.ow _ _ _ _).2 hb⟩

/-- The record is known again. -/
theorem Inv.wake {γ : Nat → Gh} {L : List AObj} {w w' : World} {l : Nat} {r : Loop} (h : Inv γ L w) (hl : γ l = .out) (hw : ∀ b : Nat, b ≠ l → w'.heap[b]? = w.heap[b]?) (hr : w'.heap[l]? = some (.loop r)) :
    Inv (newG γ l (.ro (.loop r))) L w' := by
  have A : Agr γ (newG γ l (.ro (.loop r))) := agr_wake hl
  have ne : ∀ {b id p c}, γ b = .ow id p c → b ≠ l := fun hb e => by rw [e, hl] at hb; cases hb
  refine ⟨fun b o hb => ?_, fun b id p c hb => ?_, fun b b' id p c c' h1 h2 => h.inj b b' id p c c' ((A.ow _ _ _ _).1 h1) ((A.ow _ _ _ _).1 h2), fun id T cs hL => ?_, fun id kt vt es hL => ?_⟩
  · by_cases hne : b = l
    · subst hne; rw [newG_same] at hb; cases hb; exact hr
    · rw [newG_other hne] at hb
      rw [hw b hne]; exact h.ro b o hb
  · have hb := (A.ow _ _ _ _).1 hb
    obtain ⟨o, ho, hr⟩ := h.ow b id p c hb
    exact ⟨o, by rw [hw b (ne hb)]; exact ho, hr.agr A⟩
  · obtain ⟨b, c, hb⟩ := h.box id T cs hL; exact ⟨b, c, (A.ow _ _ _ _).2 hb⟩
  · obtain ⟨b, c, hb⟩ := h.map id kt vt es hL; exact ⟨b, c, (A.ow _ _ _ _).2 hb⟩

/-- A block that is not known turns. -/
theorem Inv.idle {γ : Nat → Gh} {L : List AObj} {w w' : World} {l : Nat} (h : Inv γ L w) (hl : γ l = .out) (hw : ∀ b : Nat, b ≠ l → w'.heap[b]? = w.heap[b]?) : Inv γ L w' := by
  refine ⟨fun b o hb => ?_, fun b id p c hb => ?_, h.inj, h.box, h.map⟩
  · rw [hw b (fun e => by rw [e, hl] at hb; cases hb)]; exact h.ro b o hb
  · obtain ⟨o, ho, hr⟩ := h.ow b id p c hb
    exact ⟨o, by rw [hw b (fun e => by rw [e, hl] at hb; cases hb)]; exact ho, hr⟩

/-- The round's variables are laid into the record's. -/
def setP (ps : List Tmp) (xs : List AV) (s : St) : St := (ps.zip xs).foldl (fun s q => s.put (some q.1) q.2) s

theorem setP_L : ∀ (ps : List Tmp) (xs : List AV) (s : St), (setP ps xs s).L = s.L
  | [], _, _ => rfl
  | _ :: _, [], _ => rfl
  | p :: ps, x :: xs, s => by
    show (setP ps xs (s.put (some p) x)).L = s.L
    rw [setP_L ps xs]; rfl

theorem Rel.setP {γ : Nat → Gh} {w : World} : ∀ (ps : List Tmp) (xs : List AV) (vs : List Value) (s : St) (a : Act), xs.length = vs.length → (∀ (i : Nat) x, xs[i]? = some x → RV γ s.L x (vs.getD i undef)) → Rel γ s a w →
    Rel γ (setP ps xs s) { a with tmps := (ps.zip vs).foldl (fun t q => t.setIfInBounds q.1 q.2) a.tmps } w
  | [], xs, vs, s, a, hl, hv, hr => hr
  | p :: ps, [], [], s, a, hl, hv, hr => hr
  | p :: ps, [], v :: vs, s, a, hl, hv, hr => by simp at hl
  | p :: ps, x :: xs, [], s, a, hl, hv, hr => by simp at hl
  | p :: ps, x :: xs, v :: vs, s, a, hl, hv, hr => by
    have h1 := hr.put (some p) (hv 0 x rfl)
    exact Rel.setP ps xs vs (s.put (some p) x) (a.put (some p) v) (by simpa using hl) (fun i y hy => by rw [St.put_L]; exact hv (i + 1) y hy) h1

/-- What a call of yield does: a round of the loop whose record is 'r', which goes on. -/
def YC (P : Program) (l : Nat) (r : Loop) (ts : List AV) (args : List AV) (L L' : List AObj) : Prop :=
  args.length = r.params.size ∧ ∀ γ w vs, γ l = .ro (.loop r) → Inv γ L w → (∀ (i : Nat) x, ts[i]? = some x → RV γ L x (r.tmps.getD i undef)) → ArgsR γ L args vs → ∀ ro,
    RoundIn (FW ro) 0 P l r.fn ((r.params.zip vs).foldl (fun t (p, v) => t.setIfInBounds p v) r.tmps) r.assign r.body w fun e w' =>
      e = .returned (.bool true) ∧ ∃ γ', Inv γ' L' w' ∧ Ext γ L γ' L' ∧ Stp γ w γ' w'

theorem yield_sound {P : Program} {o : Oper} {s : St} {l : Nat} {r : Loop} {ts : List AV} {args : Array Operand} {ats : Array TypeId} {x : Operand} {L' : List AObj}
    (ho : o.op = .call { callee := .value x, args := args, argTypes := ats }) (hx : s.ev x = .yld l r ts)
    (h : YC P l r ts (args.toList.map s.ev) s.L L') : OpS P o s ({ s with L := L' }.put o.dst (.bool true)) := by
  intro γ a w K Q hr hK
  have hxv := hr.ev x
  rw [hx] at hxv
  generalize hxe : a.eval x = v at hxv
  cases hxv with
  | yld _ _ _ hl hts =>
    have hh := hr.inv.ro _ _ hl
    have hsz : (args.map a.eval).size = r.params.size := by rw [← h.1]; simp
    have hrun : (execOp a.eval o).run P w = .ok (.round l r.fn ((r.params.zip (args.map a.eval)).foldl (fun t (p, v) => t.setIfInBounds p v) r.tmps) r.assign r.body) w := by
      unfold execOp
      rw [ho]
      have := run_yield (P := P) hh hsz
      simp [resolve, hxe, Deferred.ofValue, invoke, this]
    refine .inr ⟨_, _, _, _, _, _, hrun, fun ro => RoundIn.mono (h.2 γ w _ hl hr.inv hts ⟨by simp, fun i y hy => ?_⟩ ro) ?_⟩
    · simp only [List.getElem?_map, Option.map_eq_some_iff] at hy
      obtain ⟨z, hz, rfl⟩ := hy
      have hlt := (List.getElem?_eq_some_iff.1 hz).1
      simp at hlt
      have hz' : args[i] = z := by simpa [hlt] using hz
      simp [Array.getD, hlt, hz']
      exact hr.ev z
    · rintro e w' ⟨rfl, γ', hI, hE, hS⟩
      exact ⟨_, rfl, hK γ' _ w' ((hr.mono hE hI).put o.dst (.bool true)) (by rw [St.put_L]; exact hE) hS⟩

theorem RunL.cally {P : Program} {k : Oper → Knd} {ops : Array Oper} {K : St → Prop} {o : Oper} {rest : List Oper} {s : St} {x : Operand} {l : Nat} {r : Loop} {ts : List AV} {args : Array Operand} {ats : Array TypeId} {L' : List AObj}
    (hg : guardA ops s o = some true) (ho : o.op = .call { callee := .value x, args := args, argTypes := ats }) (hc : s.ev x = .yld l r ts) (hkd : Knd.le .C (k o) = true) (hal : isAlloc k o = false ∨ ∃ X, L' = s.L ++ X)
    (h : YC P l r ts (args.toList.map s.ev) s.L L') (hk : R P k ops rest ({ s with L := L' }.put o.dst (.bool true)) K) : RunL P k ops (o :: rest) s K := by
  refine .op ⟨.C, .bool true, L'⟩ hkd ⟨⟨fun h _ => hal.resolve_left (by rw [h]; exact fun e => (nomatch e)), fun h => (nomatch h)⟩, fun s1 ha hL => ⟨by rw [agree_guard ha]; exact hg, ?_⟩⟩ (R.sound hk)
  have he : args.toList.map s1.ev = args.toList.map s.ev :=
    map_congr_ev fun y hy => agree_ev ha (by rw [ho]; simp [Op.operands, Call.operands]; exact .inr (by simpa using hy))
  have hx1 : s1.ev x = .yld l r ts := by rw [agree_ev ha (by rw [ho]; simp [Op.operands, Call.operands])]; exact hc
  have hL : s1.L = s.L := hL
  exact yield_sound (P := P) (s := s1) ho hx1 (by rw [he, hL]; exact h)

/-- **A loop over a function, whose rounds all go on**: 'Ls k' is what the call owns when k rounds are over, 'xs k' what the k-th round is handed. -/
theorem AWp.range {P : Program} {g : Operand} {params : Array Tmp} {assign body : Code} {Q : Exit → St → Prop} {s : St} {F : FuncId} {cap : List AV} {z : AV} (hg : s.ev g = .fn F cap) (hF : okFn P F = true)
    (hpl : plainC assign = true ∧ plainC body = true) (n : Nat) (Ls : Nat → List AObj) (xs : Nat → List AV) (h0 : s.L = Ls 0) (hlen : ∀ k, k < n → (xs k).length = params.size)
    (hny : ∀ k, k ≤ n → (Ls k).all noYO = true) (hnt : noYL s.t = true) (hnx : ∀ k, k < n → noYL (xs k) = true)
    (hit : ∀ l r ts, (∀ k, k < n → YC P l r ts (xs k) (Ls k) (Ls (k + 1))) → Ct P F (.yld l r ts :: cap) (Ls 0) z (Ls n))
    (hround : ∀ k, k < n → AWp P assign (ExThen (AWp P body fun e s' => e = .normal ∧ s'.L = Ls (k + 1)) fun _ _ => False) (setP params.toList (xs k) ⟨s.t, Ls k⟩))
    (hQ : Q .normal ⟨s.t, Ls n⟩) : AWp P (.rangeFunc g params assign body) Q s := by
  intro ro γ a w hp hr
  have hro : ro = none := hp.resolve_right (by simp [plainC])
  subst hro
  refine wpIn_rangeFunc ?_
  intro fn _
  have hgv := hr.ev g
  rw [hg] at hgv
  generalize hge : a.eval g = gv at hgv
  cases hgv with
  | fn _ _ vcap hnc hcap =>
  obtain ⟨rec, hrec⟩ : ∃ rec : Loop, rec = { state := .ready, pending := none, fn, tmps := a.tmps, params, assign, body, defers := w.heap.size } := ⟨_, rfl⟩
  have hD : γ w.heap.size = .out := hr.inv.out (Nat.le_refl _)
  obtain ⟨E1, I1, S1⟩ := hr.inv.allocRo (.deferred (some []))
  generalize hγ1 : newG γ w.heap.size (.ro (.deferred (some []))) = γ1 at E1 I1 S1
  obtain ⟨E2, I2, S2⟩ := I1.allocRo (.loop rec)
  have hsz1 : (w.alloc (.deferred (some []))).heap.size = w.heap.size + 1 := by rw [World.size_alloc]
  rw [hsz1] at E2 I2 S2
  generalize hγ2 : newG γ1 (w.heap.size + 1) (.ro (.loop rec)) = γ2 at E2 I2 S2
  have hl2 : γ2 (w.heap.size + 1) = .ro (.loop rec) := by rw [← hγ2, newG_same]
  have hD2 : γ2 w.heap.size = .ro (.deferred (some [])) := by rw [← hγ2, newG_other (by omega), ← hγ1, newG_same]
  have E := E1.trans E2
  have S := S1.trans S2
  have hts : ∀ (i : Nat) x, s.t[i]? = some x → RV γ2 s.L x (rec.tmps.getD i undef) := fun i x hx => by rw [hrec]; exact (hr.tmps i x hx).mono E
  obtain ⟨W2, hW2⟩ : ∃ W2, W2 = (w.alloc (.deferred (some []))).alloc (.loop rec) := ⟨_, rfl⟩
  rw [← hW2] at I2 S2 S
  have hent : (Instr.enterLoop fn a.tmps params assign body none).run P w = .ok (w.heap.size + 1, [{ target := .collected w.heap.size, args := #[] }]) W2 := by
    rw [hW2, hrec]; exact run_enterLoop_outer _ _ _ _ _
  refine ⟨w.heap.size + 1, [{ target := .collected w.heap.size, args := #[] }], W2, { target := .fn (.func F) vcap, args := #[.func (.yield (w.heap.size + 1)) #[] #[]] }, W2, F,
    #[.func (.yield (w.heap.size + 1)) #[] #[]] ++ vcap, W2, hent, ?_, fun _ _ => trivial, ?_, fun h => (by simp [FW] at h), ?_⟩
  · simp [resolve, hge, Deferred.ofValue]
    rfl
  · simp [invoke, run_callFunc hF]
  have hyc : ∀ k, k < n → YC P (w.heap.size + 1) rec s.t (xs k) (Ls k) (Ls (k + 1)) := by
    intro k hk
    refine ⟨by rw [hrec]; exact hlen k hk, fun γ w' vs hl hI ht ha ro => ?_⟩
    generalize hln : w.heap.size + 1 = l at *
    have hh := hI.ro _ _ hl
    have hlt : l < w'.heap.size := (Array.getElem?_eq_some_iff.1 hh).1
    have A := agrY_hush hl
    have hyk := hny k (by omega)
    have hyk1 := hny (k + 1) (by omega)
    have hIb : Inv (newG γ l .out) (Ls k) w' := hI.hush hl hyk fun b _ => rfl
    have hr0 : Rel (newG γ l .out) ⟨s.t, Ls k⟩ { tmps := rec.tmps, defers := [] } w' := ⟨.nil, by rw [hrec]; exact hr.size, fun i x hx => (ht i x hx).agrY A (noYL_mem.1 hnt x (List.mem_of_getElem? hx)), hIb⟩
    have hr1 := Rel.setP params.toList (xs k) vs.toList _ _ (by simp [ha.1]) (fun i x hx => by
      have := ha.2 i x hx
      have e : vs.toList.getD i undef = vs.getD i undef := by simp [List.getD_eq_getElem?_getD, Array.getD_eq_getD_getElem?]
      rw [e]
      exact this.agrY A (noYL_mem.1 (hnx k hk) x (List.mem_of_getElem? hx))) hr0
    have hfold : (rec.params.zip vs).foldl (fun t (p, v) => t.setIfInBounds p v) rec.tmps = (params.toList.zip vs.toList).foldl (fun t q => t.setIfInBounds q.1 q.2) rec.tmps := by
      rw [← Array.foldl_toList, Array.toList_zip, hrec]
    rw [hfold]
    have hfn : rec.fn = fn := by rw [hrec]
    have ha1 : rec.assign = assign := by rw [hrec]
    have hb1 : rec.body = body := by rw [hrec]
    rw [ha1, hb1]
    refine roundIn_of_wpIn trivial ?_
    refine wpIn_mono (hround k hk (some l) _ _ w' (.inr hpl.1) hr1) ?_
    rintro e a1 w1 ⟨γ1', s1, r1, e1, st1, q1⟩
    have hLs : (setP params.toList (xs k) ⟨s.t, Ls k⟩).L = Ls k := setP_L _ _ _
    rw [hLs] at e1
    cases e with
    | normal =>
      have hl1 := st1.out l hlt (newG_same _ _ _)
      have hh1 : w1.heap[l]? = some (.loop rec) := hl1.2.trans hh
      have hlt1 : l < w1.heap.size := (Array.getElem?_eq_some_iff.1 hh1).1
      refine ⟨_, run_beginRound hh1 (by rw [hrec]), ?_⟩
      have hw2 : ∀ (o : Obj) (w : World) (b : Nat), b ≠ l → (w.putObj l o).heap[b]? = w.heap[b]? := fun o w b hb => World.putObj_heap_other hb
      have r2 : Rel γ1' s1 a1 (w1.putObj l (.loop { rec with state := .busy })) := ⟨r1.defers, r1.size, r1.tmps, r1.inv.idle hl1.1 (hw2 _ _)⟩
      refine wpIn_mono (q1 (some l) γ1' a1 _ (.inr hpl.2) r2) ?_
      rintro e3 a3 w3 ⟨γ3, s3, r3, e3', st3, rfl, hL3⟩
      have hl3 := st3.out l (by rw [World.putObj_size]; exact hlt1) hl1.1
      have hh3 : w3.heap[l]? = some (.loop { rec with state := .busy }) := hl3.2.trans (World.putObj_heap_same hlt1)
      have hend := run_endRound (P := P) (none : Option Code) hh3
      refine ⟨_, _, hend, rfl, newG γ3 l (.ro (.loop rec)), ?_, ?_, ?_⟩
      · have hI3 := r3.inv
        rw [hL3] at hI3
        refine hI3.wake hl3.1 (hw2 _ _) ?_
        rw [World.putObj_heap_same (Array.getElem?_eq_some_iff.1 hh3).1, hrec]; rfl
      · have e13 := e1.trans e3'
        rw [hL3] at e13
        have A3 : Agr γ3 (newG γ3 l (.ro (.loop rec))) := agr_wake hl3.1
        refine ⟨fun b o hb => ?_, e13.ob, fun b id p c hb => ?_, fun id T sz g es T' sz' es' hL hL' p e4 he b c hb => (A.ow _ _ _ _).1 (e13.nil id T sz g es T' sz' es' hL hL' p e4 he b c ((A3.ow _ _ _ _).1 hb))⟩
        · by_cases hbl : b = l
          · subst hbl; rw [hl] at hb; cases hb; exact newG_same _ _ _
          · rw [newG_other hbl]; exact e13.ro b o (by rw [newG_other hbl]; exact hb)
        · exact (e13.lab b id p c ((A.ow _ _ _ _).2 hb)).imp (fun k => (A3.ow _ _ _ _).2 k) (fun k => k)
      · refine ⟨st3.os.trans st1.os, st3.tape.trans st1.tape, st3.output.trans st1.output, ?_, fun b o hb => ?_, fun b hb ho => ?_⟩
        · have h1 := st1.size
          have h2 := st3.size
          rw [World.putObj_size] at h2
          rw [World.putObj_size]; omega
        · by_cases hbl : b = l
          · subst hbl; rw [hl] at hb; cases hb; exact newG_same _ _ _
          · rw [newG_other hbl]; exact e3'.ro b o (e1.ro b o (by rw [newG_other hbl]; exact hb))
        · have hbl : b ≠ l := fun e => by rw [e, hl] at ho; cases ho
          obtain ⟨k1, k2⟩ := st1.out b hb (by rw [newG_other hbl]; exact ho)
          obtain ⟨k3, k4⟩ := st3.out b (by rw [World.putObj_size]; have := st1.size; omega) k1
          refine ⟨by rw [newG_other hbl]; exact k3, ?_⟩
          rw [hw2 _ _ b hbl, k4, hw2 _ _ b hbl, k2]
    | ret => exact q1.elim
    | exit id => exact q1.elim
    | goto id => exact q1.elim
    | panic c => exact q1.elim
    | outgrown => exact q1.elim
  have hct := hit (w.heap.size + 1) rec s.t hyc
  rw [h0] at I2 E2 E hts
  have hargs : ArgsR γ2 (Ls 0) (.yld (w.heap.size + 1) rec s.t :: cap) (#[.func (.yield (w.heap.size + 1)) #[] #[]] ++ vcap) := by
    refine ⟨by simp [hnc]; omega, fun i x hx => ?_⟩
    cases i with
    | zero =>
      simp only [List.getElem?_cons_zero, Option.some.injEq] at hx
      subst hx
      have : (#[Value.func (.yield (w.heap.size + 1)) #[] #[]] ++ vcap).getD 0 undef = .func (.yield (w.heap.size + 1)) #[] #[] := by simp [Array.getD_eq_getD_getElem?, Array.getElem?_append]
      rw [this]
      exact .yld _ _ _ hl2 hts
    | succ i =>
      simp only [List.getElem?_cons_succ] at hx
      have hv := hcap i x hx
      have : (#[Value.func (.yield (w.heap.size + 1)) #[] #[]] ++ vcap).getD (i + 1) undef = vcap.getD i undef := by
        simp [Array.getD_eq_getD_getElem?, Array.getElem?_append]
      rw [this]
      rw [h0] at hv
      exact hv.mono E
  refine (callsIn_FW (hct γ2 _ _ I2 hargs)).mono ?_
  rintro e w3 ⟨γ3, v, rfl, I3, _, E3, S3⟩
  have hl3 : γ3 (w.heap.size + 1) = .ro (.loop rec) := E3.ro _ _ hl2
  have hD3 : γ3 w.heap.size = .ro (.deferred (some [])) := E3.ro _ _ hD2
  have hh3 := I3.ro _ _ hl3
  have hend := run_endLoop (P := P) hh3 (by rw [hrec]; simp)
  have hpe : rec.pending = none := by rw [hrec]
  rw [hpe] at hend
  refine ⟨none, _, hend, newG γ3 (w.heap.size + 1) .out, ⟨s.t, Ls n⟩, ?_, ?_, ?_, hQ⟩
  · have E4 := E.trans E3
    have A := agrY_hush hl3
    refine ⟨?_, hr.size, fun i x hx => ?_, I3.hush hl3 (hny n (Nat.le_refl _)) fun b hb => World.putObj_heap_other hb⟩
    · obtain ⟨rs, h1, h2, h3⟩ := hr.defers
      have hlt : ∀ r ∈ rs, r < w.heap.size := fun r hm => (Array.getElem?_eq_some_iff.1 (hr.inv.ro _ _ (h3 r hm))).1
      refine ⟨w.heap.size :: rs, List.nodup_cons.2 ⟨fun hm => by have := hlt _ hm; omega, h1⟩, by rw [List.map_cons, ← h2]; rfl, fun r hm => ?_⟩
      rcases List.mem_cons.1 hm with rfl | hm
      · rw [newG_other (by omega)]; exact hD3
      · have := hlt r hm
        rw [newG_other (by omega)]; exact E4.ro _ _ (h3 r hm)
    · have hv := hr.tmps i x hx
      rw [h0] at hv
      exact (hv.mono E4).agrY A (noYL_mem.1 hnt x (List.mem_of_getElem? hx))
  · have E4 := E.trans E3
    have A := agrY_hush hl3
    refine ⟨fun b o hb => ?_, by rw [h0]; exact E4.ob, fun b id p c hb => ?_, fun id T sz g es T' sz' es' hL hL' p e4 he b c hb => ?_⟩
    · have hlt := (Array.getElem?_eq_some_iff.1 (hr.inv.ro _ _ hb)).1
      rw [newG_other (by omega)]; exact E4.ro b o hb
    · rw [h0]; exact (E4.lab b id p c hb).imp (fun k => (A.ow _ _ _ _).2 k) (fun k => k)
    · rw [h0] at hL; exact E4.nil id T sz g es T' sz' es' hL hL' p e4 he b c ((A.ow _ _ _ _).1 hb)
  · have S4 := S.trans S3
    refine ⟨S4.os, S4.tape, S4.output, by rw [World.putObj_size]; exact S4.size, fun b o hb => ?_, fun b hb ho => ?_⟩
    · have hlt := (Array.getElem?_eq_some_iff.1 (hr.inv.ro _ _ hb)).1
      rw [newG_other (by omega)]; exact S4.ro b o hb
    · obtain ⟨k1, k2⟩ := S4.out b hb ho
      rw [newG_other (by omega)]
      exact ⟨k1, (World.putObj_heap_other (by omega)).trans k2⟩

end Go.Proofs.Ytobdpkkmkbafbaa.K
/-
  A logic of values for Go's functions (part 29): pointers compared; a pointer turned to unsafe.Pointer and back; the bytes of a row as a string.
-/
namespace Go.Proofs.Ytobdpkkmkbafbaa.K
set_option linter.unusedVariables false
set_option linter.unusedSimpArgs false
open Go Go.RowKit
set_option maxRecDepth 8000

/-- One operation, told where nothing that is owned has changed. -/
theorem RunL.opC {P : Program} {k : Oper → Knd} {ops : Array Oper} {K : St → Prop} {o : Oper} {rest : List Oper} {s : St} {x : AV} {L' : List AObj}
    (hg : guardA ops s o = some true) (hkd : Knd.le .C (k o) = true) (hal : isAlloc k o = false)
    (h : ∀ s1 : St, s1.L = s.L → (∀ y ∈ o.op.operands, s1.ev y = s.ev y) → OpS P o s1 ({ s1 with L := L' }.put o.dst x)) (hk : R P k ops rest ({ s with L := L' }.put o.dst x) K) : RunL P k ops (o :: rest) s K := by
  refine .op ⟨.C, x, L'⟩ hkd ⟨⟨fun h _ => absurd h (by rw [hal]; exact Bool.false_ne_true), fun h => (nomatch h)⟩, fun s1 ha hL => ⟨by rw [agree_guard ha]; exact hg, ?_⟩⟩ (R.sound hk)
  exact h s1 hL fun y hy => agree_ev ha hy

theorem ptr_eqGuard {P : Program} {T : TypeId} (w : World) (ox oy : Operand) (op : BinOp) (a b : Option Addr) (hop : op = .eql ∨ op = .neq) : (eqGuard op T ox oy (.pointer a) (.pointer b)).run P w = .ok () w := by
  unfold eqGuard
  rcases hop with rfl | rfl <;> simp
theorem run_eqNil {P : Program} {T e : TypeId} (w : World) (ht : P.underlying T = some (.pointer e)) (a : Option Addr) (ox oy : Operand) :
    (do eqGuard .eql T ox oy (.pointer a) (.pointer none); binOp .eql T (.pointer a) (.pointer none) : Sem Value).run P w = .ok (.bool a.isNone) w := by
  have h1 : (Op.equalIn (9999 + 1) T (.pointer a) (.pointer none)).run P w = .ok a.isNone w := by
    unfold Op.equalIn
    simp only [Sem.run_bind, run_underlying ht, Result.andThen_ok]
    cases a <;> simp
  have he : Op.equal T (.pointer a) (.pointer none) = Op.equalIn Op.maxDepth T (.pointer a) (.pointer none) := rfl
  have hd : Op.maxDepth = 9999 + 1 := rfl
  rw [hd] at he
  simp only [Sem.run_bind, ptr_eqGuard w ox oy .eql a none (.inl rfl), Result.andThen_ok, binOp]
  rw [he]
  generalize Op.equalIn (9999 + 1) T (.pointer a) (.pointer none) = m at *
  simp [h1]

theorem eqNil_sound {P : Program} {o : Oper} {s : St} {T T2 e : TypeId} {x : Operand} {b : Bool} (ho : o.op = .binOp .eql T x (.const (.pointer none)) T2) (ht : P.underlying T = some (.pointer e))
    (hx : (s.ev x = .lit (.pointer none) ∧ b = true) ∨ ((∃ id off, s.ev x = .ptr id off) ∧ b = false)) : OpS P o s ({ s with L := s.L }.put o.dst (.bool b)) := by
  refine OpS.pure fun γ a w hr => ⟨.bool b, ?_, .bool b⟩
  have hv := hr.ev x
  have hc : a.eval (.const (.pointer none)) = .pointer none := rfl
  have key : ∃ q : Option Addr, a.eval x = .pointer q ∧ q.isNone = b := by
    rcases hx with ⟨hx, rfl⟩ | ⟨⟨id, off, hx⟩, rfl⟩
    · rw [hx] at hv
      generalize a.eval x = u at hv
      cases hv
      exact ⟨none, rfl, rfl⟩
    · rw [hx] at hv
      generalize a.eval x = u at hv
      cases hv
      exact ⟨_, rfl, rfl⟩
  obtain ⟨q, hq, hb⟩ := key
  have := run_eqNil (P := P) w ht q x (.const (.pointer none))
  unfold execOp
  rw [ho]
  simp only [hq, hc]
  simp only [Sem.run_bind] at this ⊢
  rw [hb] at this
  simp [this]

theorem neqSame_sound {P : Program} {o : Oper} {s : St} {T T2 e : TypeId} {x y : Operand} {id off : Nat} (ho : o.op = .binOp .neq T x y T2) (ht : P.underlying T = some (.pointer e)) (hi : (P.info? e).isSome = true)
    (hx : s.ev x = .ptr id off) (hy : s.ev y = .ptr id off) : OpS P o s ({ s with L := s.L }.put o.dst (.bool false)) := by
  refine OpS.pure fun γ a w hr => ⟨.bool false, ?_, .bool false⟩
  obtain ⟨j, hj⟩ := Option.isSome_iff_exists.1 hi
  have hv := hr.ev x
  have hu := hr.ev y
  rw [hx] at hv
  rw [hy] at hu
  generalize hxe : a.eval x = v at hv
  generalize hye : a.eval y = u at hu
  cases hv with
  | ptr _ _ b c T1 cs hL hb =>
    cases hu with
    | ptr _ _ b2 c2 T2 cs2 hL2 hb2 =>
      have hbb := hr.inv.inj _ _ _ _ _ _ hb hb2
      subst hbb
      have h1 := Lib.run_neq_ptr_same w ⟨b, off, none⟩ ht hj
      have h2 := ptr_eqGuard (P := P) (T := T) w x y .neq (some ⟨b, off, none⟩) (some ⟨b, off, none⟩) (.inr rfl)
      unfold execOp
      rw [ho]
      simp only [hxe, hye, Sem.run_bind, h2, Result.andThen_ok, h1]
      rfl

theorem Inv.shape {γ : Nat → Gh} {L : List AObj} {w : World} (h : Inv γ L w) {id b c : Nat} {T : TypeId} {cs : List AV} (hL : L[id]? = some (.box T cs)) (hb : γ b = .ow id [] c) :
    w.shape? b = some (T, cs.length) := by
  obtain ⟨o, ho, hr⟩ := h.ow b id [] c hb
  unfold BlockRep at hr
  rw [hL] at hr
  obtain ⟨_, arr, rfl, hs, _⟩ := hr
  simp [World.shape?, ho, hs]

theorem toUnsafe_sound {P : Program} {o : Oper} {s : St} {src dst t : TypeId} {x : Operand} {id off : Nat} {T : TypeId} {cs : List AV} (ho : o.op = .convert src dst x) (hs : P.underlying src = some (.pointer t)) (hd : P.underlying dst = some .unsafePointer)
    (ht : (P.info? t).isSome = true) (h0 : P.cellsOf t ≠ 0) (hx : s.ev x = .ptr id off) (hL : s.L[id]? = some (.box T cs)) (hoff : off < cs.length) : OpS P o s ({ s with L := s.L }.put o.dst (.ptr id off)) := by
  refine OpS.pure fun γ a w hr => ?_
  obtain ⟨j, hj, hsz⟩ := info_of ht
  have hv := hr.ev x
  rw [hx] at hv
  generalize hxe : a.eval x = v at hv
  cases hv with
  | ptr _ _ b c T1 cs1 hL1 hb =>
    have hsh := hr.inv.shape hL hb
    have h1 := Lib.run_to_unsafe w ⟨b, off, none⟩ hs hd hj (by rw [← hsz]; exact h0) hsh hoff
    refine ⟨.pointer (some ⟨b, off, none⟩), ?_, .ptr id off b c T1 cs1 hL1 hb⟩
    unfold execOp
    rw [ho]
    simp only [hxe, Sem.run_bind, h1, Result.andThen_ok, Sem.run_pure]

theorem fromUnsafe_sound {P : Program} {o : Oper} {s : St} {src dst u : TypeId} {x : Operand} {id : Nat} {T : TypeId} {cs : List AV} (ho : o.op = .convert src dst x) (hs : P.underlying src = some .unsafePointer) (hd : P.underlying dst = some (.pointer u))
    (hu : (P.info? u).isSome = true) (hx : s.ev x = .ptr id 0) (hL : s.L[id]? = some (.box T cs)) (hlies : liesAt P P.depth T (cs.length / P.cellsOf T) 0 u 1 = true) : OpS P o s ({ s with L := s.L }.put o.dst (.ptr id 0)) := by
  refine OpS.pure fun γ a w hr => ?_
  obtain ⟨j, hj, hsz⟩ := info_of hu
  have hv := hr.ev x
  rw [hx] at hv
  generalize hxe : a.eval x = v at hv
  cases hv with
  | ptr _ _ b c T1 cs1 hL1 hb =>
    have hsh := hr.inv.shape hL hb
    have h1 := Lib.run_from_unsafe w ⟨b, 0, none⟩ hs hd hj hsh hlies
    refine ⟨.pointer (some ⟨b, 0, none⟩), ?_, .ptr id 0 b c T1 cs1 hL1 hb⟩
    unfold execOp
    rw [ho]
    simp only [hxe, Sem.run_bind, h1, Result.andThen_ok, Sem.run_pure]

/-- A call of a function without a body that hands its argument back. -/
theorem noEscape_sound {P : Program} {o : Oper} {s : St} {f : FuncId} {fn : Func} {x : Operand} {ats : Array TypeId} (ho : o.op = .call { callee := .value (.func f), args := #[x], argTypes := ats }) (hf : P.funcs[f]? = some fn)
    (hname : (fn.name == "runtime.NumGoroutine") = false) (hb : fn.body.isNone = true) (hn : Extern.findNext fn = none) (he : Extern.find fn = some Extern.AbiNoEscape.same) : OpS P o s ({ s with L := s.L }.put o.dst (s.ev x)) := by
  refine OpS.pure fun γ a w hr => ⟨a.eval x, ?_, hr.ev x⟩
  have h1 := run_callFunc_extern hf hname hb hn he #[a.eval x] w
  rw [Lib.run_noEscape] at h1
  have hm : (#[x] : Array Operand).map a.eval = #[a.eval x] := by simp
  have hf0 : a.eval (.func f) = .func (.func f) #[] #[] := rfl
  generalize a.eval x = v at *
  unfold execOp
  rw [ho]
  simp [resolve, hm, hf0, Deferred.ofValue, invoke, h1, Result.andThen]

/-- The address of a row's first element. -/
theorem sliceData_sound {P : Program} {o : Oper} {s : St} {x : Operand} {ats : Array TypeId} {id g n : Nat} {T : TypeId} {es : List AV} (ho : o.op = .call { callee := .builtin .unsafeSliceData, args := #[x], argTypes := ats })
    (hx : s.ev x = .ref id [] g n) (hL : s.L[id]? = some (.vec T 1 g es)) (hn : 0 < n) (hes : ∀ e ∈ es, e.cells.length = 1) : OpS P o s (s.put o.dst (.eptr id [] g 0 0)) := by
  refine OpS.pure fun γ a w hr => ?_
  have hv := hr.ev x
  rw [hx] at hv
  generalize hxe : a.eval x = v at hv
  cases hv with
  | ref _ _ _ _ _ hok ho1 =>
    rw [RefOk, hL] at hok
    obtain ⟨es2, hs2, hle, hv⟩ := hok.2 rfl
    simp [sub] at hs2
    subst hs2
    rcases hv with ⟨rfl, rfl, _⟩ | ⟨b, c, rfl, hb⟩
    · simp at hle; omega
    · obtain ⟨arr, sz, T', harr, _, hasz, hlc, _, hrow⟩ := hr.inv.rowCell (es' := es) hL (by simp [sub]) hb
      have h1 := Lib.run_unsafeSliceData_row (P := P) w ats o.type ⟨b, 0, none⟩ n c (by omega)
      refine ⟨.pointer (some ⟨b, 0, none⟩), ?_, .eptr _ _ _ _ _ _ ?_ rfl⟩
      · unfold execOp
        rw [ho]
        simp [resolve, invoke, builtin, hxe, h1]
      · simp only [EptrOk, hL]
        have hlt : 0 < es.length := by omega
        exact ⟨Nat.le_refl _, fun _ => ⟨es, es[0], b, c, 1, by simp [sub], by simp [hlt], hes _ (List.getElem_mem hlt), hes, by simp, hb⟩⟩

theorem RunL.sliceData {P : Program} {k : Oper → Knd} {ops : Array Oper} {K : St → Prop} {o : Oper} {rest : List Oper} {s : St} {x : Operand} {ats : Array TypeId} {id g n : Nat} {T : TypeId} {es : List AV}
    (hg : guardA ops s o = some true) (ho : o.op = .call { callee := .builtin .unsafeSliceData, args := #[x], argTypes := ats }) (hkd : Knd.le .B (k o) = true) (hW : ∀ i, isW k i = false ∧ rowsAt k i = false)
    (hx : s.ev x = .ref id [] g n) (hL : s.L[id]? = some (.vec T 1 g es)) (hn : 0 < n) (hes : ∀ e ∈ es, e.cells.length = 1) (hk : R P k ops rest (s.put o.dst (.eptr id [] g 0 0)) K) : RunL P k ops (o :: rest) s K := by
  refine .op ⟨.B, .eptr id [] g 0 0, []⟩ hkd ⟨⟨fun _ h => (nomatch h), fun h => (nomatch h)⟩, fun s1 ha hL1 => ⟨by rw [agree_guard ha]; exact hg, ?_⟩⟩ (R.sound hk)
  obtain ⟨L0, X, hX, hlen, hS⟩ := hL1
  have e0 : L0 = s.L := by
    apply List.ext_getElem?
    intro i
    obtain ⟨w1, w2⟩ := hW i
    rcases hS i w1 with e | ⟨e, _⟩
    · exact e
    · rw [w2] at e; cases e
  subst e0
  have hx1 : s1.ev x = .ref id [] g n := by rw [agree_ev ha (by rw [ho]; simp [Op.operands, Call.operands])]; exact hx
  exact sliceData_sound (P := P) (s := s1) ho hx1 (by rw [hX, List.getElem?_append_left (List.getElem?_eq_some_iff.1 hL).1]; exact hL) hn hes

theorem freeze_heap (w : World) (b n k : Nat) (h : k ≠ b) : (w.freeze ⟨b, 0, none⟩ n).heap[k]? = w.heap[k]? := by
  unfold World.freeze
  split
  · rfl
  · simp [Array.getElem?_modify, Ne.symm h]
theorem freeze_rest (w : World) (b n : Nat) : (w.freeze ⟨b, 0, none⟩ n).os = w.os ∧ (w.freeze ⟨b, 0, none⟩ n).tape = w.tape ∧ (w.freeze ⟨b, 0, none⟩ n).output = w.output ∧ (w.freeze ⟨b, 0, none⟩ n).heap.size = w.heap.size := by
  unfold World.freeze
  split
  · exact ⟨rfl, rfl, rfl, rfl⟩
  · exact ⟨rfl, rfl, rfl, by simp⟩

/-- The row 'j' is given up; its block may have turned. -/
theorem Inv.drop {γ : Nat → Gh} {L : List AObj} {w w' : World} (hI : Inv γ L w) {j b0 c0 : Nat} {T : TypeId} {sz g : Nat} {es : List AV} (hj : L[j]? = some (.vec T sz g es)) (hb0 : γ b0 = .ow j [] c0)
    (hw : ∀ k : Nat, k ≠ b0 → w'.heap[k]? = w.heap[k]?) (hr : w'.os = w.os ∧ w'.tape = w.tape ∧ w'.output = w.output ∧ w'.heap.size = w.heap.size) :
    ∃ γ', Inv γ' (L.set j .dead) w' ∧ Ext γ L γ' (L.set j .dead) ∧ Stp γ w γ' w' := by
  have hjl := (List.getElem?_eq_some_iff.1 hj).1
  let γ' : Nat → Gh := fun b => match γ b with | .ow id p c => if id = j then .out else .ow id p c | x => x
  have hA : ∀ {b id p c}, γ b = .ow id p c → id ≠ j → γ' b = .ow id p c := by
    intro b id p c hb hne; simp [γ', hb, hne]
  have h3 : ∀ {b id p c}, γ' b = .ow id p c → γ b = .ow id p c ∧ id ≠ j := by
    intro b id p c hb
    cases hg : γ b with
    | ow id' p' c' =>
      by_cases hij : id' = j
      · simp [γ', hg, hij] at hb
      · simp [γ', hg, hij] at hb; obtain ⟨rfl, rfl, rfl⟩ := hb; exact ⟨rfl, hij⟩
    | out => simp [γ', hg] at hb
    | ro o => simp [γ', hg] at hb
  have h4 : ∀ b o, γ' b = .ro o ↔ γ b = .ro o := by
    intro b o
    cases hg : γ b with
    | ow id' p' c' => by_cases hij : id' = j <;> simp [γ', hg, hij]
    | out => simp [γ', hg]
    | ro o => simp [γ', hg]
  have hset : ∀ {id : Nat}, id ≠ j → (L.set j AObj.dead)[id]? = L[id]? := fun {id} hne => List.getElem?_set_ne (fun e => hne e.symm)
  have hself : (L.set j AObj.dead)[j]? = some .dead := List.getElem?_set_self hjl
  have hE : Ext γ L γ' (L.set j .dead) := by
    refine ⟨fun b o hb => (h4 b o).2 hb, fun id o hL => ?_, fun b id p c hb => ?_, fun id T1 sz1 g1 es1 T' sz' es' hL hL' p e1 _ b c hb => (h3 hb).1⟩
    · by_cases hij : id = j
      · subst hij; rw [hj] at hL; cases hL; exact ⟨_, hself, trivial⟩
      · exact ⟨o, by rw [hset hij]; exact hL, OStep.refl o⟩
    · by_cases hij : id = j
      · subst hij
        refine .inr fun o hL => ?_
        rw [hj] at hL; cases hL
        exact ⟨_, _, _, _, rfl, fun T' sz' es' hL' => by rw [hself] at hL'; cases hL'⟩
      · exact .inl (hA hb hij)
  have hne : ∀ {b id p c}, γ b = .ow id p c → id ≠ j → b ≠ b0 := fun hb hij e => by rw [e, hb0] at hb; cases hb; exact hij rfl
  refine ⟨γ', ⟨fun b o hb => ?_, fun b id p c hb => ?_, fun b b' id p c c' hb hb' => hI.inj _ _ _ _ _ _ (h3 hb).1 (h3 hb').1, fun id T cs hL => ?_, fun id kt vt es hL => ?_⟩, hE, ?_⟩
  · have hb := (h4 b o).1 hb
    rw [hw b (fun e => by rw [e, hb0] at hb; cases hb)]; exact hI.ro b o hb
  · obtain ⟨hb1, hij⟩ := h3 hb
    obtain ⟨o, ho, hrep⟩ := hI.ow _ _ _ _ hb1
    exact ⟨o, by rw [hw b (hne hb1 hij)]; exact ho, BlockRep.keep hE (hset hij) (fun b p c hb => hA hb hij) (fun b p c hb => (h3 hb).1) hrep⟩
  · by_cases hij : id = j
    · subst hij; rw [hself] at hL; cases hL
    · rw [hset hij] at hL
      obtain ⟨b, c, hb⟩ := hI.box _ _ _ hL
      exact ⟨b, c, hA hb hij⟩
  · by_cases hij : id = j
    · subst hij; rw [hself] at hL; cases hL
    · rw [hset hij] at hL
      obtain ⟨b, c, hb⟩ := hI.map _ _ _ _ hL
      exact ⟨b, c, hA hb hij⟩
  · refine ⟨hr.1, hr.2.1, hr.2.2.1, by rw [hr.2.2.2]; exact Nat.le_refl _, hE.ro, fun b hb ho => ?_⟩
    exact ⟨by simp [γ', ho], hw b (fun e => by rw [e, hb0] at ho; cases ho)⟩

/-- The bytes of a row as a string: the row is not written any more. -/
theorem unsafeString_sound {P : Program} {o : Oper} {s : St} {x y : Operand} {pt it : TypeId} {id g : Nat} {T : TypeId} {l : List UInt8} (ho : o.op = .call { callee := .builtin .unsafeString, args := #[x, y], argTypes := #[pt, it] })
    (hx : s.ev x = .eptr id [] g 0 0) (hy : s.ev y = .int .i64 l.length) (hL : s.L[id]? = some (.vec T 1 g (l.map fun b => AV.int .u8 b.toNat))) (hp : P.underlying pt = some (.pointer T)) (hc : P.cellsOf T = 1) (h0 : l ≠ []) :
    OpS P o s ({ s with L := s.L.set id .dead }.put o.dst (.str ⟨l.toArray⟩)) := by
  intro γ a w K Q hr hK
  refine .inl ?_
  have hv := hr.ev x
  have hu := hr.ev y
  rw [hx] at hv
  rw [hy] at hu
  generalize hxe : a.eval x = v at hv
  generalize hye : a.eval y = u at hu
  cases hu
  cases hv with
  | eptr _ _ _ _ _ _ hok ho1 =>
    rw [EptrOk, hL] at hok
    obtain ⟨es', e, b, c, sz, hs, he, hel, hall, rfl, hb⟩ := hok.2 rfl
    simp [sub] at hs
    subst hs
    obtain ⟨arr, sz2, T', harr, hTs, hasz, hlc, hcm, hrow⟩ := hr.inv.rowCell (es' := l.map fun b => AV.int .u8 b.toNat) hL (by simp [sub]) hb
    obtain ⟨hT, hsz2⟩ := hTs rfl
    subst hT hsz2
    have hb2 : w.heap[b]? = some (.cells arr T' (0, 0)) := harr
    simp only [List.length_map] at hlc
    have hsh : w.shape? b = some (T', arr.size) := by simp [World.shape?, hb2]
    have hcm2 : c ≤ 9223372036854775807 := by unfold maxLen at hcm; omega
    have hrun := Lib.run_unsafeString_row (P := P) w pt it o.type T' hp hc b arr.size hsh l h0 (by rw [hasz]; omega) (by omega) (fun j q hq => by
      have hq' : (l.map fun b => AV.int .u8 b.toNat)[j]? = some (.int .u8 q.toNat) := by rw [List.getElem?_map, hq]; rfl
      obtain ⟨v, hv1, _, hv2⟩ := hrow.2 j _ 0 (.int .u8 q.toNat) hq' rfl
      have hv3 : v = .int .u8 q.toNat := by
        have : RV γ s.L (.int .u8 q.toNat) v := hv2
        cases this; rfl
      subst hv3
      have hadd : (⟨b, 0, none⟩ : Addr).add j = ⟨b, j, none⟩ := by unfold Addr.add; split <;> simp_all
      rw [hadd]
      simp only [Nat.mul_one, Nat.add_zero] at hv1
      simp [World.cell?, hb2, hv1])
    obtain ⟨γ', hI', hE, hS⟩ := hr.inv.drop (w' := w.freeze ⟨b, 0, none⟩ l.length) hL hb (fun k hk => freeze_heap w b _ k hk) (freeze_rest w b _)
    unfold Oper.wp execOp
    have ha0 : (0 * sz + 0 : Nat) = 0 := by simp
    rw [ha0] at hxe
    simp only [ho, resolve, invoke, builtin, Sem.run_bind, Sem.run_pure, Result.andThen_ok, List.map_toArray, List.map_cons, List.map_nil, hxe, hye, hrun]
    exact hK γ' _ _ ((hr.mono hE hI').put o.dst (.str _)) (by rw [St.put_L]; exact hE) hS

end Go.Proofs.Ytobdpkkmkbafbaa.K
/-
  A logic of values for Go's functions (part 16): all rules of the steps in one.
-/
namespace Go.Proofs.Ytobdpkkmkbafbaa
open Go
set_option linter.unusedVariables false

theorem K.run0 :
    (((((type_of% @K.W.eq_1) ∧ (type_of% @K.W.eq_2)) ∧ ((type_of% @K.W.eq_3) ∧ (type_of% @K.W.eq_4))) ∧ (((type_of% @K.W.eq_5) ∧ (type_of% @K.W.eq_6)) ∧ ((type_of% @K.W.eq_7) ∧ (type_of% @K.W.eq_8)))) ∧ ((((type_of% @K.W.eq_9) ∧ (type_of% @K.Wc_true)) ∧ ((type_of% @K.Wc_false) ∧ (type_of% @K.R.eq_1))) ∧ (((type_of% @K.R.eq_2) ∧ (type_of% @K.Rg_true)) ∧ ((type_of% @K.Rg_false) ∧ (type_of% @K.Rg_none))))) :=
  ⟨⟨⟨⟨@K.W.eq_1, @K.W.eq_2⟩, ⟨@K.W.eq_3, @K.W.eq_4⟩⟩, ⟨⟨@K.W.eq_5, @K.W.eq_6⟩, ⟨@K.W.eq_7, @K.W.eq_8⟩⟩⟩, ⟨⟨⟨@K.W.eq_9, @K.Wc_true⟩, ⟨@K.Wc_false, @K.R.eq_1⟩⟩, ⟨⟨@K.R.eq_2, @K.Rg_true⟩, ⟨@K.Rg_false, @K.Rg_none⟩⟩⟩⟩

theorem K.run1 :
    (((((type_of% @K.Rs_some) ∧ (type_of% @K.Rs_none)) ∧ ((type_of% @K.guardA.eq_1) ∧ (type_of% @K.stepD.eq_1))) ∧ (((type_of% @K.app_A) ∧ (type_of% @K.app_B)) ∧ ((type_of% @K.app_C) ∧ (type_of% @K.kindP.eq_1)))) ∧ ((((type_of% @K.kindP.eq_2) ∧ (type_of% @K.kindP.eq_3)) ∧ ((type_of% @K.kindP.eq_4) ∧ (type_of% @K.kindP.eq_5))) ∧ (((type_of% @K.kindP.eq_6) ∧ (type_of% @K.kindP.eq_7)) ∧ ((type_of% @K.kindP.eq_8) ∧ (type_of% @K.kindP.eq_9))))) :=
  ⟨⟨⟨⟨@K.Rs_some, @K.Rs_none⟩, ⟨@K.guardA.eq_1, @K.stepD.eq_1⟩⟩, ⟨⟨@K.app_A, @K.app_B⟩, ⟨@K.app_C, @K.kindP.eq_1⟩⟩⟩, ⟨⟨⟨@K.kindP.eq_2, @K.kindP.eq_3⟩, ⟨@K.kindP.eq_4, @K.kindP.eq_5⟩⟩, ⟨⟨@K.kindP.eq_6, @K.kindP.eq_7⟩, ⟨@K.kindP.eq_8, @K.kindP.eq_9⟩⟩⟩⟩

theorem K.run2 :
    (((((type_of% @K.kindP.eq_10) ∧ (type_of% @K.kindP.eq_11)) ∧ ((type_of% @K.kindP.eq_12) ∧ (type_of% @K.kindP.eq_13))) ∧ (((type_of% @K.kindP.eq_14) ∧ (type_of% @K.kindP.eq_15)) ∧ ((type_of% @K.kindP.eq_16) ∧ (type_of% @K.kindP.eq_17)))) ∧ ((((type_of% @K.kindP.eq_18) ∧ (type_of% @K.kindP.eq_19)) ∧ ((type_of% @K.le_A) ∧ (type_of% @K.le_any))) ∧ (((type_of% @K.le_BB) ∧ (type_of% @K.le_BC)) ∧ ((type_of% @K.le_CC) ∧ (type_of% @K.kindE.eq_1))))) :=
  ⟨⟨⟨⟨@K.kindP.eq_10, @K.kindP.eq_11⟩, ⟨@K.kindP.eq_12, @K.kindP.eq_13⟩⟩, ⟨⟨@K.kindP.eq_14, @K.kindP.eq_15⟩, ⟨@K.kindP.eq_16, @K.kindP.eq_17⟩⟩⟩, ⟨⟨⟨@K.kindP.eq_18, @K.kindP.eq_19⟩, ⟨@K.le_A, @K.le_any⟩⟩, ⟨⟨@K.le_BB, @K.le_BC⟩, ⟨@K.le_CC, @K.kindE.eq_1⟩⟩⟩⟩

theorem K.run3 :
    (((((type_of% @K.pureA.eq_1) ∧ (type_of% @K.pureA.eq_2)) ∧ ((type_of% @K.pureA.eq_3) ∧ (type_of% @K.pureA.eq_4))) ∧ (((type_of% @K.pureA.eq_5) ∧ (type_of% @K.pureA.eq_6)) ∧ ((type_of% @K.pureA.eq_7) ∧ (type_of% @K.pureA.eq_8)))) ∧ ((((type_of% @K.pureA.eq_9) ∧ (type_of% @K.pureA.eq_10)) ∧ ((type_of% @K.pureA.eq_11) ∧ (type_of% @K.pureA.eq_12))) ∧ (((type_of% @K.pureA.eq_13) ∧ (type_of% @K.pureA.eq_14)) ∧ ((type_of% @K.pureA.eq_15) ∧ (type_of% @K.pureA.eq_16))))) :=
  ⟨⟨⟨⟨@K.pureA.eq_1, @K.pureA.eq_2⟩, ⟨@K.pureA.eq_3, @K.pureA.eq_4⟩⟩, ⟨⟨@K.pureA.eq_5, @K.pureA.eq_6⟩, ⟨@K.pureA.eq_7, @K.pureA.eq_8⟩⟩⟩, ⟨⟨⟨@K.pureA.eq_9, @K.pureA.eq_10⟩, ⟨@K.pureA.eq_11, @K.pureA.eq_12⟩⟩, ⟨⟨@K.pureA.eq_13, @K.pureA.eq_14⟩, ⟨@K.pureA.eq_15, @K.pureA.eq_16⟩⟩⟩⟩

theorem K.run4 :
    (((((type_of% @K.pureA.eq_17) ∧ (type_of% @K.pureA.eq_18)) ∧ ((type_of% @K.St.put.eq_1) ∧ (type_of% @K.St.put.eq_2))) ∧ (((type_of% @K.St.ev.eq_1) ∧ (type_of% @K.St.ev.eq_2)) ∧ ((type_of% @K.St.ev.eq_3) ∧ (type_of% @K.St.ev.eq_4)))) ∧ ((((type_of% @List.set_cons_zero.{0}) ∧ (type_of% @List.set_cons_succ.{0})) ∧ ((type_of% @K.absV.eq_1) ∧ (type_of% @K.absV.eq_2))) ∧ (((type_of% @K.absV.eq_3) ∧ (type_of% @K.absV.eq_4)) ∧ ((type_of% @List.getD_cons_zero.{0}) ∧ (type_of% @List.getD_cons_succ.{0}))))) :=
  ⟨⟨⟨⟨@K.pureA.eq_17, @K.pureA.eq_18⟩, ⟨@K.St.put.eq_1, @K.St.put.eq_2⟩⟩, ⟨⟨@K.St.ev.eq_1, @K.St.ev.eq_2⟩, ⟨@K.St.ev.eq_3, @K.St.ev.eq_4⟩⟩⟩, ⟨⟨⟨@List.set_cons_zero.{0}, @List.set_cons_succ.{0}⟩, ⟨@K.absV.eq_1, @K.absV.eq_2⟩⟩, ⟨⟨@K.absV.eq_3, @K.absV.eq_4⟩, ⟨@List.getD_cons_zero.{0}, @List.getD_cons_succ.{0}⟩⟩⟩⟩

theorem K.run5 :
    (((((type_of% @K.binA.eq_1) ∧ (type_of% @K.binA.eq_2)) ∧ ((type_of% @K.binA.eq_3) ∧ (type_of% @K.binA.eq_4))) ∧ (((type_of% @K.binA.eq_5) ∧ (type_of% @K.binA.eq_6)) ∧ ((type_of% @K.binA.eq_7) ∧ (type_of% @K.binA.eq_8)))) ∧ ((((type_of% @K.binA.eq_9) ∧ (type_of% @K.intA.eq_1)) ∧ ((type_of% @K.intA.eq_2) ∧ (type_of% @K.intA.eq_3))) ∧ (((type_of% @K.intA.eq_4) ∧ (type_of% @K.intA.eq_5)) ∧ ((type_of% @K.intA.eq_6) ∧ (type_of% @K.intA.eq_7))))) :=
  ⟨⟨⟨⟨@K.binA.eq_1, @K.binA.eq_2⟩, ⟨@K.binA.eq_3, @K.binA.eq_4⟩⟩, ⟨⟨@K.binA.eq_5, @K.binA.eq_6⟩, ⟨@K.binA.eq_7, @K.binA.eq_8⟩⟩⟩, ⟨⟨⟨@K.binA.eq_9, @K.intA.eq_1⟩, ⟨@K.intA.eq_2, @K.intA.eq_3⟩⟩, ⟨⟨@K.intA.eq_4, @K.intA.eq_5⟩, ⟨@K.intA.eq_6, @K.intA.eq_7⟩⟩⟩⟩

theorem K.run6 :
    (((((type_of% @K.intA.eq_8) ∧ (type_of% @K.intA.eq_9)) ∧ ((type_of% @K.intA.eq_10) ∧ (type_of% @K.intA.eq_11))) ∧ (((type_of% @K.intA.eq_12) ∧ (type_of% @K.intA.eq_13)) ∧ ((type_of% @K.intA.eq_14) ∧ (type_of% @K.intA.eq_15)))) ∧ ((((type_of% @K.intA.eq_16) ∧ (type_of% @K.unA.eq_1)) ∧ ((type_of% @K.unA.eq_2) ∧ (type_of% @K.unA.eq_3))) ∧ (((type_of% @K.unA.eq_4) ∧ (type_of% @K.unA.eq_5)) ∧ ((type_of% @K.unA.eq_6) ∧ (type_of% @if_true.{1}))))) :=
  ⟨⟨⟨⟨@K.intA.eq_8, @K.intA.eq_9⟩, ⟨@K.intA.eq_10, @K.intA.eq_11⟩⟩, ⟨⟨@K.intA.eq_12, @K.intA.eq_13⟩, ⟨@K.intA.eq_14, @K.intA.eq_15⟩⟩⟩, ⟨⟨⟨@K.intA.eq_16, @K.unA.eq_1⟩, ⟨@K.unA.eq_2, @K.unA.eq_3⟩⟩, ⟨⟨@K.unA.eq_4, @K.unA.eq_5⟩, ⟨@K.unA.eq_6, @if_true.{1}⟩⟩⟩⟩

theorem K.run7 :
    (((((type_of% @if_true.{0}) ∧ (type_of% @K.ExThen_normal)) ∧ ((type_of% @K.ExThen_ret) ∧ (type_of% @K.ExThen_exit))) ∧ (((type_of% @K.ExBlock_normal) ∧ (type_of% @K.ExBlock_ret)) ∧ ((type_of% @K.ExBlock_exit) ∧ (type_of% @K.St.init.eq_1)))) ∧ ((((type_of% @List.length_cons.{0}) ∧ (type_of% @List.length_nil.{0})) ∧ ((type_of% @List.replicate.eq_1.{0}) ∧ (type_of% @List.replicate.eq_2.{0}))) ∧ (((type_of% @List.cons_append.{0}) ∧ (type_of% @List.nil_append.{0})) ∧ ((type_of% @List.getElem?_cons_zero.{0}) ∧ (type_of% @List.getElem?_cons_succ.{0}))))) :=
  ⟨⟨⟨⟨@if_true.{0}, @K.ExThen_normal⟩, ⟨@K.ExThen_ret, @K.ExThen_exit⟩⟩, ⟨⟨@K.ExBlock_normal, @K.ExBlock_ret⟩, ⟨@K.ExBlock_exit, @K.St.init.eq_1⟩⟩⟩, ⟨⟨⟨@List.length_cons.{0}, @List.length_nil.{0}⟩, ⟨@List.replicate.eq_1.{0}, @List.replicate.eq_2.{0}⟩⟩, ⟨⟨@List.cons_append.{0}, @List.nil_append.{0}⟩, ⟨@List.getElem?_cons_zero.{0}, @List.getElem?_cons_succ.{0}⟩⟩⟩⟩

theorem K.run8 :
    (((((type_of% @K.FnEnd_normal) ∧ (type_of% @K.FnEnd_ret)) ∧ ((type_of% @K.resA.eq_1) ∧ (type_of% @K.resOne.eq_1))) ∧ (((type_of% @K.resOne.eq_2) ∧ (type_of% @if_false.{1})) ∧ ((type_of% @if_false.{0}) ∧ (type_of% @Option.bind_some.{0, 0})))) ∧ ((((type_of% @K.AV.solid.eq_1) ∧ (type_of% @K.AV.solid.eq_2)) ∧ ((type_of% @K.AV.solid.eq_3) ∧ (type_of% @K.AV.cells.eq_1))) ∧ (((type_of% @K.AV.cells.eq_2) ∧ (type_of% @K.storeA.eq_1)) ∧ ((type_of% @K.storeA.eq_2) ∧ (type_of% @K.loadA.eq_1))))) :=
  ⟨⟨⟨⟨@K.FnEnd_normal, @K.FnEnd_ret⟩, ⟨@K.resA.eq_1, @K.resOne.eq_1⟩⟩, ⟨⟨@K.resOne.eq_2, @if_false.{1}⟩, ⟨@if_false.{0}, @Option.bind_some.{0, 0}⟩⟩⟩, ⟨⟨⟨@K.AV.solid.eq_1, @K.AV.solid.eq_2⟩, ⟨@K.AV.solid.eq_3, @K.AV.cells.eq_1⟩⟩, ⟨⟨@K.AV.cells.eq_2, @K.storeA.eq_1⟩, ⟨@K.storeA.eq_2, @K.loadA.eq_1⟩⟩⟩⟩

theorem K.run9 :
    (((((type_of% @K.loadA.eq_2) ∧ (type_of% @K.loadA.eq_3)) ∧ ((type_of% @K.loadA.eq_4) ∧ (type_of% @K.takeA.eq_1))) ∧ (((type_of% @K.pickA.eq_1) ∧ (type_of% @K.pickA.eq_2)) ∧ ((type_of% @K.funcA.eq_1) ∧ (type_of% @K.funcA.eq_2)))) ∧ ((((type_of% @K.callA.eq_1) ∧ (type_of% @K.extractA.eq_1)) ∧ ((type_of% @K.extractA.eq_2) ∧ (type_of% @Option.some.injEq.{0}))) ∧ (((type_of% @exists_eq_left'.{1}) ∧ (type_of% @exists_eq_left'.{0})) ∧ ((type_of% @true_and) ∧ (type_of% @and_true))))) :=
  ⟨⟨⟨⟨@K.loadA.eq_2, @K.loadA.eq_3⟩, ⟨@K.loadA.eq_4, @K.takeA.eq_1⟩⟩, ⟨⟨@K.pickA.eq_1, @K.pickA.eq_2⟩, ⟨@K.funcA.eq_1, @K.funcA.eq_2⟩⟩⟩, ⟨⟨⟨@K.callA.eq_1, @K.extractA.eq_1⟩, ⟨@K.extractA.eq_2, @Option.some.injEq.{0}⟩⟩, ⟨⟨@exists_eq_left'.{1}, @exists_eq_left'.{0}⟩, ⟨@true_and, @and_true⟩⟩⟩⟩

theorem K.run10 :
    (((((type_of% @forall_const.{1}) ∧ (type_of% @forall_const.{0})) ∧ ((type_of% @true_implies) ∧ (type_of% @List.map_cons.{0, 0}))) ∧ (((type_of% @List.map_nil.{0, 0}) ∧ (type_of% @List.getElem?_toArray.{0})) ∧ ((type_of% @beq_true) ∧ (type_of% @beq_false)))) ∧ ((((type_of% @Bool.not_eq_true') ∧ (type_of% @Bool.not_eq_false')) ∧ ((type_of% @Option.isSome_some.{0}) ∧ (type_of% @Option.isSome_none.{0}))) ∧ (((type_of% @Bool.cond_false_right) ∧ (type_of% @Bool.cond_true_left)) ∧ ((type_of% @Bool.not_not) ∧ (type_of% @false_implies))))) :=
  ⟨⟨⟨⟨@forall_const.{1}, @forall_const.{0}⟩, ⟨@true_implies, @List.map_cons.{0, 0}⟩⟩, ⟨⟨@List.map_nil.{0, 0}, @List.getElem?_toArray.{0}⟩, ⟨@beq_true, @beq_false⟩⟩⟩, ⟨⟨⟨@Bool.not_eq_true', @Bool.not_eq_false'⟩, ⟨@Option.isSome_some.{0}, @Option.isSome_none.{0}⟩⟩, ⟨⟨@Bool.cond_false_right, @Bool.cond_true_left⟩, ⟨@Bool.not_not, @false_implies⟩⟩⟩⟩

theorem K.run11 :
    (((((type_of% @implies_true.{1}) ∧ (type_of% @implies_true.{0})) ∧ ((type_of% @Bool.true_eq_false) ∧ (type_of% @Bool.false_eq_true))) ∧ (((type_of% @beq_self_eq_true.{0}) ∧ (type_of% @Bool.not_true)) ∧ ((type_of% @Bool.not_false) ∧ (type_of% @Bool.true_beq)))) ∧ ((((type_of% @Bool.false_beq) ∧ (type_of% @and_self)) ∧ ((type_of% @List.drop_zero.{0}) ∧ (type_of% @List.drop_succ_cons.{0}))) ∧ (((type_of% @List.take_zero.{0}) ∧ (type_of% @List.take_succ_cons.{0})) ∧ ((type_of% @List.drop_nil.{0}) ∧ (type_of% @List.take_nil.{0}))))) :=
  ⟨⟨⟨⟨@implies_true.{1}, @implies_true.{0}⟩, ⟨@Bool.true_eq_false, @Bool.false_eq_true⟩⟩, ⟨⟨@beq_self_eq_true.{0}, @Bool.not_true⟩, ⟨@Bool.not_false, @Bool.true_beq⟩⟩⟩, ⟨⟨⟨@Bool.false_beq, @and_self⟩, ⟨@List.drop_zero.{0}, @List.drop_succ_cons.{0}⟩⟩, ⟨⟨@List.take_zero.{0}, @List.take_succ_cons.{0}⟩, ⟨@List.drop_nil.{0}, @List.take_nil.{0}⟩⟩⟩⟩

theorem K.run12 :
    (((((type_of% @Nat.zero_add) ∧ (type_of% @Nat.add_zero)) ∧ ((type_of% @K.fieldAddrA.eq_1) ∧ (type_of% @K.fieldA.eq_1))) ∧ (((type_of% @K.fieldA.eq_2) ∧ (type_of% @List.set_nil.{0})) ∧ ((type_of% @cond_true.{1}) ∧ (type_of% @cond_true.{0})))) ∧ ((((type_of% @cond_false.{1}) ∧ (type_of% @cond_false.{0})) ∧ ((type_of% @Nat.le_refl) ∧ (type_of% @K.buildA.eq_1))) ∧ (((type_of% @K.fillA.eq_1) ∧ (type_of% @K.fillA.eq_2)) ∧ ((type_of% @List.all_cons.{0}) ∧ (type_of% @List.all_nil.{0}))))) :=
  ⟨⟨⟨⟨@Nat.zero_add, @Nat.add_zero⟩, ⟨@K.fieldAddrA.eq_1, @K.fieldA.eq_1⟩⟩, ⟨⟨@K.fieldA.eq_2, @List.set_nil.{0}⟩, ⟨@cond_true.{1}, @cond_true.{0}⟩⟩⟩, ⟨⟨⟨@cond_false.{1}, @cond_false.{0}⟩, ⟨@Nat.le_refl, @K.buildA.eq_1⟩⟩, ⟨⟨@K.fillA.eq_1, @K.fillA.eq_2⟩, ⟨@List.all_cons.{0}, @List.all_nil.{0}⟩⟩⟩⟩

theorem K.run13 :
    (((((type_of% @List.getElem?_nil.{0}) ∧ (type_of% @Option.map_some.{0, 0})) ∧ ((type_of% @decide_true) ∧ (type_of% @decide_false))) ∧ (((type_of% @ne_eq.{1}) ∧ (type_of% @ne_eq.{0})) ∧ ((type_of% @not_true_eq_false) ∧ (type_of% @not_false_eq_true)))) ∧ ((((type_of% @or_self) ∧ (type_of% @or_false)) ∧ ((type_of% @false_or) ∧ (type_of% @and_false))) ∧ (((type_of% @false_and) ∧ (type_of% @Nat.not_lt_zero)) ∧ ((type_of% @gt_iff_lt.{0}) ∧ (type_of% @List.length_append.{0}))))) :=
  ⟨⟨⟨⟨@List.getElem?_nil.{0}, @Option.map_some.{0, 0}⟩, ⟨@decide_true, @decide_false⟩⟩, ⟨⟨@ne_eq.{1}, @ne_eq.{0}⟩, ⟨@not_true_eq_false, @not_false_eq_true⟩⟩⟩, ⟨⟨⟨@or_self, @or_false⟩, ⟨@false_or, @and_false⟩⟩, ⟨⟨@false_and, @Nat.not_lt_zero⟩, ⟨@gt_iff_lt.{0}, @List.length_append.{0}⟩⟩⟩⟩

theorem K.run14 :
    (((((type_of% @List.length_take.{0}) ∧ (type_of% @List.length_drop.{0})) ∧ ((type_of% @List.length_map.{0, 0}) ∧ (type_of% @List.length_set.{0}))) ∧ (((type_of% @K.mmA.eq_1) ∧ (type_of% @K.mmA.eq_2)) ∧ ((type_of% @K.lenA.eq_1) ∧ (type_of% @K.lenA.eq_2)))) ∧ ((((type_of% @K.lenA.eq_3) ∧ (type_of% @K.lenA.eq_4)) ∧ ((type_of% @K.lenA.eq_5) ∧ (type_of% @Bool.and_true))) ∧ (((type_of% @Bool.and_self) ∧ (type_of% @List.append_nil.{0})) ∧ ((type_of% @Option.map_none.{0, 0}) ∧ (type_of% @K.boundA.eq_1))))) :=
  ⟨⟨⟨⟨@List.length_take.{0}, @List.length_drop.{0}⟩, ⟨@List.length_map.{0, 0}, @List.length_set.{0}⟩⟩, ⟨⟨@K.mmA.eq_1, @K.mmA.eq_2⟩, ⟨@K.lenA.eq_1, @K.lenA.eq_2⟩⟩⟩, ⟨⟨⟨@K.lenA.eq_3, @K.lenA.eq_4⟩, ⟨@K.lenA.eq_5, @Bool.and_true⟩⟩, ⟨⟨@Bool.and_self, @List.append_nil.{0}⟩, ⟨@Option.map_none.{0, 0}, @K.boundA.eq_1⟩⟩⟩⟩

theorem K.run15 :
    (((((type_of% @K.boundA.eq_2) ∧ (type_of% @K.boundA.eq_3)) ∧ ((type_of% @List.all_toArray.{0}) ∧ (type_of% @List.all_toArray'.{0}))) ∧ (((type_of% @List.size_toArray.{0}) ∧ (type_of% @Go.Value.cells.eq_1)) ∧ ((type_of% @Go.Value.cells.eq_2) ∧ (type_of% @Go.Value.oneCell'.eq_1)))) ∧ ((((type_of% @Go.Value.oneCell'.eq_2) ∧ (type_of% @Go.Value.oneCell'.eq_3)) ∧ ((type_of% @List.mapM_cons.{0, 0, 0}) ∧ (type_of% @List.mapM_nil.{0, 0, 0}))) ∧ (((type_of% @Option.pure_def.{0}) ∧ (type_of% @Option.bind_eq_bind.{0})) ∧ ((type_of% @K.litA.eq_1) ∧ (type_of% @K.elemA.eq_1))))) :=
  ⟨⟨⟨⟨@K.boundA.eq_2, @K.boundA.eq_3⟩, ⟨@List.all_toArray.{0}, @List.all_toArray'.{0}⟩⟩, ⟨⟨@List.size_toArray.{0}, @Go.Value.cells.eq_1⟩, ⟨@Go.Value.cells.eq_2, @Go.Value.oneCell'.eq_1⟩⟩⟩, ⟨⟨⟨@Go.Value.oneCell'.eq_2, @Go.Value.oneCell'.eq_3⟩, ⟨@List.mapM_cons.{0, 0, 0}, @List.mapM_nil.{0, 0, 0}⟩⟩, ⟨⟨@Option.pure_def.{0}, @Option.bind_eq_bind.{0}⟩, ⟨@K.litA.eq_1, @K.elemA.eq_1⟩⟩⟩⟩

theorem K.run16 :
    (((((type_of% @K.elemA.eq_2) ∧ (type_of% @K.upTo.eq_1)) ∧ ((type_of% @K.upTo.eq_2) ∧ (type_of% @K.noOwn_nil))) ∧ (((type_of% @K.noOwn_cons) ∧ (type_of% @K.noOwn1.eq_1)) ∧ ((type_of% @K.eptrNow.eq_1) ∧ (type_of% @K.sliceA.eq_1)))) ∧ ((((type_of% @K.sliceA.eq_2) ∧ (type_of% @K.sliceA.eq_3)) ∧ ((type_of% @K.sliceA.eq_4) ∧ (type_of% @K.sliceA.eq_5))) ∧ (((type_of% @K.sub.eq_1) ∧ (type_of% @K.sub.eq_2)) ∧ ((type_of% @K.eview.eq_1) ∧ (type_of% @Option.map_eq_some_iff.{0, 0}))))) :=
  ⟨⟨⟨⟨@K.elemA.eq_2, @K.upTo.eq_1⟩, ⟨@K.upTo.eq_2, @K.noOwn_nil⟩⟩, ⟨⟨@K.noOwn_cons, @K.noOwn1.eq_1⟩, ⟨@K.eptrNow.eq_1, @K.sliceA.eq_1⟩⟩⟩, ⟨⟨⟨@K.sliceA.eq_2, @K.sliceA.eq_3⟩, ⟨@K.sliceA.eq_4, @K.sliceA.eq_5⟩⟩, ⟨⟨@K.sub.eq_1, @K.sub.eq_2⟩, ⟨@K.eview.eq_1, @Option.map_eq_some_iff.{0, 0}⟩⟩⟩⟩

theorem K.run17 :
    (((((type_of% @List.append_assoc.{0}) ∧ (type_of% @List.singleton_append.{0})) ∧ ((type_of% @K.litK.eq_1) ∧ (type_of% @K.anyK.eq_1))) ∧ (((type_of% @K.ownedDst.eq_1) ∧ (type_of% @List.contains_nil.{0})) ∧ ((type_of% @List.contains_cons.{0}) ∧ (type_of% @Bool.or_false)))) ∧ ((((type_of% @Bool.false_or) ∧ (type_of% @Bool.or_self)) ∧ ((type_of% @Bool.true_or) ∧ (type_of% @Bool.or_true))) ∧ (((type_of% @K.srcA.eq_1) ∧ (type_of% @K.srcA.eq_2)) ∧ ((type_of% @K.srcA.eq_3) ∧ (type_of% @K.srcA.eq_4))))) :=
  ⟨⟨⟨⟨@List.append_assoc.{0}, @List.singleton_append.{0}⟩, ⟨@K.litK.eq_1, @K.anyK.eq_1⟩⟩, ⟨⟨@K.ownedDst.eq_1, @List.contains_nil.{0}⟩, ⟨@List.contains_cons.{0}, @Bool.or_false⟩⟩⟩, ⟨⟨⟨@Bool.false_or, @Bool.or_self⟩, ⟨@Bool.true_or, @Bool.or_true⟩⟩, ⟨⟨@K.srcA.eq_1, @K.srcA.eq_2⟩, ⟨@K.srcA.eq_3, @K.srcA.eq_4⟩⟩⟩⟩

theorem K.run18 :
    (((((type_of% @K.srcA.eq_5) ∧ (type_of% @K.makeA.eq_1)) ∧ ((type_of% @K.asI.eq_1) ∧ (type_of% @K.asI.eq_2))) ∧ (((type_of% @K.makeA.isTup.eq_1) ∧ (type_of% @K.makeA.isTup.eq_2)) ∧ ((type_of% @K.storeE.eq_1) ∧ (type_of% @K.storeE.eq_2)))) ∧ ((((type_of% @K.setE.eq_1) ∧ (type_of% @K.setE.eq_2)) ∧ ((type_of% @K.aggB.eq_1) ∧ (type_of% @K.aggB.eq_2))) ∧ (((type_of% @K.litElems.eq_1) ∧ (type_of% @K.zeroE.eq_1)) ∧ ((type_of% @K.zeroE.eq_2) ∧ (type_of% @List.isEmpty_nil.{0}))))) :=
  ⟨⟨⟨⟨@K.srcA.eq_5, @K.makeA.eq_1⟩, ⟨@K.asI.eq_1, @K.asI.eq_2⟩⟩, ⟨⟨@K.makeA.isTup.eq_1, @K.makeA.isTup.eq_2⟩, ⟨@K.storeE.eq_1, @K.storeE.eq_2⟩⟩⟩, ⟨⟨⟨@K.setE.eq_1, @K.setE.eq_2⟩, ⟨@K.aggB.eq_1, @K.aggB.eq_2⟩⟩, ⟨⟨@K.litElems.eq_1, @K.zeroE.eq_1⟩, ⟨@K.zeroE.eq_2, @List.isEmpty_nil.{0}⟩⟩⟩⟩

theorem K.run19 :
    (((((type_of% @List.take_length.{0}) ∧ (type_of% @K.isStrA_sl)) ∧ ((type_of% @K.isStrA_ref) ∧ (type_of% @K.isStrA_lit))) ∧ (((type_of% @K.isStrA_str) ∧ (type_of% @List.length_replicate.{0})) ∧ ((type_of% @K.getX0) ∧ (type_of% @K.getX1)))) ∧ ((((type_of% @K.getX2) ∧ (type_of% @K.getX3)) ∧ ((type_of% @K.getXn) ∧ (type_of% @K.setX0))) ∧ (((type_of% @K.setX1) ∧ (type_of% @K.setX2)) ∧ ((type_of% @K.setX3) ∧ (type_of% @K.Wd_true))))) :=
  ⟨⟨⟨⟨@List.take_length.{0}, @K.isStrA_sl⟩, ⟨@K.isStrA_ref, @K.isStrA_lit⟩⟩, ⟨⟨@K.isStrA_str, @List.length_replicate.{0}⟩, ⟨@K.getX0, @K.getX1⟩⟩⟩, ⟨⟨⟨@K.getX2, @K.getX3⟩, ⟨@K.getXn, @K.setX0⟩⟩, ⟨⟨@K.setX1, @K.setX2⟩, ⟨@K.setX3, @K.Wd_true⟩⟩⟩⟩

theorem K.run20 :
    (((((type_of% @K.Wd_false) ∧ (type_of% @K.app_W)) ∧ ((type_of% @K.le_WW) ∧ (type_of% @K.KCW))) ∧ (((type_of% @K.KWW) ∧ (type_of% @K.KAW)) ∧ ((type_of% @K.KCA) ∧ (type_of% @K.KAA)))) ∧ ((((type_of% @K.storeW.eq_1) ∧ (type_of% @K.storeW.eq_2)) ∧ ((type_of% @K.rdA.eq_1) ∧ (type_of% @K.rdA.eq_2))) ∧ (((type_of% @K.rdA.eq_3) ∧ (type_of% @K.rdA.eq_4)) ∧ ((type_of% @K.rdB.eq_1) ∧ (type_of% @K.rdB.eq_2))))) :=
  ⟨⟨⟨⟨@K.Wd_false, @K.app_W⟩, ⟨@K.le_WW, @K.KCW⟩⟩, ⟨⟨@K.KWW, @K.KAW⟩, ⟨@K.KCA, @K.KAA⟩⟩⟩, ⟨⟨⟨@K.storeW.eq_1, @K.storeW.eq_2⟩, ⟨@K.rdA.eq_1, @K.rdA.eq_2⟩⟩, ⟨⟨@K.rdA.eq_3, @K.rdA.eq_4⟩, ⟨@K.rdB.eq_1, @K.rdB.eq_2⟩⟩⟩⟩

theorem K.run21 :
    (((((type_of% @K.rdB.eq_3) ∧ (type_of% @K.rdB.eq_4)) ∧ ((type_of% @K.rdB.eq_5) ∧ (type_of% @K.rdB.eq_6))) ∧ (((type_of% @K.rdB.eq_7) ∧ (type_of% @K.isW_range)) ∧ ((type_of% @K.isW_none) ∧ (type_of% @K.isW_any)))) ∧ ((((type_of% @K.rangeW.eq_1) ∧ (type_of% @K.rangeW.eq_2)) ∧ ((type_of% @K.appW.eq_1) ∧ (type_of% @K.appW.eq_2))) ∧ (((type_of% @K.rowsAt_E) ∧ (type_of% @K.rowsAt_any)) ∧ ((type_of% @Bool.false_and) ∧ (type_of% @Bool.true_and))))) :=
  ⟨⟨⟨⟨@K.rdB.eq_3, @K.rdB.eq_4⟩, ⟨@K.rdB.eq_5, @K.rdB.eq_6⟩⟩, ⟨⟨@K.rdB.eq_7, @K.isW_range⟩, ⟨@K.isW_none, @K.isW_any⟩⟩⟩, ⟨⟨⟨@K.rangeW.eq_1, @K.rangeW.eq_2⟩, ⟨@K.appW.eq_1, @K.appW.eq_2⟩⟩, ⟨⟨@K.rowsAt_E, @K.rowsAt_any⟩, ⟨@Bool.false_and, @Bool.true_and⟩⟩⟩⟩

theorem K.run22 :
    ((((type_of% @List.filterMap_cons.{0, 0}) ∧ ((type_of% @List.filterMap_nil.{0, 0}) ∧ (type_of% @K.eqIs.eq_1))) ∧ ((type_of% @K.eqIs.eq_2) ∧ ((type_of% @K.eqIs.eq_3) ∧ (type_of% @K.kindQ.eq_1)))) ∧ (((type_of% @K.kindQ.eq_2) ∧ ((type_of% @K.absA.eq_1) ∧ (type_of% @K.absA.eq_2))) ∧ (((type_of% @K.absA.eq_3) ∧ (type_of% @K.absA.eq_4)) ∧ ((type_of% @K.absG.eq_1) ∧ (type_of% @K.absG.eq_2))))) :=
  ⟨⟨⟨@List.filterMap_cons.{0, 0}, ⟨@List.filterMap_nil.{0, 0}, @K.eqIs.eq_1⟩⟩, ⟨@K.eqIs.eq_2, ⟨@K.eqIs.eq_3, @K.kindQ.eq_1⟩⟩⟩, ⟨⟨@K.kindQ.eq_2, ⟨@K.absA.eq_1, @K.absA.eq_2⟩⟩, ⟨⟨@K.absA.eq_3, @K.absA.eq_4⟩, ⟨@K.absG.eq_1, @K.absG.eq_2⟩⟩⟩⟩

end Go.Proofs.Ytobdpkkmkbafbaa
/-
  Facts on the types of this seat's program.
-/
namespace Go.Proofs.Ytobdpkkmkbafbaa
open Go K
theorem hmix : Try.prog.follows .mixedOrders = true := by kernel_rfl
theorem ty_c2 : Try.prog.cellsOf 2 = 1 := by kernel_rfl
theorem ty_i2 : (Try.prog.info? 2).isSome = true := by kernel_rfl
theorem ty_u2 : (Try.prog.underlying 2).isSome = true := by kernel_rfl
theorem ty_a2 : aggT Try.prog 2 = false := by kernel_rfl
theorem ty_w2 : (decide (Try.prog.bytesOf 2 ≤ 1024)) = true := by kernel_rfl
theorem ty_z2 : zeroOf Try.prog 2 = some (.int .i64 0) := by kernel_rfl
theorem ty_c3 : Try.prog.cellsOf 3 = 1 := by kernel_rfl
theorem ty_i3 : (Try.prog.info? 3).isSome = true := by kernel_rfl
theorem ty_u3 : (Try.prog.underlying 3).isSome = true := by kernel_rfl
theorem ty_a3 : aggT Try.prog 3 = false := by kernel_rfl
theorem ty_w3 : (decide (Try.prog.bytesOf 3 ≤ 1024)) = true := by kernel_rfl
theorem ty_z3 : zeroOf Try.prog 3 = some (.int .i64 0) := by kernel_rfl
theorem ty_c4 : Try.prog.cellsOf 4 = 1 := by kernel_rfl
theorem ty_i4 : (Try.prog.info? 4).isSome = true := by kernel_rfl
theorem ty_u4 : (Try.prog.underlying 4).isSome = true := by kernel_rfl
theorem ty_a4 : aggT Try.prog 4 = false := by kernel_rfl
theorem ty_w4 : (decide (Try.prog.bytesOf 4 ≤ 1024)) = true := by kernel_rfl
theorem ty_b4 : isBoolT Try.prog 4 = true := by kernel_rfl
theorem ty_z4 : zeroOf Try.prog 4 = some (.bool false) := by kernel_rfl
theorem ty_c5 : Try.prog.cellsOf 5 = 1 := by kernel_rfl
theorem ty_i5 : (Try.prog.info? 5).isSome = true := by kernel_rfl
theorem ty_u5 : (Try.prog.underlying 5).isSome = true := by kernel_rfl
theorem ty_a5 : aggT Try.prog 5 = false := by kernel_rfl
theorem ty_w5 : (decide (Try.prog.bytesOf 5 ≤ 1024)) = true := by kernel_rfl
theorem ty_z5 : zeroOf Try.prog 5 = some (.int .u8 0) := by kernel_rfl
theorem ty_c9 : Try.prog.cellsOf 9 = 1 := by kernel_rfl
theorem ty_i9 : (Try.prog.info? 9).isSome = true := by kernel_rfl
theorem ty_u9 : (Try.prog.underlying 9).isSome = true := by kernel_rfl
theorem ty_a9 : aggT Try.prog 9 = false := by kernel_rfl
theorem ty_w9 : (decide (Try.prog.bytesOf 9 ≤ 1024)) = true := by kernel_rfl
theorem ty_z9 : zeroOf Try.prog 9 = some (.string ⟨#[]⟩) := by kernel_rfl
theorem ty_c12 : Try.prog.cellsOf 12 = 1 := by kernel_rfl
theorem ty_i12 : (Try.prog.info? 12).isSome = true := by kernel_rfl
theorem ty_u12 : (Try.prog.underlying 12).isSome = true := by kernel_rfl
theorem ty_a12 : aggT Try.prog 12 = false := by kernel_rfl
theorem ty_w12 : (decide (Try.prog.bytesOf 12 ≤ 1024)) = true := by kernel_rfl
theorem ty_z12 : zeroOf Try.prog 12 = some (.int .u64 0) := by kernel_rfl
theorem ty_c21 : Try.prog.cellsOf 21 = 1 := by kernel_rfl
theorem ty_i21 : (Try.prog.info? 21).isSome = true := by kernel_rfl
theorem ty_u21 : (Try.prog.underlying 21).isSome = true := by kernel_rfl
theorem ty_a21 : aggT Try.prog 21 = false := by kernel_rfl
theorem ty_w21 : (decide (Try.prog.bytesOf 21 ≤ 1024)) = true := by kernel_rfl
theorem ty_z21 : zeroOf Try.prog 21 = some (.int .i32 0) := by kernel_rfl
theorem ty_c22 : Try.prog.cellsOf 22 = 1 := by kernel_rfl
theorem ty_i22 : (Try.prog.info? 22).isSome = true := by kernel_rfl
theorem ty_u22 : (Try.prog.underlying 22).isSome = true := by kernel_rfl
theorem ty_a22 : aggT Try.prog 22 = false := by kernel_rfl
theorem ty_w22 : (decide (Try.prog.bytesOf 22 ≤ 1024)) = true := by kernel_rfl
theorem ty_z22 : zeroOf Try.prog 22 = some (.slice none 0 0) := by kernel_rfl
theorem ty_c24 : Try.prog.cellsOf 24 = 1 := by kernel_rfl
theorem ty_i24 : (Try.prog.info? 24).isSome = true := by kernel_rfl
theorem ty_u24 : (Try.prog.underlying 24).isSome = true := by kernel_rfl
theorem ty_a24 : aggT Try.prog 24 = false := by kernel_rfl
theorem ty_w24 : (decide (Try.prog.bytesOf 24 ≤ 1024)) = true := by kernel_rfl
theorem ty_z24 : zeroOf Try.prog 24 = some (.slice none 0 0) := by kernel_rfl
theorem ty_c29 : Try.prog.cellsOf 29 = 2 := by kernel_rfl
theorem ty_i29 : (Try.prog.info? 29).isSome = true := by kernel_rfl
theorem ty_u29 : (Try.prog.underlying 29).isSome = true := by kernel_rfl
theorem ty_a29 : aggT Try.prog 29 = true := by kernel_rfl
theorem ty_w29 : (decide (Try.prog.bytesOf 29 ≤ 1024)) = true := by kernel_rfl
theorem ty_z29 : zeroOf Try.prog 29 = some (.agg #[.int .i64 0, .int .i64 0]) := by kernel_rfl
theorem ty_s29 : structN Try.prog 29 = some 2 := by kernel_rfl
theorem ty_f29_0 : fieldOf Try.prog 29 0 = some (0, 3) := by kernel_rfl
theorem ty_f29_1 : fieldOf Try.prog 29 1 = some (1, 3) := by kernel_rfl
theorem ty_c30 : Try.prog.cellsOf 30 = 2 := by kernel_rfl
theorem ty_i30 : (Try.prog.info? 30).isSome = true := by kernel_rfl
theorem ty_u30 : (Try.prog.underlying 30).isSome = true := by kernel_rfl
theorem ty_a30 : aggT Try.prog 30 = true := by kernel_rfl
theorem ty_w30 : (decide (Try.prog.bytesOf 30 ≤ 1024)) = true := by kernel_rfl
theorem ty_z30 : zeroOf Try.prog 30 = some (.agg #[.int .i64 0, .int .i64 0]) := by kernel_rfl
theorem ty_s30 : structN Try.prog 30 = some 2 := by kernel_rfl
theorem ty_f30_0 : fieldOf Try.prog 30 0 = some (0, 3) := by kernel_rfl
theorem ty_f30_1 : fieldOf Try.prog 30 1 = some (1, 3) := by kernel_rfl
theorem ty_c34 : Try.prog.cellsOf 34 = 1 := by kernel_rfl
theorem ty_i34 : (Try.prog.info? 34).isSome = true := by kernel_rfl
theorem ty_u34 : (Try.prog.underlying 34).isSome = true := by kernel_rfl
theorem ty_a34 : aggT Try.prog 34 = false := by kernel_rfl
theorem ty_w34 : (decide (Try.prog.bytesOf 34 ≤ 1024)) = true := by kernel_rfl
theorem ty_z34 : zeroOf Try.prog 34 = some (.slice none 0 0) := by kernel_rfl
theorem ty_c41 : Try.prog.cellsOf 41 = 1 := by kernel_rfl
theorem ty_i41 : (Try.prog.info? 41).isSome = true := by kernel_rfl
theorem ty_u41 : (Try.prog.underlying 41).isSome = true := by kernel_rfl
theorem ty_a41 : aggT Try.prog 41 = false := by kernel_rfl
theorem ty_w41 : (decide (Try.prog.bytesOf 41 ≤ 1024)) = true := by kernel_rfl
theorem ty_z41 : zeroOf Try.prog 41 = some (.pointer none) := by kernel_rfl
theorem ty_c42 : Try.prog.cellsOf 42 = 1 := by kernel_rfl
theorem ty_i42 : (Try.prog.info? 42).isSome = true := by kernel_rfl
theorem ty_u42 : (Try.prog.underlying 42).isSome = true := by kernel_rfl
theorem ty_a42 : aggT Try.prog 42 = false := by kernel_rfl
theorem ty_w42 : (decide (Try.prog.bytesOf 42 ≤ 1024)) = true := by kernel_rfl
theorem ty_z42 : zeroOf Try.prog 42 = some (.int .u64 0) := by kernel_rfl
theorem ty_c43 : Try.prog.cellsOf 43 = 3 := by kernel_rfl
theorem ty_i43 : (Try.prog.info? 43).isSome = true := by kernel_rfl
theorem ty_u43 : (Try.prog.underlying 43).isSome = true := by kernel_rfl
theorem ty_a43 : aggT Try.prog 43 = true := by kernel_rfl
theorem ty_w43 : (decide (Try.prog.bytesOf 43 ≤ 1024)) = true := by kernel_rfl
theorem ty_z43 : zeroOf Try.prog 43 = some (.agg #[.slice none 0 0, .int .i64 0, .int .u64 0]) := by kernel_rfl
theorem ty_f43_0 : fieldOf Try.prog 43 0 = some (0, 22) := by kernel_rfl
theorem ty_f43_1 : fieldOf Try.prog 43 1 = some (1, 3) := by kernel_rfl
theorem ty_f43_2 : fieldOf Try.prog 43 2 = some (2, 42) := by kernel_rfl
theorem ty_c44 : Try.prog.cellsOf 44 = 3 := by kernel_rfl
theorem ty_i44 : (Try.prog.info? 44).isSome = true := by kernel_rfl
theorem ty_u44 : (Try.prog.underlying 44).isSome = true := by kernel_rfl
theorem ty_a44 : aggT Try.prog 44 = true := by kernel_rfl
theorem ty_w44 : (decide (Try.prog.bytesOf 44 ≤ 1024)) = true := by kernel_rfl
theorem ty_z44 : zeroOf Try.prog 44 = some (.agg #[.slice none 0 0, .int .i64 0, .int .u64 0]) := by kernel_rfl
theorem ty_f44_0 : fieldOf Try.prog 44 0 = some (0, 22) := by kernel_rfl
theorem ty_f44_1 : fieldOf Try.prog 44 1 = some (1, 3) := by kernel_rfl
theorem ty_f44_2 : fieldOf Try.prog 44 2 = some (2, 42) := by kernel_rfl
theorem ty_c52 : Try.prog.cellsOf 52 = 1 := by kernel_rfl
theorem ty_i52 : (Try.prog.info? 52).isSome = true := by kernel_rfl
theorem ty_u52 : (Try.prog.underlying 52).isSome = true := by kernel_rfl
theorem ty_a52 : aggT Try.prog 52 = false := by kernel_rfl
theorem ty_w52 : (decide (Try.prog.bytesOf 52 ≤ 1024)) = true := by kernel_rfl
theorem ty_z52 : zeroOf Try.prog 52 = some (.int .u64 0) := by kernel_rfl
theorem ty_c57 : Try.prog.cellsOf 57 = 1 := by kernel_rfl
theorem ty_i57 : (Try.prog.info? 57).isSome = true := by kernel_rfl
theorem ty_u57 : (Try.prog.underlying 57).isSome = true := by kernel_rfl
theorem ty_a57 : aggT Try.prog 57 = false := by kernel_rfl
theorem ty_w57 : (decide (Try.prog.bytesOf 57 ≤ 1024)) = true := by kernel_rfl
theorem ty_z57 : zeroOf Try.prog 57 = some (.map none) := by kernel_rfl
theorem ty_c59 : Try.prog.cellsOf 59 = 1 := by kernel_rfl
theorem ty_i59 : (Try.prog.info? 59).isSome = true := by kernel_rfl
theorem ty_u59 : (Try.prog.underlying 59).isSome = true := by kernel_rfl
theorem ty_a59 : aggT Try.prog 59 = false := by kernel_rfl
theorem ty_w59 : (decide (Try.prog.bytesOf 59 ≤ 1024)) = true := by kernel_rfl
theorem ty_z59 : zeroOf Try.prog 59 = some (.slice none 0 0) := by kernel_rfl
theorem ty_c69 : Try.prog.cellsOf 69 = 1 := by kernel_rfl
theorem ty_i69 : (Try.prog.info? 69).isSome = true := by kernel_rfl
theorem ty_u69 : (Try.prog.underlying 69).isSome = true := by kernel_rfl
theorem ty_a69 : aggT Try.prog 69 = false := by kernel_rfl
theorem ty_w69 : (decide (Try.prog.bytesOf 69 ≤ 1024)) = true := by kernel_rfl
theorem ty_z69 : zeroOf Try.prog 69 = some (.map none) := by kernel_rfl
theorem ty_c81 : Try.prog.cellsOf 81 = 1 := by kernel_rfl
theorem ty_i81 : (Try.prog.info? 81).isSome = true := by kernel_rfl
theorem ty_u81 : (Try.prog.underlying 81).isSome = true := by kernel_rfl
theorem ty_a81 : aggT Try.prog 81 = false := by kernel_rfl
theorem ty_w81 : (decide (Try.prog.bytesOf 81 ≤ 1024)) = true := by kernel_rfl
theorem ty_z81 : zeroOf Try.prog 81 = some (.int .u32 0) := by kernel_rfl
theorem ty_c85 : Try.prog.cellsOf 85 = 1 := by kernel_rfl
theorem ty_i85 : (Try.prog.info? 85).isSome = true := by kernel_rfl
theorem ty_u85 : (Try.prog.underlying 85).isSome = true := by kernel_rfl
theorem ty_a85 : aggT Try.prog 85 = false := by kernel_rfl
theorem ty_w85 : (decide (Try.prog.bytesOf 85 ≤ 1024)) = true := by kernel_rfl
theorem ty_z85 : zeroOf Try.prog 85 = some (.pointer none) := by kernel_rfl
theorem ok_f3 : okFn Try.prog 3 = true := by kernel_rfl
theorem ok_f4 : okFn Try.prog 4 = true := by kernel_rfl
theorem ok_f5 : okFn Try.prog 5 = true := by kernel_rfl
theorem ok_f6 : okFn Try.prog 6 = true := by kernel_rfl
theorem ok_f7 : okFn Try.prog 7 = true := by kernel_rfl
theorem ok_f8 : okFn Try.prog 8 = true := by kernel_rfl
theorem ok_f9 : okFn Try.prog 9 = true := by kernel_rfl
theorem ok_f10 : okFn Try.prog 10 = true := by kernel_rfl
theorem ok_f11 : okFn Try.prog 11 = true := by kernel_rfl
theorem ok_f12 : okFn Try.prog 12 = true := by kernel_rfl
theorem ok_f13 : okFn Try.prog 13 = true := by kernel_rfl
theorem ok_f14 : okFn Try.prog 14 = true := by kernel_rfl
theorem ok_f15 : okFn Try.prog 15 = true := by kernel_rfl
theorem ok_f16 : okFn Try.prog 16 = true := by kernel_rfl
theorem ok_f17 : okFn Try.prog 17 = true := by kernel_rfl
theorem ok_f18 : okFn Try.prog 18 = true := by kernel_rfl
theorem ok_f19 : okFn Try.prog 19 = true := by kernel_rfl
theorem ok_f20 : okFn Try.prog 20 = true := by kernel_rfl
theorem ok_f21 : okFn Try.prog 21 = true := by kernel_rfl
theorem ok_f22 : okFn Try.prog 22 = true := by kernel_rfl
theorem ok_f23 : okFn Try.prog 23 = true := by kernel_rfl
theorem ok_f24 : okFn Try.prog 24 = true := by kernel_rfl
theorem ok_f25 : okFn Try.prog 25 = true := by kernel_rfl
theorem ok_f26 : okFn Try.prog 26 = true := by kernel_rfl
theorem ok_f27 : okFn Try.prog 27 = true := by kernel_rfl
theorem ok_f28 : okFn Try.prog 28 = true := by kernel_rfl
theorem ok_f29 : okFn Try.prog 29 = true := by kernel_rfl
theorem ok_f30 : okFn Try.prog 30 = true := by kernel_rfl
theorem ok_f31 : okFn Try.prog 31 = true := by kernel_rfl
theorem ok_f32 : okFn Try.prog 32 = true := by kernel_rfl
theorem ok_f33 : okFn Try.prog 33 = true := by kernel_rfl
theorem ok_f34 : okFn Try.prog 34 = true := by kernel_rfl
theorem ok_f35 : okFn Try.prog 35 = true := by kernel_rfl
theorem ok_f36 : okFn Try.prog 36 = true := by kernel_rfl
theorem ok_f37 : okFn Try.prog 37 = true := by kernel_rfl
theorem ok_f38 : okFn Try.prog 38 = true := by kernel_rfl
theorem ok_f39 : okFn Try.prog 39 = true := by kernel_rfl
theorem ok_f40 : okFn Try.prog 40 = true := by kernel_rfl
theorem ok_f41 : okFn Try.prog 41 = true := by kernel_rfl
theorem ok_f42 : okFn Try.prog 42 = true := by kernel_rfl
theorem ok_f43 : okFn Try.prog 43 = true := by kernel_rfl
theorem ok_f44 : okFn Try.prog 44 = true := by kernel_rfl
theorem ok_f45 : okFn Try.prog 45 = true := by kernel_rfl
theorem ok_f46 : okFn Try.prog 46 = true := by kernel_rfl
theorem ok_f47 : okFn Try.prog 47 = true := by kernel_rfl
theorem ok_f48 : okFn Try.prog 48 = true := by kernel_rfl
theorem ok_f49 : okFn Try.prog 49 = true := by kernel_rfl
theorem ok_f50 : okFn Try.prog 50 = true := by kernel_rfl
theorem ok_f51 : okFn Try.prog 51 = true := by kernel_rfl
theorem ok_f52 : okFn Try.prog 52 = true := by kernel_rfl
theorem ok_f53 : okFn Try.prog 53 = true := by kernel_rfl
theorem ok_f54 : okFn Try.prog 54 = true := by kernel_rfl
theorem ok_f55 : okFn Try.prog 55 = true := by kernel_rfl
theorem ok_f56 : okFn Try.prog 56 = true := by kernel_rfl
theorem ok_f57 : okFn Try.prog 57 = true := by kernel_rfl
theorem ok_f58 : okFn Try.prog 58 = true := by kernel_rfl
theorem ok_f59 : okFn Try.prog 59 = true := by kernel_rfl
theorem tys0 :
    (((((type_of% @ty_c2) ∧ (type_of% @ty_i2)) ∧ ((type_of% @ty_u2) ∧ (type_of% @ty_a2))) ∧ (((type_of% @ty_w2) ∧ (type_of% @ty_z2)) ∧ ((type_of% @ty_c3) ∧ (type_of% @ty_i3)))) ∧ ((((type_of% @ty_u3) ∧ (type_of% @ty_a3)) ∧ ((type_of% @ty_w3) ∧ (type_of% @ty_z3))) ∧ (((type_of% @ty_c4) ∧ (type_of% @ty_i4)) ∧ ((type_of% @ty_u4) ∧ (type_of% @ty_a4))))) :=
  ⟨⟨⟨⟨@ty_c2, @ty_i2⟩, ⟨@ty_u2, @ty_a2⟩⟩, ⟨⟨@ty_w2, @ty_z2⟩, ⟨@ty_c3, @ty_i3⟩⟩⟩, ⟨⟨⟨@ty_u3, @ty_a3⟩, ⟨@ty_w3, @ty_z3⟩⟩, ⟨⟨@ty_c4, @ty_i4⟩, ⟨@ty_u4, @ty_a4⟩⟩⟩⟩
theorem tys1 :
    (((((type_of% @ty_w4) ∧ (type_of% @ty_b4)) ∧ ((type_of% @ty_z4) ∧ (type_of% @ty_c5))) ∧ (((type_of% @ty_i5) ∧ (type_of% @ty_u5)) ∧ ((type_of% @ty_a5) ∧ (type_of% @ty_w5)))) ∧ ((((type_of% @ty_z5) ∧ (type_of% @ty_c9)) ∧ ((type_of% @ty_i9) ∧ (type_of% @ty_u9))) ∧ (((type_of% @ty_a9) ∧ (type_of% @ty_w9)) ∧ ((type_of% @ty_z9) ∧ (type_of% @ty_c12))))) :=
  ⟨⟨⟨⟨@ty_w4, @ty_b4⟩, ⟨@ty_z4, @ty_c5⟩⟩, ⟨⟨@ty_i5, @ty_u5⟩, ⟨@ty_a5, @ty_w5⟩⟩⟩, ⟨⟨⟨@ty_z5, @ty_c9⟩, ⟨@ty_i9, @ty_u9⟩⟩, ⟨⟨@ty_a9, @ty_w9⟩, ⟨@ty_z9, @ty_c12⟩⟩⟩⟩
theorem tys2 :
    (((((type_of% @ty_i12) ∧ (type_of% @ty_u12)) ∧ ((type_of% @ty_a12) ∧ (type_of% @ty_w12))) ∧ (((type_of% @ty_z12) ∧ (type_of% @ty_c21)) ∧ ((type_of% @ty_i21) ∧ (type_of% @ty_u21)))) ∧ ((((type_of% @ty_a21) ∧ (type_of% @ty_w21)) ∧ ((type_of% @ty_z21) ∧ (type_of% @ty_c22))) ∧ (((type_of% @ty_i22) ∧ (type_of% @ty_u22)) ∧ ((type_of% @ty_a22) ∧ (type_of% @ty_w22))))) :=
  ⟨⟨⟨⟨@ty_i12, @ty_u12⟩, ⟨@ty_a12, @ty_w12⟩⟩, ⟨⟨@ty_z12, @ty_c21⟩, ⟨@ty_i21, @ty_u21⟩⟩⟩, ⟨⟨⟨@ty_a21, @ty_w21⟩, ⟨@ty_z21, @ty_c22⟩⟩, ⟨⟨@ty_i22, @ty_u22⟩, ⟨@ty_a22, @ty_w22⟩⟩⟩⟩
theorem tys3 :
    (((((type_of% @ty_z22) ∧ (type_of% @ty_c24)) ∧ ((type_of% @ty_i24) ∧ (type_of% @ty_u24))) ∧ (((type_of% @ty_a24) ∧ (type_of% @ty_w24)) ∧ ((type_of% @ty_z24) ∧ (type_of% @ty_c29)))) ∧ ((((type_of% @ty_i29) ∧ (type_of% @ty_u29)) ∧ ((type_of% @ty_a29) ∧ (type_of% @ty_w29))) ∧ (((type_of% @ty_z29) ∧ (type_of% @ty_s29)) ∧ ((type_of% @ty_f29_0) ∧ (type_of% @ty_f29_1))))) :=
  ⟨⟨⟨⟨@ty_z22, @ty_c24⟩, ⟨@ty_i24, @ty_u24⟩⟩, ⟨⟨@ty_a24, @ty_w24⟩, ⟨@ty_z24, @ty_c29⟩⟩⟩, ⟨⟨⟨@ty_i29, @ty_u29⟩, ⟨@ty_a29, @ty_w29⟩⟩, ⟨⟨@ty_z29, @ty_s29⟩, ⟨@ty_f29_0, @ty_f29_1⟩⟩⟩⟩
theorem tys4 :
    (((((type_of% @ty_c30) ∧ (type_of% @ty_i30)) ∧ ((type_of% @ty_u30) ∧ (type_of% @ty_a30))) ∧ (((type_of% @ty_w30) ∧ (type_of% @ty_z30)) ∧ ((type_of% @ty_s30) ∧ (type_of% @ty_f30_0)))) ∧ ((((type_of% @ty_f30_1) ∧ (type_of% @ty_c34)) ∧ ((type_of% @ty_i34) ∧ (type_of% @ty_u34))) ∧ (((type_of% @ty_a34) ∧ (type_of% @ty_w34)) ∧ ((type_of% @ty_z34) ∧ (type_of% @ty_c41))))) :=
  ⟨⟨⟨⟨@ty_c30, @ty_i30⟩, ⟨@ty_u30, @ty_a30⟩⟩, ⟨⟨@ty_w30, @ty_z30⟩, ⟨@ty_s30, @ty_f30_0⟩⟩⟩, ⟨⟨⟨@ty_f30_1, @ty_c34⟩, ⟨@ty_i34, @ty_u34⟩⟩, ⟨⟨@ty_a34, @ty_w34⟩, ⟨@ty_z34, @ty_c41⟩⟩⟩⟩
theorem tys5 :
    (((((type_of% @ty_i41) ∧ (type_of% @ty_u41)) ∧ ((type_of% @ty_a41) ∧ (type_of% @ty_w41))) ∧ (((type_of% @ty_z41) ∧ (type_of% @ty_c42)) ∧ ((type_of% @ty_i42) ∧ (type_of% @ty_u42)))) ∧ ((((type_of% @ty_a42) ∧ (type_of% @ty_w42)) ∧ ((type_of% @ty_z42) ∧ (type_of% @ty_c43))) ∧ (((type_of% @ty_i43) ∧ (type_of% @ty_u43)) ∧ ((type_of% @ty_a43) ∧ (type_of% @ty_w43))))) :=
  ⟨⟨⟨⟨@ty_i41, @ty_u41⟩, ⟨@ty_a41, @ty_w41⟩⟩, ⟨⟨@ty_z41, @ty_c42⟩, ⟨@ty_i42, @ty_u42⟩⟩⟩, ⟨⟨⟨@ty_a42, @ty_w42⟩, ⟨@ty_z42, @ty_c43⟩⟩, ⟨⟨@ty_i43, @ty_u43⟩, ⟨@ty_a43, @ty_w43⟩⟩⟩⟩
theorem tys6 :
    (((((type_of% @ty_z43) ∧ (type_of% @ty_f43_0)) ∧ ((type_of% @ty_f43_1) ∧ (type_of% @ty_f43_2))) ∧ (((type_of% @ty_c44) ∧ (type_of% @ty_i44)) ∧ ((type_of% @ty_u44) ∧ (type_of% @ty_a44)))) ∧ ((((type_of% @ty_w44) ∧ (type_of% @ty_z44)) ∧ ((type_of% @ty_f44_0) ∧ (type_of% @ty_f44_1))) ∧ (((type_of% @ty_f44_2) ∧ (type_of% @ty_c52)) ∧ ((type_of% @ty_i52) ∧ (type_of% @ty_u52))))) :=
  ⟨⟨⟨⟨@ty_z43, @ty_f43_0⟩, ⟨@ty_f43_1, @ty_f43_2⟩⟩, ⟨⟨@ty_c44, @ty_i44⟩, ⟨@ty_u44, @ty_a44⟩⟩⟩, ⟨⟨⟨@ty_w44, @ty_z44⟩, ⟨@ty_f44_0, @ty_f44_1⟩⟩, ⟨⟨@ty_f44_2, @ty_c52⟩, ⟨@ty_i52, @ty_u52⟩⟩⟩⟩
theorem tys7 :
    (((((type_of% @ty_a52) ∧ (type_of% @ty_w52)) ∧ ((type_of% @ty_z52) ∧ (type_of% @ty_c57))) ∧ (((type_of% @ty_i57) ∧ (type_of% @ty_u57)) ∧ ((type_of% @ty_a57) ∧ (type_of% @ty_w57)))) ∧ ((((type_of% @ty_z57) ∧ (type_of% @ty_c59)) ∧ ((type_of% @ty_i59) ∧ (type_of% @ty_u59))) ∧ (((type_of% @ty_a59) ∧ (type_of% @ty_w59)) ∧ ((type_of% @ty_z59) ∧ (type_of% @ty_c69))))) :=
  ⟨⟨⟨⟨@ty_a52, @ty_w52⟩, ⟨@ty_z52, @ty_c57⟩⟩, ⟨⟨@ty_i57, @ty_u57⟩, ⟨@ty_a57, @ty_w57⟩⟩⟩, ⟨⟨⟨@ty_z57, @ty_c59⟩, ⟨@ty_i59, @ty_u59⟩⟩, ⟨⟨@ty_a59, @ty_w59⟩, ⟨@ty_z59, @ty_c69⟩⟩⟩⟩
theorem tys8 :
    (((((type_of% @ty_i69) ∧ (type_of% @ty_u69)) ∧ ((type_of% @ty_a69) ∧ (type_of% @ty_w69))) ∧ (((type_of% @ty_z69) ∧ (type_of% @ty_c81)) ∧ ((type_of% @ty_i81) ∧ (type_of% @ty_u81)))) ∧ ((((type_of% @ty_a81) ∧ (type_of% @ty_w81)) ∧ ((type_of% @ty_z81) ∧ (type_of% @ty_c85))) ∧ (((type_of% @ty_i85) ∧ (type_of% @ty_u85)) ∧ ((type_of% @ty_a85) ∧ (type_of% @ty_w85))))) :=
  ⟨⟨⟨⟨@ty_i69, @ty_u69⟩, ⟨@ty_a69, @ty_w69⟩⟩, ⟨⟨@ty_z69, @ty_c81⟩, ⟨@ty_i81, @ty_u81⟩⟩⟩, ⟨⟨⟨@ty_a81, @ty_w81⟩, ⟨@ty_z81, @ty_c85⟩⟩, ⟨⟨@ty_i85, @ty_u85⟩, ⟨@ty_a85, @ty_w85⟩⟩⟩⟩
theorem tys9 :
    (((((type_of% @ty_z85) ∧ (type_of% @Try.underlying2)) ∧ ((type_of% @Try.underlying3) ∧ (type_of% @Try.underlying4))) ∧ (((type_of% @Try.underlying5) ∧ (type_of% @Try.underlying9)) ∧ ((type_of% @Try.underlying12) ∧ (type_of% @Try.underlying21)))) ∧ ((((type_of% @Try.underlying22) ∧ (type_of% @Try.underlying24)) ∧ ((type_of% @Try.underlying29) ∧ (type_of% @Try.underlying30))) ∧ (((type_of% @Try.underlying34) ∧ (type_of% @Try.underlying41)) ∧ ((type_of% @Try.underlying42) ∧ (type_of% @Try.underlying43))))) :=
  ⟨⟨⟨⟨@ty_z85, @Try.underlying2⟩, ⟨@Try.underlying3, @Try.underlying4⟩⟩, ⟨⟨@Try.underlying5, @Try.underlying9⟩, ⟨@Try.underlying12, @Try.underlying21⟩⟩⟩, ⟨⟨⟨@Try.underlying22, @Try.underlying24⟩, ⟨@Try.underlying29, @Try.underlying30⟩⟩, ⟨⟨@Try.underlying34, @Try.underlying41⟩, ⟨@Try.underlying42, @Try.underlying43⟩⟩⟩⟩
theorem tys10 :
    (((type_of% @Try.underlying44) ∧ ((type_of% @Try.underlying52) ∧ (type_of% @Try.underlying57))) ∧ (((type_of% @Try.underlying59) ∧ (type_of% @Try.underlying69)) ∧ ((type_of% @Try.underlying81) ∧ (type_of% @Try.underlying85)))) :=
  ⟨⟨@Try.underlying44, ⟨@Try.underlying52, @Try.underlying57⟩⟩, ⟨⟨@Try.underlying59, @Try.underlying69⟩, ⟨@Try.underlying81, @Try.underlying85⟩⟩⟩
end Go.Proofs.Ytobdpkkmkbafbaa
/-
  Green pictures: what hangs together (plain law). A set of knots or twigs is a number, told by its bits.
-/
namespace Go.Proofs.Ytobdpkkmkbafbaa
set_option linter.unusedSimpArgs false
set_option linter.unusedVariables false

abbrev GTw := List (Nat × Nat)
/-- The knots that hang together with 's' by twigs that are kept. -/
inductive Rch (g : GTw) (keep : Nat → Bool) (s : Nat) : Nat → Prop
  | refl : Rch g keep s s
  | fwd {i a b : Nat} : g[i]? = some (a, b) → keep i = true → Rch g keep s a → Rch g keep s b
  | bwd {i a b : Nat} : g[i]? = some (a, b) → keep i = true → Rch g keep s b → Rch g keep s a
/-- One more twig, number 'i'. -/
def hStep (keep : Nat → Bool) (i : Nat) (t : Nat × Nat) (out : Nat) : Nat :=
  if keep i && (out.testBit t.1 || out.testBit t.2) then out ||| (1 <<< t.1 ||| 1 <<< t.2) else out
def hPass (keep : Nat → Bool) : Nat → GTw → Nat → Nat
  | _, [], out => out
  | i, t :: g, out => hPass keep (i + 1) g (hStep keep i t out)
def hRun (g : GTw) (keep : Nat → Bool) : Nat → Nat → Nat
  | 0, out => out
  | k + 1, out => hRun g keep k (hPass keep 0 g out)

theorem bit_one (a x : Nat) : (1 <<< a).testBit x = decide (a = x) := by
  rw [Nat.one_shiftLeft, Nat.testBit_two_pow]
theorem hStep_bit (keep : Nat → Bool) (i : Nat) (t : Nat × Nat) (out x : Nat) :
    (hStep keep i t out).testBit x = (out.testBit x || (keep i && (out.testBit t.1 || out.testBit t.2) && (decide (t.1 = x) || decide (t.2 = x)))) := by
  unfold hStep
  split
  · rename_i h
    rw [h, Nat.testBit_or, Nat.testBit_or, bit_one, bit_one, Bool.true_and]
  · rename_i h
    have h : (keep i && (out.testBit t.1 || out.testBit t.2)) = false := by simpa using h
    rw [h, Bool.false_and, Bool.or_false]
/-- What holds before and after a step holds after a pass. -/
theorem hStep_mono {keep : Nat → Bool} {i : Nat} {t : Nat × Nat} {out x : Nat} (h : out.testBit x = true) : (hStep keep i t out).testBit x = true := by
  rw [hStep_bit, h, Bool.true_or]
theorem hPass_mono {keep : Nat → Bool} {x : Nat} : ∀ {g : GTw} {i out : Nat}, out.testBit x = true → (hPass keep i g out).testBit x = true
  | [], _, _, h => h
  | t :: g, i, out, h => hPass_mono (g := g) (hStep_mono h)
theorem hRun_mono {g : GTw} {keep : Nat → Bool} {x : Nat} : ∀ {k out : Nat}, out.testBit x = true → (hRun g keep k out).testBit x = true
  | 0, _, h => h
  | k + 1, out, h => hRun_mono (k := k) (hPass_mono h)

/-! ### nothing else is reached -/
theorem hStep_sound {g : GTw} {keep : Nat → Bool} {s i : Nat} {t : Nat × Nat} {out : Nat} (hg : g[i]? = some t) (h : ∀ x, out.testBit x = true → Rch g keep s x) : ∀ x, (hStep keep i t out).testBit x = true → Rch g keep s x := by
  intro x hx
  rw [hStep_bit] at hx
  simp only [Bool.or_eq_true, Bool.and_eq_true, decide_eq_true_eq] at hx
  rcases hx with hx | ⟨⟨hk, ht⟩, hx⟩
  · exact h x hx
  · obtain ⟨a, b⟩ := t
    have ha : Rch g keep s a := by
      rcases ht with ht | ht
      · exact h _ ht
      · exact .bwd hg hk (h _ ht)
    have hb : Rch g keep s b := .fwd hg hk ha
    rcases hx with rfl | rfl
    · exact ha
    · exact hb
theorem hPass_sound {g : GTw} {keep : Nat → Bool} {s : Nat} : ∀ {l d : GTw} {out : Nat}, g = d ++ l → (∀ x, out.testBit x = true → Rch g keep s x) → ∀ x, (hPass keep d.length l out).testBit x = true → Rch g keep s x
  | [], _, _, _, h => h
  | t :: l, d, out, hg, h => by
    have h1 := hStep_sound (i := d.length) (t := t) (by rw [hg]; simp) h
    have := hPass_sound (l := l) (d := d ++ [t]) (by rw [hg]; simp) h1
    simpa [hPass] using this
theorem hRun_sound {g : GTw} {keep : Nat → Bool} {s : Nat} : ∀ {k out : Nat}, (∀ x, out.testBit x = true → Rch g keep s x) → ∀ x, (hRun g keep k out).testBit x = true → Rch g keep s x
  | 0, _, h => h
  | k + 1, out, h => hRun_sound (k := k) (hPass_sound (d := []) rfl h)

/-! ### all is reached -/
/-- A twig that is kept and touches the set lies in it. -/
def Closed (g : GTw) (keep : Nat → Bool) (out : Nat) : Prop := ∀ i a b, g[i]? = some (a, b) → keep i = true → (out.testBit a = true ↔ out.testBit b = true)
theorem Closed.all {g : GTw} {keep : Nat → Bool} {s out : Nat} (h : Closed g keep out) (hs : out.testBit s = true) {x : Nat} (hx : Rch g keep s x) : out.testBit x = true := by
  induction hx with
  | refl => exact hs
  | fwd hg hk _ ih => exact (h _ _ _ hg hk).1 ih
  | bwd hg hk _ ih => exact (h _ _ _ hg hk).2 ih
/-- How many twigs lie in the set, or are not kept. -/
def inN (keep : Nat → Bool) (out : Nat) : Nat → GTw → Nat
  | _, [] => 0
  | i, t :: g => (if !keep i || (out.testBit t.1 && out.testBit t.2) then 1 else 0) + inN keep out (i + 1) g

theorem inN_le (keep : Nat → Bool) (out : Nat) : ∀ (g : GTw) (i : Nat), inN keep out i g ≤ g.length
  | [], _ => Nat.le_refl _
  | t :: g, i => by
    have := inN_le keep out g (i + 1)
    simp only [inN, List.length_cons]
    split <;> omega
theorem inN_mono {keep : Nat → Bool} {out out2 : Nat} (h : ∀ x, out.testBit x = true → out2.testBit x = true) : ∀ (g : GTw) (i : Nat), inN keep out i g ≤ inN keep out2 i g
  | [], _ => Nat.le_refl _
  | t :: g, i => by
    have := inN_mono (keep := keep) h g (i + 1)
    simp only [inN]
    split
    · rename_i h1
      have h2 : (!keep i || (out2.testBit t.1 && out2.testBit t.2)) = true := by
        simp only [Bool.or_eq_true, Bool.and_eq_true] at h1 ⊢
        rcases h1 with h1 | ⟨h1, h3⟩
        · exact .inl h1
        · exact .inr ⟨h _ h1, h _ h3⟩
      rw [if_pos h2]; omega
    · split <;> omega
theorem inN_lt {keep : Nat → Bool} {out out2 : Nat} (h : ∀ x, out.testBit x = true → out2.testBit x = true) {a b : Nat} : ∀ (g : GTw) (i j : Nat), g[j]? = some (a, b) → keep (i + j) = true → (out.testBit a && out.testBit b) = false → (out2.testBit a && out2.testBit b) = true →
    inN keep out i g + 1 ≤ inN keep out2 i g
  | [], _, _, hg, _, _, _ => by simp at hg
  | t :: g, i, 0, hg, hk, h1, h2 => by
    simp at hg
    subst hg
    have := inN_mono (keep := keep) h g (i + 1)
    simp only [Nat.add_zero] at hk
    simp only [inN, hk, h1, h2]
    simp
    omega
  | t :: g, i, j + 1, hg, hk, h1, h2 => by
    have := inN_lt h g (i + 1) j (by simpa using hg) (by rw [show i + 1 + j = i + (j + 1) by omega]; exact hk) h1 h2
    simp only [inN]
    split
    · rename_i h3
      have h4 : (!keep i || (out2.testBit t.1 && out2.testBit t.2)) = true := by
        simp only [Bool.or_eq_true, Bool.and_eq_true] at h3 ⊢
        rcases h3 with h3 | ⟨h3, h5⟩
        · exact .inl h3
        · exact .inr ⟨h _ h3, h _ h5⟩
      rw [if_pos h4]; omega
    · split <;> omega
theorem inN_full {keep : Nat → Bool} {out : Nat} : ∀ (g : GTw) (i : Nat), g.length ≤ inN keep out i g → ∀ j a b, g[j]? = some (a, b) → keep (i + j) = true → (out.testBit a && out.testBit b) = true
  | [], _, _, _, _, _, hg, _ => by simp at hg
  | t :: g, i, hl, j, a, b, hg, hk => by
    have hle := inN_le keep out g (i + 1)
    simp only [inN, List.length_cons] at hl hle
    split at hl
    · rename_i h1
      cases j with
      | zero =>
        simp at hg
        subst hg
        simp only [Nat.add_zero] at hk
        simpa [hk] using h1
      | succ j => exact inN_full (keep := keep) (out := out) g (i + 1) (by omega) j a b (by simpa using hg) (by rw [show i + 1 + j = i + (j + 1) by omega]; exact hk)
    · omega
theorem hPass_touch {keep : Nat → Bool} {a b : Nat} : ∀ {g : GTw} {i out j : Nat}, g[j]? = some (a, b) → keep (i + j) = true → (out.testBit a || out.testBit b) = true → (hPass keep i g out).testBit a = true ∧ (hPass keep i g out).testBit b = true
  | [], _, _, _, hg, _, _ => by simp at hg
  | t :: g, i, out, 0, hg, hk, h => by
    simp at hg
    subst hg
    simp only [Nat.add_zero] at hk
    exact ⟨hPass_mono (out := hStep keep i (a, b) out) (by rw [hStep_bit, hk, h]; simp), hPass_mono (out := hStep keep i (a, b) out) (by rw [hStep_bit, hk, h]; simp)⟩
  | t :: g, i, out, j + 1, hg, hk, h => by
    refine hPass_touch (g := g) (i := i + 1) (j := j) (by simpa using hg) (by rw [show i + 1 + j = i + (j + 1) by omega]; exact hk) ?_
    simp only [Bool.or_eq_true] at h ⊢
    rcases h with h | h
    · exact .inl (hStep_mono h)
    · exact .inr (hStep_mono h)
theorem hPass_closed {G : GTw} {keep : Nat → Bool} : ∀ {l d : GTw} {out : Nat}, G = d ++ l → Closed G keep out → ∀ x, (hPass keep d.length l out).testBit x = out.testBit x
  | [], _, _, _, _, _ => rfl
  | t :: l, d, out, hG, h, x => by
    have hst : ∀ y, (hStep keep d.length t out).testBit y = out.testBit y := fun y => by
      rw [hStep_bit]
      cases hk : keep d.length
      · simp
      · have hc := h d.length t.1 t.2 (by rw [hG]; simp) hk
        by_cases h1 : out.testBit t.1 = true
        · have h2 := hc.1 h1
          by_cases e1 : t.1 = y
          · subst e1; simp [h1]
          · by_cases e2 : t.2 = y
            · subst e2; simp [h2]
            · simp [e1, e2]
        · have h2 : ¬ out.testBit t.2 = true := fun h2 => h1 (hc.2 h2)
          simp [h1, h2]
    have hc2 : Closed G keep (hStep keep d.length t out) := fun i a b hg hk => by rw [hst, hst]; exact h i a b hg hk
    have := hPass_closed (l := l) (d := d ++ [t]) (by rw [hG]; simp) hc2 x
    rw [hst] at this
    simpa [hPass] using this
theorem hRun_closed {g : GTw} {keep : Nat → Bool} : ∀ {k out : Nat}, Closed g keep out → Closed g keep (hRun g keep k out) ∧ ∀ x, (hRun g keep k out).testBit x = out.testBit x
  | 0, out, h => ⟨h, fun _ => rfl⟩
  | k + 1, out, h => by
    have h1 := hPass_closed (d := []) rfl h
    have h2 : Closed g keep (hPass keep 0 g out) := fun i a b hg hk => by
      have e1 := h1 a
      have e2 := h1 b
      simp only [List.length_nil] at e1 e2
      rw [e1, e2]; exact h i a b hg hk
    obtain ⟨h3, h4⟩ := hRun_closed (k := k) h2
    exact ⟨h3, fun x => (h4 x).trans (h1 x)⟩
/-- So many rounds as there are twigs are enough. -/
theorem hRun_enough {g : GTw} {keep : Nat → Bool} : ∀ {k out : Nat}, g.length ≤ inN keep out 0 g + k → Closed g keep (hRun g keep k out)
  | 0, out, h => fun i a b hg hk => by
    have := inN_full g 0 (by simpa using h) i a b hg (by simpa using hk)
    simp only [Bool.and_eq_true] at this
    exact ⟨fun _ => this.2, fun _ => this.1⟩
  | k + 1, out, h => by
    by_cases hc : Closed g keep out
    · exact (hRun_closed (k := k + 1) hc).1
    · obtain ⟨i, a, b, hg, hk, hn⟩ : ∃ i a b, g[i]? = some (a, b) ∧ keep i = true ∧ ¬ (out.testBit a = true ↔ out.testBit b = true) := by
        refine Classical.byContradiction fun hx => hc fun i a b hg hk => Classical.byContradiction fun hy => hx ⟨i, a, b, hg, hk, hy⟩
      have ht : (out.testBit a || out.testBit b) = true := by
        cases h1 : out.testBit a <;> cases h2 : out.testBit b <;> simp [h1, h2] at hn ⊢
      have hb : (out.testBit a && out.testBit b) = false := by
        cases h1 : out.testBit a <;> cases h2 : out.testBit b <;> simp [h1, h2] at hn ⊢
      obtain ⟨t1, t2⟩ := hPass_touch (i := 0) hg (by simpa using hk) ht
      have := inN_lt (keep := keep) (out := out) (out2 := hPass keep 0 g out) (fun x hx => hPass_mono hx) g 0 i hg (by simpa using hk) hb (by rw [t1, t2]; rfl)
      exact hRun_enough (k := k) (out := hPass keep 0 g out) (by omega)
/-- What 'so many rounds' reach is all that hangs together. -/
theorem hRun_is {g : GTw} {keep : Nat → Bool} {s k : Nat} (hk : g.length ≤ k) (x : Nat) : (hRun g keep k (1 <<< s)).testBit x = true ↔ Rch g keep s x := by
  have hs : (1 <<< s).testBit s = true := by rw [bit_one]; simp
  constructor
  · exact hRun_sound (fun y hy => by rw [bit_one] at hy; simp at hy; subst hy; exact .refl) x
  · exact fun h => (hRun_enough (k := k) (out := 1 <<< s) (by omega)).all (hRun_mono hs) h

end Go.Proofs.Ytobdpkkmkbafbaa
/-
  Green pictures: the list of knots that hang together, as the reference finds it (plain law).
-/
namespace Go.Proofs.Ytobdpkkmkbafbaa
set_option linter.unusedSimpArgs false
set_option linter.unusedVariables false

def addK (F : List Nat) (c : Bool) (b : Nat) : List Nat := if c && !F.contains b then F ++ [b] else F
/-- One twig, number 'i', seen from the knot 'x'. -/
def bStep (keep : Nat → Bool) (x i : Nat) (t : Nat × Nat) (F : List Nat) : List Nat := addK (addK F (keep i && t.1 == x) t.2) (keep i && t.2 == x) t.1
def bPass (keep : Nat → Bool) (x : Nat) : Nat → GTw → List Nat → List Nat
  | _, [], F => F
  | i, t :: g, F => bPass keep x (i + 1) g (bStep keep x i t F)
theorem addK_mem {F : List Nat} {c : Bool} {b y : Nat} : y ∈ addK F c b ↔ y ∈ F ∨ (c = true ∧ y = b) := by
  unfold addK
  by_cases h : (c && !F.contains b) = true
  · rw [if_pos h]
    simp only [Bool.and_eq_true] at h
    simp [h.1]
  · rw [if_neg h]
    constructor
    · exact .inl
    · rintro (h1 | ⟨h1, rfl⟩)
      · exact h1
      · subst h1; simpa using h
theorem addK_nodup {F : List Nat} {c : Bool} {b : Nat} (h : F.Nodup) : (addK F c b).Nodup := by
  unfold addK
  split
  · rename_i hc
    simp only [Bool.and_eq_true, Bool.not_eq_true', List.contains_eq_mem, decide_eq_false_iff_not] at hc
    rw [List.nodup_append]
    refine ⟨h, by simp, fun a ha b' hb' => ?_⟩
    simp at hb'
    subst hb'
    exact fun e => hc.2 (e ▸ ha)
  · exact h
theorem addK_pre (F : List Nat) (c : Bool) (b : Nat) : ∃ X, addK F c b = F ++ X := by
  unfold addK
  split
  · exact ⟨[b], rfl⟩
  · exact ⟨[], by simp⟩
theorem bStep_pre (keep : Nat → Bool) (x i : Nat) (t : Nat × Nat) (F : List Nat) : ∃ X, bStep keep x i t F = F ++ X := by
  obtain ⟨X, h1⟩ := addK_pre F (keep i && t.1 == x) t.2
  obtain ⟨Y, h2⟩ := addK_pre (addK F (keep i && t.1 == x) t.2) (keep i && t.2 == x) t.1
  exact ⟨X ++ Y, by unfold bStep; rw [h2, h1, List.append_assoc]⟩
theorem bPass_pre (keep : Nat → Bool) (x : Nat) : ∀ (g : GTw) (i : Nat) (F : List Nat), ∃ X, bPass keep x i g F = F ++ X
  | [], _, F => ⟨[], by simp [bPass]⟩
  | t :: g, i, F => by
    obtain ⟨X, h1⟩ := bStep_pre keep x i t F
    obtain ⟨Y, h2⟩ := bPass_pre keep x g (i + 1) (bStep keep x i t F)
    exact ⟨X ++ Y, by simp only [bPass]; rw [h2, h1, List.append_assoc]⟩
theorem bPass_nodup {keep : Nat → Bool} {x : Nat} : ∀ {g : GTw} {i : Nat} {F : List Nat}, F.Nodup → (bPass keep x i g F).Nodup
  | [], _, _, h => h
  | t :: g, i, F, h => bPass_nodup (g := g) (addK_nodup (addK_nodup h))
theorem bPass_sound {G : GTw} {keep : Nat → Bool} {s x : Nat} (hx : Rch G keep s x) : ∀ {l d : GTw} {F : List Nat}, G = d ++ l → (∀ y ∈ F, Rch G keep s y) → ∀ y ∈ bPass keep x d.length l F, Rch G keep s y
  | [], _, _, _, h => h
  | t :: l, d, F, hG, h => by
    obtain ⟨a, b⟩ := t
    have hg : G[d.length]? = some (a, b) := by rw [hG]; simp
    have h1 : ∀ y ∈ bStep keep x d.length (a, b) F, Rch G keep s y := fun y hy => by
      unfold bStep at hy
      rw [addK_mem, addK_mem] at hy
      simp only [Bool.and_eq_true, beq_iff_eq] at hy
      rcases hy with (hy | ⟨⟨hk, rfl⟩, rfl⟩) | ⟨⟨hk, rfl⟩, rfl⟩
      · exact h y hy
      · exact .fwd hg hk hx
      · exact .bwd hg hk hx
    have := bPass_sound hx (l := l) (d := d ++ [(a, b)]) (by rw [hG]; simp) h1
    simpa [bPass] using this
theorem bPass_touch {keep : Nat → Bool} {x a b : Nat} : ∀ {g : GTw} {i j : Nat} {F : List Nat}, g[j]? = some (a, b) → keep (i + j) = true → (a = x ∨ b = x) → x ∈ F → a ∈ bPass keep x i g F ∧ b ∈ bPass keep x i g F
  | [], _, _, _, hg, _, _, _ => by simp at hg
  | t :: g, i, 0, F, hg, hk, h, hx => by
    simp at hg
    subst hg
    simp only [Nat.add_zero] at hk
    obtain ⟨X, hX⟩ := bPass_pre keep x g (i + 1) (bStep keep x i (a, b) F)
    show a ∈ bPass keep x (i + 1) g (bStep keep x i (a, b) F) ∧ b ∈ bPass keep x (i + 1) g (bStep keep x i (a, b) F)
    rw [hX]
    have : a ∈ bStep keep x i (a, b) F ∧ b ∈ bStep keep x i (a, b) F := by
      unfold bStep
      rw [addK_mem, addK_mem, addK_mem, addK_mem]
      simp only [Bool.and_eq_true, beq_iff_eq, hk, true_and]
      rcases h with rfl | rfl
      · exact ⟨.inl (.inl hx), .inl (.inr ⟨rfl, trivial⟩)⟩
      · exact ⟨.inr ⟨rfl, trivial⟩, .inl (.inl hx)⟩
    exact ⟨List.mem_append_left _ this.1, List.mem_append_left _ this.2⟩
  | t :: g, i, j + 1, F, hg, hk, h, hx => by
    refine bPass_touch (g := g) (i := i + 1) (j := j) (by simpa using hg) (by rw [show i + 1 + j = i + (j + 1) by omega]; exact hk) h ?_
    obtain ⟨X, hX⟩ := bStep_pre keep x i t F
    rw [hX]; exact List.mem_append_left _ hx
/-- The list 'F', all knots of which up to 'k' have been looked at. -/
structure BfI (g : GTw) (keep : Nat → Bool) (s : Nat) (F : List Nat) (k : Nat) : Prop where
  nd : F.Nodup
  sub : ∀ x ∈ F, Rch g keep s x
  has : s ∈ F
  did : ∀ j x, j < k → F[j]? = some x → ∀ i a b, g[i]? = some (a, b) → keep i = true → a = x ∨ b = x → a ∈ F ∧ b ∈ F
theorem BfI.start (g : GTw) (keep : Nat → Bool) (s : Nat) : BfI g keep s [s] 0 := ⟨by simp, fun x hx => by simp at hx; subst hx; exact .refl, by simp, fun j x h => by omega⟩
theorem BfI.step {g : GTw} {keep : Nat → Bool} {s k x : Nat} {F : List Nat} (h : BfI g keep s F k) (hx : F[k]? = some x) : BfI g keep s (bPass keep x 0 g F) (k + 1) := by
  obtain ⟨X, hX⟩ := bPass_pre keep x g 0 F
  have hkl := (List.getElem?_eq_some_iff.1 hx).1
  have hxm := List.mem_of_getElem? hx
  refine ⟨bPass_nodup h.nd, bPass_sound (d := []) (h.sub x hxm) rfl h.sub, by rw [hX]; exact List.mem_append_left _ h.has, fun j y hj hy i a b hg hk hab => ?_⟩
  have hy2 : F[j]? = some y := by rw [hX, List.getElem?_append_left (by omega)] at hy; exact hy
  by_cases hjk : j < k
  · have := h.did j y hjk hy2 i a b hg hk hab
    rw [hX]
    exact ⟨List.mem_append_left _ this.1, List.mem_append_left _ this.2⟩
  · obtain rfl : j = k := by omega
    rw [hx] at hy2
    cases hy2
    exact bPass_touch (i := 0) hg (by simpa using hk) hab hxm
theorem BfI.done {g : GTw} {keep : Nat → Bool} {s : Nat} {F : List Nat} (h : BfI g keep s F F.length) (x : Nat) : x ∈ F ↔ Rch g keep s x := by
  refine ⟨h.sub x, fun hx => ?_⟩
  have cl : ∀ i a b, g[i]? = some (a, b) → keep i = true → (a ∈ F → b ∈ F) ∧ (b ∈ F → a ∈ F) := fun i a b hg hk =>
    ⟨fun ha => by
      obtain ⟨j, hj⟩ := List.mem_iff_getElem?.1 ha
      exact (h.did j a (List.getElem?_eq_some_iff.1 hj).1 hj i a b hg hk (.inl rfl)).2, fun hb => by
      obtain ⟨j, hj⟩ := List.mem_iff_getElem?.1 hb
      exact (h.did j b (List.getElem?_eq_some_iff.1 hj).1 hj i a b hg hk (.inr rfl)).1⟩
  induction hx with
  | refl => exact h.has
  | fwd hg hk _ ih => exact (cl _ _ _ hg hk).1 ih
  | bwd hg hk _ ih => exact (cl _ _ _ hg hk).2 ih

end Go.Proofs.Ytobdpkkmkbafbaa
/-
  Green pictures: grounded twigs, cuts, bridges (plain law).
-/
namespace Go.Proofs.Ytobdpkkmkbafbaa
set_option linter.unusedSimpArgs false
set_option linter.unusedVariables false

theorem Rch.mono {g : GTw} {k1 k2 : Nat → Bool} (h : ∀ i, k1 i = true → k2 i = true) {s x : Nat} (hx : Rch g k1 s x) : Rch g k2 s x := by
  induction hx with
  | refl => exact .refl
  | fwd hg hk _ ih => exact .fwd hg (h _ hk) ih
  | bwd hg hk _ ih => exact .bwd hg (h _ hk) ih
theorem Rch.trans {g : GTw} {k : Nat → Bool} {s x y : Nat} (h1 : Rch g k s x) (h2 : Rch g k x y) : Rch g k s y := by
  induction h2 with
  | refl => exact h1
  | fwd hg hk _ ih => exact .fwd hg hk ih
  | bwd hg hk _ ih => exact .bwd hg hk ih
theorem Rch.symm {g : GTw} {k : Nat → Bool} {s x : Nat} (h : Rch g k s x) : Rch g k x s := by
  induction h with
  | refl => exact .refl
  | fwd hg hk _ ih => exact (Rch.bwd hg hk .refl).trans ih
  | bwd hg hk _ ih => exact (Rch.fwd hg hk .refl).trans ih
/-- A grounded twig. -/
def Grd (g : GTw) (keep : Nat → Bool) (i : Nat) : Prop := ∃ a b, g[i]? = some (a, b) ∧ keep i = true ∧ Rch g keep 0 a
/-- All but one. -/
def butK (keep : Nat → Bool) (i : Nat) : Nat → Bool := fun j => keep j && j != i
/-- A cut of a twig whose ends hang together without it takes away nothing else. -/
theorem cut_same {g : GTw} {keep : Nat → Bool} {i a b : Nat} (hg : g[i]? = some (a, b)) (h : Rch g (butK keep i) a b) (s x : Nat) : Rch g keep s x ↔ Rch g (butK keep i) s x := by
  constructor
  · intro hx
    induction hx with
    | refl => exact .refl
    | @fwd j c d hj hk _ ih =>
      by_cases e : j = i
      · subst e; rw [hg] at hj; cases hj; exact ih.trans h
      · exact .fwd hj (by simp [butK, hk, e]) ih
    | @bwd j c d hj hk _ ih =>
      by_cases e : j = i
      · subst e; rw [hg] at hj; cases hj; exact ih.trans h.symm
      · exact .bwd hj (by simp [butK, hk, e]) ih
  · exact Rch.mono fun j hj => by simp only [butK, Bool.and_eq_true] at hj; exact hj.1
theorem cut_grd {g : GTw} {keep : Nat → Bool} {i a b : Nat} (hg : g[i]? = some (a, b)) (h : Rch g (butK keep i) a b) (j : Nat) : Grd g (butK keep i) j ↔ Grd g keep j ∧ j ≠ i := by
  constructor
  · rintro ⟨c, d, h1, h2, h3⟩
    simp only [butK, Bool.and_eq_true, bne_iff_ne] at h2
    exact ⟨⟨c, d, h1, h2.1, (cut_same hg h 0 c).2 h3⟩, h2.2⟩
  · rintro ⟨⟨c, d, h1, h2, h3⟩, h4⟩
    exact ⟨c, d, h1, by simp [butK, h2, h4], (cut_same hg h 0 c).1 h3⟩

/-! ### the program's grounded twigs -/
def gStep (keep : Nat → Bool) (i : Nat) (t : Nat × Nat) (q : Nat × Nat) : Nat × Nat :=
  if keep i && (q.1.testBit t.1 || q.1.testBit t.2) then (q.1 ||| (1 <<< t.1 ||| 1 <<< t.2), q.2 ||| 1 <<< i) else q
def gPass (keep : Nat → Bool) : Nat → GTw → Nat × Nat → Nat × Nat
  | _, [], q => q
  | i, t :: g, q => gPass keep (i + 1) g (gStep keep i t q)
def gRun (g : GTw) (keep : Nat → Bool) : Nat → Nat × Nat → Nat × Nat
  | 0, q => q
  | k + 1, q => gRun g keep k (gPass keep 0 g q)
theorem gStep_fst (keep : Nat → Bool) (i : Nat) (t : Nat × Nat) (q : Nat × Nat) : (gStep keep i t q).1 = hStep keep i t q.1 := by
  unfold gStep hStep; split <;> rfl
theorem gPass_fst (keep : Nat → Bool) : ∀ (g : GTw) (i : Nat) (q : Nat × Nat), (gPass keep i g q).1 = hPass keep i g q.1
  | [], _, _ => rfl
  | t :: g, i, q => by simp only [gPass, hPass]; rw [gPass_fst keep g, gStep_fst]
theorem gRun_fst (g : GTw) (keep : Nat → Bool) : ∀ (k : Nat) (q : Nat × Nat), (gRun g keep k q).1 = hRun g keep k q.1
  | 0, _ => rfl
  | k + 1, q => by simp only [gRun, hRun]; rw [gRun_fst g keep k, gPass_fst]
theorem gRun_last (g : GTw) (keep : Nat → Bool) : ∀ (k : Nat) (q : Nat × Nat), gRun g keep (k + 1) q = gPass keep 0 g (gRun g keep k q)
  | 0, _ => rfl
  | k + 1, q => gRun_last g keep k _
theorem gStep_snd (keep : Nat → Bool) (i : Nat) (t : Nat × Nat) (q : Nat × Nat) (x : Nat) : (gStep keep i t q).2.testBit x = (q.2.testBit x || (keep i && (q.1.testBit t.1 || q.1.testBit t.2) && decide (i = x))) := by
  unfold gStep
  split
  · rename_i h
    rw [h, Nat.testBit_or, bit_one, Bool.true_and]
  · rename_i h
    have h : (keep i && (q.1.testBit t.1 || q.1.testBit t.2)) = false := by simpa using h
    rw [h, Bool.false_and, Bool.or_false]
/-- Both sets so far: what is reached and the twigs. -/
structure GrI (g : GTw) (keep : Nat → Bool) (q : Nat × Nat) : Prop where
  r : ∀ x, q.1.testBit x = true → Rch g keep 0 x
  t : ∀ i, q.2.testBit i = true → Grd g keep i
theorem GrI.step {g : GTw} {keep : Nat → Bool} {i : Nat} {t : Nat × Nat} {q : Nat × Nat} (h : GrI g keep q) (hg : g[i]? = some t) : GrI g keep (gStep keep i t q) := by
  refine ⟨fun x hx => ?_, fun x hx => ?_⟩
  · rw [gStep_fst] at hx; exact hStep_sound hg h.r x hx
  · rw [gStep_snd] at hx
    simp only [Bool.or_eq_true, Bool.and_eq_true, decide_eq_true_eq] at hx
    rcases hx with hx | ⟨⟨hk, ht⟩, rfl⟩
    · exact h.t x hx
    · obtain ⟨a, b⟩ := t
      refine ⟨a, b, hg, hk, ?_⟩
      rcases ht with ht | ht
      · exact h.r _ ht
      · exact .bwd hg hk (h.r _ ht)
theorem GrI.pass {g : GTw} {keep : Nat → Bool} : ∀ {l d : GTw} {q : Nat × Nat}, g = d ++ l → GrI g keep q → GrI g keep (gPass keep d.length l q)
  | [], _, _, _, h => h
  | t :: l, d, q, hg, h => by
    have := GrI.pass (l := l) (d := d ++ [t]) (by rw [hg]; simp) (h.step (i := d.length) (t := t) (by rw [hg]; simp))
    simpa [gPass] using this
theorem GrI.run {g : GTw} {keep : Nat → Bool} : ∀ {k : Nat} {q : Nat × Nat}, GrI g keep q → GrI g keep (gRun g keep k q)
  | 0, _, h => h
  | k + 1, q, h => GrI.run (k := k) (GrI.pass (d := []) rfl h)
theorem gPass_snd_mono {keep : Nat → Bool} {x : Nat} : ∀ {g : GTw} {i : Nat} {q : Nat × Nat}, q.2.testBit x = true → (gPass keep i g q).2.testBit x = true
  | [], _, _, h => h
  | t :: g, i, q, h => gPass_snd_mono (g := g) (q := gStep keep i t q) (by rw [gStep_snd, h, Bool.true_or])
theorem gPass_set {keep : Nat → Bool} {a b : Nat} : ∀ {g : GTw} {i j : Nat} {q : Nat × Nat}, g[j]? = some (a, b) → keep (i + j) = true → q.1.testBit a = true → (gPass keep i g q).2.testBit (i + j) = true
  | [], _, _, _, hg, _, _ => by simp at hg
  | t :: g, i, 0, q, hg, hk, h => by
    simp at hg
    subst hg
    simp only [Nat.add_zero] at hk ⊢
    exact gPass_snd_mono (q := gStep keep i (a, b) q) (by rw [gStep_snd, hk, h]; simp)
  | t :: g, i, j + 1, q, hg, hk, h => by
    have := gPass_set (g := g) (i := i + 1) (j := j) (q := gStep keep i t q) (by simpa using hg) (by rw [show i + 1 + j = i + (j + 1) by omega]; exact hk) (by rw [gStep_fst]; exact hStep_mono h)
    rw [show i + (j + 1) = i + 1 + j by omega]; exact this
/-- The program's grounded twigs are the grounded twigs. -/
theorem gRun_is (g : GTw) (keep : Nat → Bool) (i : Nat) : (gRun g keep (g.length + 1) (1, 0)).2.testBit i = true ↔ Grd g keep i := by
  have h0 : GrI g keep (1, 0) := ⟨fun x hx => by
    have : x = 0 := by
      rw [show (1 : Nat) = 1 <<< 0 from rfl, bit_one] at hx; simp at hx; exact hx.symm
    subst this; exact .refl, fun i hi => by simp at hi⟩
  constructor
  · exact fun h => (GrI.run h0).t i h
  · rintro ⟨a, b, hg, hk, hr⟩
    rw [gRun_last]
    have := gPass_set (i := 0) (q := gRun g keep g.length (1, 0)) hg (by simpa using hk) (by
      rw [gRun_fst]
      exact (hRun_is (s := 0) (Nat.le_refl _) a).2 hr)
    simpa using this

end Go.Proofs.Ytobdpkkmkbafbaa
/-
  Green pictures: a stalk (plain law).
-/
namespace Go.Proofs.Ytobdpkkmkbafbaa
set_option linter.unusedSimpArgs false
set_option linter.unusedVariables false

def stalk (n : Nat) : GTw := (List.range n).map fun k => (k, k + 1)
theorem stalk_get {n i : Nat} {t : Nat × Nat} (h : (stalk n)[i]? = some t) : i < n ∧ t = (i, i + 1) := by
  unfold stalk at h
  rw [List.getElem?_map] at h
  obtain ⟨k, h1, rfl⟩ := Option.map_eq_some_iff.1 h
  have h2 := (List.getElem?_eq_some_iff.1 h1).1
  rw [List.length_range] at h2
  rw [List.getElem?_range h2] at h1
  cases h1
  exact ⟨h2, rfl⟩
theorem stalk_at {n i : Nat} (h : i < n) : (stalk n)[i]? = some (i, i + 1) := by
  unfold stalk; rw [List.getElem?_map, List.getElem?_range h]; rfl
/-- What hangs on the ground where the twig 'i' is the first that lacks. -/
theorem stalk_rch {n i : Nat} {keep : Nat → Bool} (hi : i ≤ n) (h1 : ∀ j, j < i → keep j = true) (h2 : keep i = false) (x : Nat) : Rch (stalk n) keep 0 x ↔ x ≤ i := by
  constructor
  · intro hx
    induction hx with
    | refl => omega
    | @fwd j a b hg hk _ ih =>
      obtain ⟨_, e⟩ := stalk_get hg
      cases e
      have : j ≠ i := fun e => by subst e; rw [h2] at hk; cases hk
      omega
    | @bwd j a b hg hk _ ih =>
      obtain ⟨_, e⟩ := stalk_get hg
      cases e
      omega
  · intro hx
    induction x with
    | zero => exact .refl
    | succ x ih => exact .fwd (stalk_at (by omega)) (h1 x (by omega)) (ih (by omega))
theorem stalk_grd {n i : Nat} {keep : Nat → Bool} (hi : i ≤ n) (h1 : ∀ j, j < i → keep j = true) (h2 : keep i = false) (j : Nat) : Grd (stalk n) keep j ↔ j < i := by
  constructor
  · rintro ⟨a, b, hg, hk, hr⟩
    obtain ⟨_, e⟩ := stalk_get hg
    cases e
    have h3 := (stalk_rch hi h1 h2 j).1 hr
    have : j ≠ i := fun e => by subst e; rw [h2] at hk; cases hk
    omega
  · exact fun hj => ⟨j, j + 1, stalk_at (by omega), h1 j hj, (stalk_rch hi h1 h2 j).2 (by omega)⟩

/-! ### counting -/
/-- The numbers below 'n' in a set, in order. -/
def below (n : Nat) (p : Nat → Bool) : List Nat := (List.range n).filter p
theorem below_len_le {n : Nat} {p q : Nat → Bool} (h : ∀ i, i < n → p i = true → q i = true) : (below n p).length ≤ (below n q).length := by
  unfold below
  induction n with
  | zero => simp
  | succ n ih =>
    have ih := ih fun i hi => h i (by omega)
    rw [List.range_succ, List.filter_append, List.filter_append, List.length_append, List.length_append]
    have := h n (by omega)
    cases hp : p n
    · simp [hp]; omega
    · simp [hp, this hp]; omega
/-- A part is all of it if and only if it has as many. -/
theorem below_len_eq {n : Nat} {p q : Nat → Bool} (h : ∀ i, i < n → p i = true → q i = true) : (below n p).length = (below n q).length ↔ ∀ i, i < n → q i = p i := by
  induction n with
  | zero => simp [below]
  | succ n ih =>
    have ih := ih fun i hi => h i (by omega)
    have hle := below_len_le (n := n) (p := p) (q := q) fun i hi => h i (by omega)
    have e : ∀ r : Nat → Bool, (below (n + 1) r).length = (below n r).length + (if r n then 1 else 0) := fun r => by
      unfold below
      rw [List.range_succ, List.filter_append, List.length_append]
      cases hr : r n <;> simp [hr]
    rw [e, e]
    have hn := h n (by omega)
    constructor
    · intro hl i hi
      have h1 : (below n p).length = (below n q).length ∧ q n = p n := by
        cases hp : p n <;> cases hq : q n
        · simp [hp, hq] at hl; exact ⟨hl, rfl⟩
        · simp [hp, hq] at hl; omega
        · rw [hn hp] at hq; cases hq
        · simp [hp, hq] at hl; exact ⟨hl, rfl⟩
      rcases Nat.lt_succ_iff_lt_or_eq.1 hi with hi | rfl
      · exact ih.1 h1.1 i hi
      · exact h1.2
    · intro hall
      rw [ih.2 fun i hi => hall i (by omega), hall n (by omega)]
/-- One less. -/
theorem below_but {n i : Nat} {p q : Nat → Bool} (hi : i < n) (hp : p i = true) (hq : ∀ j, q j = (p j && j != i)) : (below n q).length + 1 = (below n p).length := by
  induction n with
  | zero => omega
  | succ n ih =>
    have e : ∀ r : Nat → Bool, (below (n + 1) r).length = (below n r).length + (if r n then 1 else 0) := fun r => by
      unfold below
      rw [List.range_succ, List.filter_append, List.length_append]
      cases hr : r n <;> simp [hr]
    rw [e, e]
    rcases Nat.lt_succ_iff_lt_or_eq.1 hi with h | rfl
    · have := ih h
      have hne : (n != i) = true := by simp; omega
      rw [hq n, hne, Bool.and_true]; omega
    · have h1 : (below i q) = below i p := by
        unfold below
        refine List.filter_congr fun j hj => ?_
        have := List.mem_range.1 hj
        have hne : (j != i) = true := by simp; omega
        rw [hq j, hne, Bool.and_true]
      rw [h1, hq i, hp]; simp

end Go.Proofs.Ytobdpkkmkbafbaa
/-
  Sets as unsigned numbers: what the program's bit operations do to them.
-/
namespace Go.Proofs.Ytobdpkkmkbafbaa
open Go
set_option linter.unusedSimpArgs false
set_option linter.unusedVariables false

theorem u64_id {x : Int} (h0 : 0 ≤ x) (h1 : x < 18446744073709551616) : IntKind.u64.wrap x = x := by
  show x.emod (2 ^ 64) = x
  exact Int.emod_eq_of_lt h0 (by omega)
theorem s64_id {x : Int} (h1 : -9223372036854775808 ≤ x) (h2 : x < 9223372036854775808) : IntKind.i64.wrap x = x := by
  show (let m := x % (2 ^ 64 : Int); if true && m ≥ (2 ^ 63 : Int) then m - (2 ^ 64 : Int) else m) = x
  simp only [Bool.true_and, decide_eq_true_eq]
  omega
theorem bv_nat (a : Nat) : BitVec.ofInt 64 (a : Int) = BitVec.ofNat 64 a := by simp
theorem bits_or {a b : Nat} (ha : a < 2 ^ 32) (hb : b < 2 ^ 32) : Go.bits .or .u64 a b = ((a ||| b : Nat) : Int) := by
  have h : a ||| b < 2 ^ 32 := Nat.or_lt_two_pow ha hb
  show IntKind.u64.wrap ((BitVec.ofInt 64 (a : Int) ||| BitVec.ofInt 64 (b : Int)).toNat : Int) = _
  rw [bv_nat, bv_nat, BitVec.toNat_or, BitVec.toNat_ofNat, BitVec.toNat_ofNat, Nat.mod_eq_of_lt (by omega), Nat.mod_eq_of_lt (by omega)]
  exact u64_id (by omega) (by omega)
theorem bits_and {a b : Nat} (ha : a < 2 ^ 32) (hb : b < 2 ^ 32) : Go.bits .and .u64 a b = ((a &&& b : Nat) : Int) := by
  have h : a &&& b < 2 ^ 32 := Nat.and_lt_two_pow _ hb
  show IntKind.u64.wrap ((BitVec.ofInt 64 (a : Int) &&& BitVec.ofInt 64 (b : Int)).toNat : Int) = _
  rw [bv_nat, bv_nat, BitVec.toNat_and, BitVec.toNat_ofNat, BitVec.toNat_ofNat, Nat.mod_eq_of_lt (by omega), Nat.mod_eq_of_lt (by omega)]
  exact u64_id (by omega) (by omega)
/-- All of 'a' that is not in 'b'. -/
def andNot (a b : Nat) : Nat := (BitVec.ofNat 64 a &&& ~~~BitVec.ofNat 64 b).toNat
theorem andNot_bit {a b : Nat} (ha : a < 2 ^ 32) (x : Nat) : (andNot a b).testBit x = (a.testBit x && !b.testBit x) := by
  unfold andNot
  rw [BitVec.testBit_toNat, BitVec.getLsbD_and, BitVec.getLsbD_not, BitVec.getLsbD_ofNat, BitVec.getLsbD_ofNat]
  by_cases hx : x < 64
  · simp [hx]
  · have : a.testBit x = false := Nat.testBit_lt_two_pow (Nat.lt_of_lt_of_le ha (Nat.pow_le_pow_right (by omega) (by omega)))
    simp [this]
theorem andNot_lt {a b : Nat} (ha : a < 2 ^ 32) : andNot a b < 2 ^ 32 := by
  refine Nat.lt_pow_two_of_testBit _ fun i hi => ?_
  rw [andNot_bit ha, Nat.testBit_lt_two_pow (Nat.lt_of_lt_of_le ha (Nat.pow_le_pow_right (by omega) hi))]
  rfl
theorem bits_andNot {a b : Nat} (ha : a < 2 ^ 32) : Go.bits .andNot .u64 a b = ((andNot a b : Nat) : Int) := by
  have h := andNot_lt (b := b) ha
  show IntKind.u64.wrap ((BitVec.ofInt 64 (a : Int) &&& ~~~BitVec.ofInt 64 (b : Int)).toNat : Int) = _
  rw [bv_nat, bv_nat]
  show IntKind.u64.wrap ((andNot a b : Nat) : Int) = _
  exact u64_id (by omega) (by omega)
/-- '1 << a'. -/
theorem shl_one {a : Nat} (ha : a < 32) : IntKind.u64.wrap (1 * 2 ^ min a IntKind.u64.bits) = ((1 <<< a : Nat) : Int) := by
  show IntKind.u64.wrap (1 * 2 ^ min a 64) = ((1 <<< a : Nat) : Int)
  rw [Nat.min_eq_left (by omega), Nat.one_shiftLeft, Int.one_mul, u64_id]
  · simp
  · exact Int.le_of_lt (Int.pow_pos (by omega))
  · have : (2 : Nat) ^ a ≤ 2 ^ 32 := Nat.pow_le_pow_right (by omega) (by omega)
    have h2 : ((2 : Int) ^ a) = ((2 ^ a : Nat) : Int) := by simp
    rw [h2]; omega
/-- 'set >> i & 1'. -/
theorem bit_of (s : Nat) (i : Nat) (hs : s < 2 ^ 32) : Go.bits .and .u64 ((s : Int).fdiv (2 ^ min i IntKind.u64.bits)) 1 = ((s.testBit i).toNat : Int) := by
  show Go.bits .and .u64 ((s : Int).fdiv (2 ^ min i 64)) 1 = ((s.testBit i).toNat : Int)
  have h1 : (s : Int).fdiv (2 ^ min i 64) = ((s / 2 ^ min i 64 : Nat) : Int) := by
    rw [Int.fdiv_eq_ediv_of_nonneg _ (Int.le_of_lt (Int.pow_pos (by omega)))]
    simp
  have h2 : s / 2 ^ min i 64 < 2 ^ 32 := Nat.lt_of_le_of_lt (Nat.div_le_self _ _) hs
  have h3 : s.testBit (min i 64) = s.testBit i := by
    by_cases hi : i ≤ 64
    · rw [Nat.min_eq_left hi]
    · rw [Nat.min_eq_right (by omega), Nat.testBit_lt_two_pow (Nat.lt_of_lt_of_le hs (Nat.pow_le_pow_right (by omega) (by omega))), Nat.testBit_lt_two_pow (Nat.lt_of_lt_of_le hs (Nat.pow_le_pow_right (by omega) (by omega)))]
  rw [h1]
  have := bits_and (a := s / 2 ^ min i 64) (b := 1) h2 (by omega)
  rw [show ((1 : Nat) : Int) = 1 from rfl] at this
  rw [this, Nat.and_one_is_mod, ← h3, Nat.testBit_eq_decide_div_mod_eq]
  rcases Nat.mod_two_eq_zero_or_one (s / 2 ^ min i 64) with h | h <;> simp [h]

end Go.Proofs.Ytobdpkkmkbafbaa
/-
  Green pictures: what hangs together, as the program finds it.
-/
namespace Go.Proofs.Ytobdpkkmkbafbaa
open Go K
set_option linter.unusedSimpArgs false
set_option linter.unusedVariables false
set_option maxHeartbeats 3200000
set_option maxRecDepth 8000

def twE (t : Nat × Nat) : AV := .agg [.int .i64 t.1, .int .i64 t.2]
/-- A right picture. -/
def Pic (g : GTw) : Prop := g.length ≤ 14 ∧ ∀ t ∈ g, t.1 ≤ 12 ∧ t.2 ≤ 12
theorem shl_lt {a : Nat} (h : a ≤ 12) : 1 <<< a < 2 ^ 13 := by
  rw [Nat.one_shiftLeft]
  exact Nat.lt_of_le_of_lt (Nat.pow_le_pow_right (by omega) h) (by omega)
theorem hStep_lt {keep : Nat → Bool} {i out : Nat} {t : Nat × Nat} (h : out < 2 ^ 13) (h1 : t.1 ≤ 12) (h2 : t.2 ≤ 12) : hStep keep i t out < 2 ^ 13 := by
  unfold hStep
  split
  · exact Nat.or_lt_two_pow h (Nat.or_lt_two_pow (shl_lt h1) (shl_lt h2))
  · exact h
structure HuS where
  d : GTw
  r : GTw
  out : Nat
  X : List AObj
theorem hung_ok (g : GTw) (s k : Nat) (hg : Pic g) (hs : s < 2 ^ 14) (hk : k ≤ 12) : Ct Try.prog 51 [.sl false (g.map twE), .int .u64 s, .int .i64 k] [] (.int .u64 (hRun g s.testBit g.length (1 <<< k) : Nat)) [] := by
  have hsh := shl_one (a := k) (by omega)
  refine Ct.by_ hmix [ 8000000] Try.func51 rfl ?_
  simp only [run0, run1, run2, run3, run4, run5, run6, run7, run8, run9, run10, run11, run12, run13, run14, run15, run16, run17, run18, run19, run20, run21, run22, reduceCtorEq, Nat.reduceEqDiff, Nat.reduceAdd, Nat.reduceSub, Nat.reduceLeDiff, indexAddrA, indexRefA, appendA, strA, Nat.reduceMul, Nat.zero_mul, Nat.reduceMod, Int.reduceEq, Int.reduceLT, Int.reduceLE, Nat.reduceLT, Nat.lt_irrefl, Nat.reduceBEq, tys0, tys1, tys2, tys3, tys4, tys5, tys6, tys7, tys8, tys9, tys10, Try.ntmps51, Try.results51, List.length_map, Int.toNat_natCast, Int.natCast_nonneg, hsh]
  refine AWp.loop_inv (ι := Nat × Nat × List AObj) (fun p => ⟨[.sl false (g.map twE), .int .u64 s, .junk, .junk, .junk, .junk, .junk, .int .u64 (p.2.1 : Nat), .junk, .junk, .junk, .junk, .junk, .int .i64 g.length, .int .i64 p.1, .junk, .junk, .junk, .junk, .junk, .junk, .junk, .junk, .junk, .junk, .junk, .junk, .junk, .junk, .junk, .junk, .junk, .junk, .junk, .junk, .junk, .junk, .junk, .junk, .junk, .junk, .junk, .junk, .junk, .junk, .junk, .junk, .junk, .junk, .junk, .junk, .junk, .junk, .junk, .junk, .junk], p.2.2⟩)
    (fun p => p.1 ≤ g.length ∧ p.2.1 < 2 ^ 13 ∧ hRun g s.testBit (g.length - p.1) p.2.1 = hRun g s.testBit g.length (1 <<< k)) (fun p => g.length - p.1) ⟨0, 1 <<< k, []⟩ ⟨Nat.zero_le _, shl_lt hk, rfl⟩ ⟨by simp only [Int.natCast_zero]; repeat constructor, rfl⟩ ?_
  rintro ⟨n, out, X⟩ ⟨hn, ho, h4⟩
  refine W.sound hmix (E := [8000000]) ?_
  simp only at hn ho h4
  rw [← h4]
  have hgl := hg.1
  by_cases hnl : n = g.length
  · have e1 : ¬ ((n : Int) < (g.length : Int)) := by omega
    simp only [run0, run1, run2, run3, run4, run5, run6, run7, run8, run9, run10, run11, run12, run13, run14, run15, run16, run17, run18, run19, run20, run21, run22, reduceCtorEq, Nat.reduceEqDiff, Nat.reduceAdd, Nat.reduceSub, Nat.reduceLeDiff, indexAddrA, indexRefA, appendA, strA, Nat.reduceMul, Nat.zero_mul, Nat.reduceMod, Int.reduceEq, Int.reduceLT, Int.reduceLE, Nat.reduceLT, Nat.lt_irrefl, Nat.reduceBEq, tys0, tys1, tys2, tys3, tys4, tys5, tys6, tys7, tys8, tys9, tys10, Try.ntmps51, Try.results51, e1]
    exact Fin.eq (by rw [hnl, Nat.sub_self]; rfl) rfl
  have e1 : (n : Int) < (g.length : Int) := by omega
  have e5 : IntKind.i64.wrap ((n : Int) + 1) = ((n + 1 : Nat) : Int) := by rw [show IntKind.i64.wrap ((n : Int) + 1) = (n : Int) + 1 from s64_id (by omega) (by omega)]; simp
  simp only [run0, run1, run2, run3, run4, run5, run6, run7, run8, run9, run10, run11, run12, run13, run14, run15, run16, run17, run18, run19, run20, run21, run22, reduceCtorEq, Nat.reduceEqDiff, Nat.reduceAdd, Nat.reduceSub, Nat.reduceLeDiff, indexAddrA, indexRefA, appendA, strA, Nat.reduceMul, Nat.zero_mul, Nat.reduceMod, Int.reduceEq, Int.reduceLT, Int.reduceLE, Nat.reduceLT, Nat.lt_irrefl, Nat.reduceBEq, tys0, tys1, tys2, tys3, tys4, tys5, tys6, tys7, tys8, tys9, tys10, Try.ntmps51, Try.results51, e1, List.length_map]
  refine AWp.loop_inv (ι := HuS) (fun p => ⟨[.sl false (g.map twE), .int .u64 s, .junk, .junk, .junk, .junk, .junk, .int .u64 (p.out : Nat), .junk, .junk, .junk, .junk, .junk, .int .i64 g.length, .int .i64 n, .junk, .sl false (g.map twE), .int .i64 g.length, .int .i64 p.d.length, .junk, .junk, .junk, .junk, .junk, .junk, .junk, .junk, .junk, .junk, .junk, .junk, .junk, .junk, .junk, .junk, .junk, .junk, .junk, .junk, .junk, .junk, .junk, .junk, .junk, .junk, .junk, .junk, .junk, .junk, .junk, .junk, .junk, .junk, .junk, .junk, .junk], p.X⟩)
    (fun p => g = p.d ++ p.r ∧ p.out < 2 ^ 13 ∧ hPass s.testBit p.d.length p.r p.out = hPass s.testBit 0 g out) (fun p => p.r.length) ⟨[], g, out, X⟩ ⟨rfl, ho, rfl⟩ ⟨by simp only [List.length_nil, Int.natCast_zero]; repeat constructor, rfl⟩ ?_
  rintro ⟨d, r, o2, Y⟩ ⟨ha, ho2, h5⟩
  refine W.sound hmix (E := [8000000]) ?_
  simp only at ha ho2 h5
  have hda : d.length + r.length = g.length := by rw [ha, List.length_append]
  cases r with
  | nil =>
    have f1 : ¬ ((d.length : Int) < (g.length : Int)) := by simp at hda; omega
    simp only [run0, run1, run2, run3, run4, run5, run6, run7, run8, run9, run10, run11, run12, run13, run14, run15, run16, run17, run18, run19, run20, run21, run22, reduceCtorEq, Nat.reduceEqDiff, Nat.reduceAdd, Nat.reduceSub, Nat.reduceLeDiff, indexAddrA, indexRefA, appendA, strA, Nat.reduceMul, Nat.zero_mul, Nat.reduceMod, Int.reduceEq, Int.reduceLT, Int.reduceLE, Nat.reduceLT, Nat.lt_irrefl, Nat.reduceBEq, tys0, tys1, tys2, tys3, tys4, tys5, tys6, tys7, tys8, tys9, tys10, Try.ntmps51, Try.results51, f1, e5]
    refine ⟨⟨n + 1, o2, Y⟩, ⟨by simp only; omega, ho2, ?_⟩, by simp only; omega, by repeat constructor, rfl⟩
    have h6 : o2 = hPass s.testBit 0 g out := h5
    rw [h6]
    rw [show g.length - n = (g.length - (n + 1)) + 1 by omega]
    rfl
  | cons t r =>
    obtain ⟨a, b⟩ := t
    simp only [List.length_cons] at hda
    have f1 : (d.length : Int) < (g.length : Int) := by omega
    have f2 : (g.map twE)[d.length]? = some (.agg [.int .i64 (a : Int), .int .i64 (b : Int)]) := by rw [ha]; simp [twE]
    have f5 : IntKind.i64.wrap ((d.length : Int) + 1) = ((d ++ [(a, b)]).length : Int) := by rw [show IntKind.i64.wrap ((d.length : Int) + 1) = (d.length : Int) + 1 from s64_id (by omega) (by omega)]; simp
    obtain ⟨ha1, hb1⟩ := hg.2 (a, b) (by rw [ha]; simp)
    have b1 := bit_of s d.length (by omega)
    have b2 := bit_of o2 a (by omega)
    have b3 := bit_of o2 b (by omega)
    have hsa := shl_one (a := a) (by omega)
    have hsb := shl_one (a := b) (by omega)
    have hor1 := bits_or (a := 1 <<< a) (b := 1 <<< b) (Nat.lt_trans (shl_lt ha1) (by omega)) (Nat.lt_trans (shl_lt hb1) (by omega))
    have hor2 := bits_or (a := o2) (b := 1 <<< a ||| 1 <<< b) (by omega) (Nat.lt_trans (Nat.or_lt_two_pow (shl_lt ha1) (shl_lt hb1)) (by omega))
    have z1 : ((1 : Int) == 1) = true := rfl
    have z0 : ((0 : Int) == 1) = false := rfl
    have h6 := hStep_lt (keep := s.testBit) (i := d.length) (t := (a, b)) ho2 ha1 hb1
    cases c1 : s.testBit d.length
    · rw [c1] at b1
      have hst : hStep s.testBit d.length (a, b) o2 = o2 := by unfold hStep; rw [c1]; rfl
      simp only [run0, run1, run2, run3, run4, run5, run6, run7, run8, run9, run10, run11, run12, run13, run14, run15, run16, run17, run18, run19, run20, run21, run22, reduceCtorEq, Nat.reduceEqDiff, Nat.reduceAdd, Nat.reduceSub, Nat.reduceLeDiff, indexAddrA, indexRefA, appendA, strA, Nat.reduceMul, Nat.zero_mul, Nat.reduceMod, Int.reduceEq, Int.reduceLT, Int.reduceLE, Nat.reduceLT, Nat.lt_irrefl, Nat.reduceBEq, tys0, tys1, tys2, tys3, tys4, tys5, tys6, tys7, tys8, tys9, tys10, Try.ntmps51, Try.results51, f1, f2, f5, b1, b2, b3, hsa, hsb, hor1, hor2, Int.toNat_natCast, Int.natCast_nonneg, Bool.toNat_false, Bool.toNat_true, Int.natCast_zero, Int.natCast_one, z0, z1]
      exact ⟨⟨d ++ [(a, b)], r, o2, _⟩, ⟨by rw [ha]; simp, ho2, by rw [← h5]; simp only [hPass, List.length_append, List.length_cons, List.length_nil, Nat.zero_add]; rw [hst]⟩, by simp, by simp only [List.length_append, List.length_cons, List.length_nil, Nat.zero_add]; repeat constructor, rfl⟩
    · rw [c1] at b1
      cases c2 : o2.testBit a
      · cases c3 : o2.testBit b
        · rw [c2] at b2
          rw [c3] at b3
          have hst : hStep s.testBit d.length (a, b) o2 = o2 := by unfold hStep; simp [c1, c2, c3]
          simp only [run0, run1, run2, run3, run4, run5, run6, run7, run8, run9, run10, run11, run12, run13, run14, run15, run16, run17, run18, run19, run20, run21, run22, reduceCtorEq, Nat.reduceEqDiff, Nat.reduceAdd, Nat.reduceSub, Nat.reduceLeDiff, indexAddrA, indexRefA, appendA, strA, Nat.reduceMul, Nat.zero_mul, Nat.reduceMod, Int.reduceEq, Int.reduceLT, Int.reduceLE, Nat.reduceLT, Nat.lt_irrefl, Nat.reduceBEq, tys0, tys1, tys2, tys3, tys4, tys5, tys6, tys7, tys8, tys9, tys10, Try.ntmps51, Try.results51, f1, f2, f5, b1, b2, b3, hsa, hsb, hor1, hor2, Int.toNat_natCast, Int.natCast_nonneg, Bool.toNat_false, Bool.toNat_true, Int.natCast_zero, Int.natCast_one, z0, z1]
          exact ⟨⟨d ++ [(a, b)], r, o2, _⟩, ⟨by rw [ha]; simp, ho2, by rw [← h5]; simp only [hPass, List.length_append, List.length_cons, List.length_nil, Nat.zero_add]; rw [hst]⟩, by simp, by simp only [List.length_append, List.length_cons, List.length_nil, Nat.zero_add]; repeat constructor, rfl⟩
        · rw [c2] at b2
          rw [c3] at b3
          have hst : hStep s.testBit d.length (a, b) o2 = o2 ||| (1 <<< a ||| 1 <<< b) := by unfold hStep; simp [c1, c2, c3]
          rw [hst] at h6
          simp only [run0, run1, run2, run3, run4, run5, run6, run7, run8, run9, run10, run11, run12, run13, run14, run15, run16, run17, run18, run19, run20, run21, run22, reduceCtorEq, Nat.reduceEqDiff, Nat.reduceAdd, Nat.reduceSub, Nat.reduceLeDiff, indexAddrA, indexRefA, appendA, strA, Nat.reduceMul, Nat.zero_mul, Nat.reduceMod, Int.reduceEq, Int.reduceLT, Int.reduceLE, Nat.reduceLT, Nat.lt_irrefl, Nat.reduceBEq, tys0, tys1, tys2, tys3, tys4, tys5, tys6, tys7, tys8, tys9, tys10, Try.ntmps51, Try.results51, f1, f2, f5, b1, b2, b3, hsa, hsb, hor1, hor2, Int.toNat_natCast, Int.natCast_nonneg, Bool.toNat_false, Bool.toNat_true, Int.natCast_zero, Int.natCast_one, z0, z1]
          refine ⟨[0, 1, 2, 3, 4, 5, 6, 7, 8, 9], by kernel_rfl, ?_⟩
          simp only [run0, run1, run2, run3, run4, run5, run6, run7, run8, run9, run10, run11, run12, run13, run14, run15, run16, run17, run18, run19, run20, run21, run22, reduceCtorEq, Nat.reduceEqDiff, Nat.reduceAdd, Nat.reduceSub, Nat.reduceLeDiff, indexAddrA, indexRefA, appendA, strA, Nat.reduceMul, Nat.zero_mul, Nat.reduceMod, Int.reduceEq, Int.reduceLT, Int.reduceLE, Nat.reduceLT, Nat.lt_irrefl, Nat.reduceBEq, tys0, tys1, tys2, tys3, tys4, tys5, tys6, tys7, tys8, tys9, tys10, Try.ntmps51, Try.results51, f1, f2, f5, b1, b2, b3, hsa, hsb, hor1, hor2, Int.toNat_natCast, Int.natCast_nonneg, Bool.toNat_false, Bool.toNat_true, Int.natCast_zero, Int.natCast_one, z0, z1]
          exact ⟨⟨d ++ [(a, b)], r, (o2 ||| (1 <<< a ||| 1 <<< b)), _⟩, ⟨by rw [ha]; simp, h6, by rw [← h5]; simp only [hPass, List.length_append, List.length_cons, List.length_nil, Nat.zero_add]; rw [hst]⟩, by simp, by simp only [List.length_append, List.length_cons, List.length_nil, Nat.zero_add]; repeat constructor, rfl⟩
      · rw [c2] at b2
        have hst : hStep s.testBit d.length (a, b) o2 = o2 ||| (1 <<< a ||| 1 <<< b) := by unfold hStep; simp [c1, c2]
        rw [hst] at h6
        simp only [run0, run1, run2, run3, run4, run5, run6, run7, run8, run9, run10, run11, run12, run13, run14, run15, run16, run17, run18, run19, run20, run21, run22, reduceCtorEq, Nat.reduceEqDiff, Nat.reduceAdd, Nat.reduceSub, Nat.reduceLeDiff, indexAddrA, indexRefA, appendA, strA, Nat.reduceMul, Nat.zero_mul, Nat.reduceMod, Int.reduceEq, Int.reduceLT, Int.reduceLE, Nat.reduceLT, Nat.lt_irrefl, Nat.reduceBEq, tys0, tys1, tys2, tys3, tys4, tys5, tys6, tys7, tys8, tys9, tys10, Try.ntmps51, Try.results51, f1, f2, f5, b1, b2, b3, hsa, hsb, hor1, hor2, Int.toNat_natCast, Int.natCast_nonneg, Bool.toNat_false, Bool.toNat_true, Int.natCast_zero, Int.natCast_one, z0, z1]
        refine ⟨[0, 1, 2, 3, 4, 5, 6, 7, 8, 9], by kernel_rfl, ?_⟩
        simp only [run0, run1, run2, run3, run4, run5, run6, run7, run8, run9, run10, run11, run12, run13, run14, run15, run16, run17, run18, run19, run20, run21, run22, reduceCtorEq, Nat.reduceEqDiff, Nat.reduceAdd, Nat.reduceSub, Nat.reduceLeDiff, indexAddrA, indexRefA, appendA, strA, Nat.reduceMul, Nat.zero_mul, Nat.reduceMod, Int.reduceEq, Int.reduceLT, Int.reduceLE, Nat.reduceLT, Nat.lt_irrefl, Nat.reduceBEq, tys0, tys1, tys2, tys3, tys4, tys5, tys6, tys7, tys8, tys9, tys10, Try.ntmps51, Try.results51, f1, f2, f5, b1, b2, b3, hsa, hsb, hor1, hor2, Int.toNat_natCast, Int.natCast_nonneg, Bool.toNat_false, Bool.toNat_true, Int.natCast_zero, Int.natCast_one, z0, z1]
        exact ⟨⟨d ++ [(a, b)], r, (o2 ||| (1 <<< a ||| 1 <<< b)), _⟩, ⟨by rw [ha]; simp, h6, by rw [← h5]; simp only [hPass, List.length_append, List.length_cons, List.length_nil, Nat.zero_add]; rw [hst]⟩, by simp, by simp only [List.length_append, List.length_cons, List.length_nil, Nat.zero_add]; repeat constructor, rfl⟩

end Go.Proofs.Ytobdpkkmkbafbaa
/-
  Green pictures: grounded twigs, as the program finds them.
-/
namespace Go.Proofs.Ytobdpkkmkbafbaa
open Go K
set_option linter.unusedSimpArgs false
set_option linter.unusedVariables false
set_option maxHeartbeats 3200000
set_option maxRecDepth 8000

theorem shl_lt14 {a : Nat} (h : a ≤ 13) : 1 <<< a < 2 ^ 14 := by
  rw [Nat.one_shiftLeft]
  exact Nat.lt_of_le_of_lt (Nat.pow_le_pow_right (by omega) h) (by omega)
structure GuS where
  d : GTw
  r : GTw
  q : Nat × Nat
  X : List AObj
theorem grounded_ok (g : GTw) (s : Nat) (hg : Pic g) (hs : s < 2 ^ 14) : Ct Try.prog 31 [.sl false (g.map twE), .int .u64 s] [] (.int .u64 ((gRun g s.testBit (g.length + 1) (1, 0)).2 : Nat)) [] := by
  have hgl := hg.1
  have hl1 : IntKind.i64.wrap ((g.length : Int) + 1) = ((g.length + 1 : Nat) : Int) := by rw [s64_id (by omega) (by omega)]; simp
  refine Ct.by_ hmix [ 8000000] Try.func31 rfl ?_
  simp only [run0, run1, run2, run3, run4, run5, run6, run7, run8, run9, run10, run11, run12, run13, run14, run15, run16, run17, run18, run19, run20, run21, run22, reduceCtorEq, Nat.reduceEqDiff, Nat.reduceAdd, Nat.reduceSub, Nat.reduceLeDiff, indexAddrA, indexRefA, appendA, strA, Nat.reduceMul, Nat.zero_mul, Nat.reduceMod, Int.reduceEq, Int.reduceLT, Int.reduceLE, Nat.reduceLT, Nat.lt_irrefl, Nat.reduceBEq, tys0, tys1, tys2, tys3, tys4, tys5, tys6, tys7, tys8, tys9, tys10, Try.ntmps31, Try.results31, List.length_map, hl1]
  refine AWp.loop_inv (ι := Nat × (Nat × Nat) × List AObj) (fun p => ⟨[.sl false (g.map twE), .int .u64 s, .junk, .junk, .junk, .int .u64 (p.2.1.1 : Nat), .int .u64 (p.2.1.2 : Nat), .junk, .junk, .junk, .junk, .int .i64 ((g.length + 1 : Nat) : Int), .int .i64 p.1, .junk, .junk, .junk, .junk, .junk, .junk, .junk, .junk, .junk, .junk, .junk, .junk, .junk, .junk, .junk, .junk, .junk, .junk, .junk, .junk, .junk, .junk, .junk, .junk, .junk, .junk, .junk, .junk, .junk, .junk, .junk, .junk, .junk, .junk, .junk, .junk, .junk, .junk, .junk, .junk, .junk, .junk, .junk, .junk, .junk], p.2.2⟩)
    (fun p => p.1 ≤ g.length + 1 ∧ (p.2.1.1 < 2 ^ 13 ∧ p.2.1.2 < 2 ^ 14) ∧ gRun g s.testBit (g.length + 1 - p.1) p.2.1 = gRun g s.testBit (g.length + 1) (1, 0)) (fun p => g.length + 1 - p.1) ⟨0, (1, 0), []⟩ ⟨Nat.zero_le _, ⟨by decide, by decide⟩, rfl⟩ ⟨by simp only [Int.natCast_zero, Int.natCast_one]; repeat constructor, rfl⟩ ?_
  rintro ⟨n, ⟨out, tw⟩, X⟩ ⟨hn, ho, h4⟩
  refine W.sound hmix (E := [8000000]) ?_
  simp only at hn ho h4
  rw [← h4]
  by_cases hnl : n = g.length + 1
  · have e1 : ¬ ((n : Int) < ((g.length + 1 : Nat) : Int)) := by omega
    simp only [run0, run1, run2, run3, run4, run5, run6, run7, run8, run9, run10, run11, run12, run13, run14, run15, run16, run17, run18, run19, run20, run21, run22, reduceCtorEq, Nat.reduceEqDiff, Nat.reduceAdd, Nat.reduceSub, Nat.reduceLeDiff, indexAddrA, indexRefA, appendA, strA, Nat.reduceMul, Nat.zero_mul, Nat.reduceMod, Int.reduceEq, Int.reduceLT, Int.reduceLE, Nat.reduceLT, Nat.lt_irrefl, Nat.reduceBEq, tys0, tys1, tys2, tys3, tys4, tys5, tys6, tys7, tys8, tys9, tys10, Try.ntmps31, Try.results31, e1]
    exact Fin.eq (by rw [hnl, Nat.sub_self]; rfl) rfl
  have e1 : (n : Int) < ((g.length + 1 : Nat) : Int) := by omega
  have e5 : IntKind.i64.wrap ((n : Int) + 1) = ((n + 1 : Nat) : Int) := by rw [s64_id (by omega) (by omega)]; simp
  simp only [run0, run1, run2, run3, run4, run5, run6, run7, run8, run9, run10, run11, run12, run13, run14, run15, run16, run17, run18, run19, run20, run21, run22, reduceCtorEq, Nat.reduceEqDiff, Nat.reduceAdd, Nat.reduceSub, Nat.reduceLeDiff, indexAddrA, indexRefA, appendA, strA, Nat.reduceMul, Nat.zero_mul, Nat.reduceMod, Int.reduceEq, Int.reduceLT, Int.reduceLE, Nat.reduceLT, Nat.lt_irrefl, Nat.reduceBEq, tys0, tys1, tys2, tys3, tys4, tys5, tys6, tys7, tys8, tys9, tys10, Try.ntmps31, Try.results31, e1, List.length_map]
  refine AWp.loop_inv (ι := GuS) (fun p => ⟨[.sl false (g.map twE), .int .u64 s, .junk, .junk, .junk, .int .u64 (p.q.1 : Nat), .int .u64 (p.q.2 : Nat), .junk, .junk, .junk, .junk, .int .i64 ((g.length + 1 : Nat) : Int), .int .i64 n, .junk, .sl false (g.map twE), .int .i64 g.length, .int .i64 p.d.length, .junk, .junk, .junk, .junk, .junk, .junk, .junk, .junk, .junk, .junk, .junk, .junk, .junk, .junk, .junk, .junk, .junk, .junk, .junk, .junk, .junk, .junk, .junk, .junk, .junk, .junk, .junk, .junk, .junk, .junk, .junk, .junk, .junk, .junk, .junk, .junk, .junk, .junk, .junk, .junk, .junk], p.X⟩)
    (fun p => g = p.d ++ p.r ∧ (p.q.1 < 2 ^ 13 ∧ p.q.2 < 2 ^ 14) ∧ gPass s.testBit p.d.length p.r p.q = gPass s.testBit 0 g (out, tw)) (fun p => p.r.length) ⟨[], g, (out, tw), X⟩ ⟨rfl, ho, rfl⟩ ⟨by simp only [List.length_nil, Int.natCast_zero]; repeat constructor, rfl⟩ ?_
  rintro ⟨d, r, ⟨o2, m2⟩, Y⟩ ⟨ha, ho2, h5⟩
  refine W.sound hmix (E := [8000000]) ?_
  simp only at ha ho2 h5
  have hda : d.length + r.length = g.length := by rw [ha, List.length_append]
  cases r with
  | nil =>
    have f1 : ¬ ((d.length : Int) < (g.length : Int)) := by simp at hda; omega
    simp only [run0, run1, run2, run3, run4, run5, run6, run7, run8, run9, run10, run11, run12, run13, run14, run15, run16, run17, run18, run19, run20, run21, run22, reduceCtorEq, Nat.reduceEqDiff, Nat.reduceAdd, Nat.reduceSub, Nat.reduceLeDiff, indexAddrA, indexRefA, appendA, strA, Nat.reduceMul, Nat.zero_mul, Nat.reduceMod, Int.reduceEq, Int.reduceLT, Int.reduceLE, Nat.reduceLT, Nat.lt_irrefl, Nat.reduceBEq, tys0, tys1, tys2, tys3, tys4, tys5, tys6, tys7, tys8, tys9, tys10, Try.ntmps31, Try.results31, f1, e5]
    refine ⟨⟨n + 1, (o2, m2), Y⟩, ⟨by simp only; omega, ho2, ?_⟩, by simp only; omega, by repeat constructor, rfl⟩
    have h6 : (o2, m2) = gPass s.testBit 0 g (out, tw) := h5
    show gRun g s.testBit (g.length + 1 - (n + 1)) (o2, m2) = _
    rw [h6]
    rw [show g.length + 1 - n = (g.length + 1 - (n + 1)) + 1 by omega]
    rfl
  | cons t r =>
    obtain ⟨a, b⟩ := t
    obtain ⟨ho2, hm2⟩ := ho2
    simp only [List.length_cons] at hda
    have f1 : (d.length : Int) < (g.length : Int) := by omega
    have f2 : (g.map twE)[d.length]? = some (.agg [.int .i64 (a : Int), .int .i64 (b : Int)]) := by rw [ha]; simp [twE]
    have f5 : IntKind.i64.wrap ((d.length : Int) + 1) = ((d ++ [(a, b)]).length : Int) := by rw [s64_id (by omega) (by omega)]; simp
    obtain ⟨ha1, hb1⟩ := hg.2 (a, b) (by rw [ha]; simp)
    have b1 := bit_of s d.length (by omega)
    have b2 := bit_of o2 a (by omega)
    have b3 := bit_of o2 b (by omega)
    have hsa := shl_one (a := a) (by omega)
    have hsb := shl_one (a := b) (by omega)
    have hsd := shl_one (a := d.length) (by omega)
    have hdl := shl_lt14 (a := d.length) (by omega)
    have hor1 := bits_or (a := 1 <<< a) (b := 1 <<< b) (Nat.lt_trans (shl_lt ha1) (by omega)) (Nat.lt_trans (shl_lt hb1) (by omega))
    have hor2 := bits_or (a := o2) (b := 1 <<< a ||| 1 <<< b) (by omega) (Nat.lt_trans (Nat.or_lt_two_pow (shl_lt ha1) (shl_lt hb1)) (by omega))
    have hor3 := bits_or (a := m2) (b := 1 <<< d.length) (by omega) (by omega)
    have z1 : ((1 : Int) == 1) = true := rfl
    have z0 : ((0 : Int) == 1) = false := rfl
    have h6 : (o2 ||| (1 <<< a ||| 1 <<< b)) < 2 ^ 13 ∧ (m2 ||| 1 <<< d.length) < 2 ^ 14 := ⟨Nat.or_lt_two_pow ho2 (Nat.or_lt_two_pow (shl_lt ha1) (shl_lt hb1)), Nat.or_lt_two_pow hm2 hdl⟩
    cases c1 : s.testBit d.length
    · rw [c1] at b1
      have hst : gStep s.testBit d.length (a, b) (o2, m2) = (o2, m2) := by unfold gStep; rw [c1]; rfl
      simp only [run0, run1, run2, run3, run4, run5, run6, run7, run8, run9, run10, run11, run12, run13, run14, run15, run16, run17, run18, run19, run20, run21, run22, reduceCtorEq, Nat.reduceEqDiff, Nat.reduceAdd, Nat.reduceSub, Nat.reduceLeDiff, indexAddrA, indexRefA, appendA, strA, Nat.reduceMul, Nat.zero_mul, Nat.reduceMod, Int.reduceEq, Int.reduceLT, Int.reduceLE, Nat.reduceLT, Nat.lt_irrefl, Nat.reduceBEq, tys0, tys1, tys2, tys3, tys4, tys5, tys6, tys7, tys8, tys9, tys10, Try.ntmps31, Try.results31, f1, f2, f5, b1, b2, b3, hsa, hsb, hsd, hor1, hor2, hor3, Int.toNat_natCast, Int.natCast_nonneg, Bool.toNat_false, Bool.toNat_true, Int.natCast_zero, Int.natCast_one, z0, z1]
      exact ⟨⟨d ++ [(a, b)], r, (o2, m2), _⟩, ⟨by rw [ha]; simp, ⟨ho2, hm2⟩, by rw [← h5]; simp only [gPass, List.length_append, List.length_cons, List.length_nil, Nat.zero_add]; rw [hst]⟩, by simp, by simp only [List.length_append, List.length_cons, List.length_nil, Nat.zero_add]; repeat constructor, rfl⟩
    · rw [c1] at b1
      cases c2 : o2.testBit a
      · cases c3 : o2.testBit b
        · rw [c2] at b2
          rw [c3] at b3
          have hst : gStep s.testBit d.length (a, b) (o2, m2) = (o2, m2) := by unfold gStep; simp [c1, c2, c3]
          simp only [run0, run1, run2, run3, run4, run5, run6, run7, run8, run9, run10, run11, run12, run13, run14, run15, run16, run17, run18, run19, run20, run21, run22, reduceCtorEq, Nat.reduceEqDiff, Nat.reduceAdd, Nat.reduceSub, Nat.reduceLeDiff, indexAddrA, indexRefA, appendA, strA, Nat.reduceMul, Nat.zero_mul, Nat.reduceMod, Int.reduceEq, Int.reduceLT, Int.reduceLE, Nat.reduceLT, Nat.lt_irrefl, Nat.reduceBEq, tys0, tys1, tys2, tys3, tys4, tys5, tys6, tys7, tys8, tys9, tys10, Try.ntmps31, Try.results31, f1, f2, f5, b1, b2, b3, hsa, hsb, hsd, hor1, hor2, hor3, Int.toNat_natCast, Int.natCast_nonneg, Bool.toNat_false, Bool.toNat_true, Int.natCast_zero, Int.natCast_one, z0, z1]
          exact ⟨⟨d ++ [(a, b)], r, (o2, m2), _⟩, ⟨by rw [ha]; simp, ⟨ho2, hm2⟩, by rw [← h5]; simp only [gPass, List.length_append, List.length_cons, List.length_nil, Nat.zero_add]; rw [hst]⟩, by simp, by simp only [List.length_append, List.length_cons, List.length_nil, Nat.zero_add]; repeat constructor, rfl⟩
        · rw [c2] at b2
          rw [c3] at b3
          have hst : gStep s.testBit d.length (a, b) (o2, m2) = (o2 ||| (1 <<< a ||| 1 <<< b), m2 ||| 1 <<< d.length) := by unfold gStep; simp [c1, c2, c3]
          simp only [run0, run1, run2, run3, run4, run5, run6, run7, run8, run9, run10, run11, run12, run13, run14, run15, run16, run17, run18, run19, run20, run21, run22, reduceCtorEq, Nat.reduceEqDiff, Nat.reduceAdd, Nat.reduceSub, Nat.reduceLeDiff, indexAddrA, indexRefA, appendA, strA, Nat.reduceMul, Nat.zero_mul, Nat.reduceMod, Int.reduceEq, Int.reduceLT, Int.reduceLE, Nat.reduceLT, Nat.lt_irrefl, Nat.reduceBEq, tys0, tys1, tys2, tys3, tys4, tys5, tys6, tys7, tys8, tys9, tys10, Try.ntmps31, Try.results31, f1, f2, f5, b1, b2, b3, hsa, hsb, hsd, hor1, hor2, hor3, Int.toNat_natCast, Int.natCast_nonneg, Bool.toNat_false, Bool.toNat_true, Int.natCast_zero, Int.natCast_one, z0, z1]
          refine ⟨[0, 1, 2, 3, 4, 5, 6, 7, 8, 9], by kernel_rfl, ?_⟩
          simp only [run0, run1, run2, run3, run4, run5, run6, run7, run8, run9, run10, run11, run12, run13, run14, run15, run16, run17, run18, run19, run20, run21, run22, reduceCtorEq, Nat.reduceEqDiff, Nat.reduceAdd, Nat.reduceSub, Nat.reduceLeDiff, indexAddrA, indexRefA, appendA, strA, Nat.reduceMul, Nat.zero_mul, Nat.reduceMod, Int.reduceEq, Int.reduceLT, Int.reduceLE, Nat.reduceLT, Nat.lt_irrefl, Nat.reduceBEq, tys0, tys1, tys2, tys3, tys4, tys5, tys6, tys7, tys8, tys9, tys10, Try.ntmps31, Try.results31, f1, f2, f5, b1, b2, b3, hsa, hsb, hsd, hor1, hor2, hor3, Int.toNat_natCast, Int.natCast_nonneg, Bool.toNat_false, Bool.toNat_true, Int.natCast_zero, Int.natCast_one, z0, z1]
          exact ⟨⟨d ++ [(a, b)], r, (o2 ||| (1 <<< a ||| 1 <<< b), m2 ||| 1 <<< d.length), _⟩, ⟨by rw [ha]; simp, h6, by rw [← h5]; simp only [gPass, List.length_append, List.length_cons, List.length_nil, Nat.zero_add]; rw [hst]⟩, by simp, by simp only [List.length_append, List.length_cons, List.length_nil, Nat.zero_add]; repeat constructor, rfl⟩
      · rw [c2] at b2
        have hst : gStep s.testBit d.length (a, b) (o2, m2) = (o2 ||| (1 <<< a ||| 1 <<< b), m2 ||| 1 <<< d.length) := by unfold gStep; simp [c1, c2]
        simp only [run0, run1, run2, run3, run4, run5, run6, run7, run8, run9, run10, run11, run12, run13, run14, run15, run16, run17, run18, run19, run20, run21, run22, reduceCtorEq, Nat.reduceEqDiff, Nat.reduceAdd, Nat.reduceSub, Nat.reduceLeDiff, indexAddrA, indexRefA, appendA, strA, Nat.reduceMul, Nat.zero_mul, Nat.reduceMod, Int.reduceEq, Int.reduceLT, Int.reduceLE, Nat.reduceLT, Nat.lt_irrefl, Nat.reduceBEq, tys0, tys1, tys2, tys3, tys4, tys5, tys6, tys7, tys8, tys9, tys10, Try.ntmps31, Try.results31, f1, f2, f5, b1, b2, b3, hsa, hsb, hsd, hor1, hor2, hor3, Int.toNat_natCast, Int.natCast_nonneg, Bool.toNat_false, Bool.toNat_true, Int.natCast_zero, Int.natCast_one, z0, z1]
        refine ⟨[0, 1, 2, 3, 4, 5, 6, 7, 8, 9], by kernel_rfl, ?_⟩
        simp only [run0, run1, run2, run3, run4, run5, run6, run7, run8, run9, run10, run11, run12, run13, run14, run15, run16, run17, run18, run19, run20, run21, run22, reduceCtorEq, Nat.reduceEqDiff, Nat.reduceAdd, Nat.reduceSub, Nat.reduceLeDiff, indexAddrA, indexRefA, appendA, strA, Nat.reduceMul, Nat.zero_mul, Nat.reduceMod, Int.reduceEq, Int.reduceLT, Int.reduceLE, Nat.reduceLT, Nat.lt_irrefl, Nat.reduceBEq, tys0, tys1, tys2, tys3, tys4, tys5, tys6, tys7, tys8, tys9, tys10, Try.ntmps31, Try.results31, f1, f2, f5, b1, b2, b3, hsa, hsb, hsd, hor1, hor2, hor3, Int.toNat_natCast, Int.natCast_nonneg, Bool.toNat_false, Bool.toNat_true, Int.natCast_zero, Int.natCast_one, z0, z1]
        exact ⟨⟨d ++ [(a, b)], r, (o2 ||| (1 <<< a ||| 1 <<< b), m2 ||| 1 <<< d.length), _⟩, ⟨by rw [ha]; simp, h6, by rw [← h5]; simp only [gPass, List.length_append, List.length_cons, List.length_nil, Nat.zero_add]; rw [hst]⟩, by simp, by simp only [List.length_append, List.length_cons, List.length_nil, Nat.zero_add]; repeat constructor, rfl⟩

end Go.Proofs.Ytobdpkkmkbafbaa
/-
  Green pictures: bridges, as the program finds them.
-/
namespace Go.Proofs.Ytobdpkkmkbafbaa
open Go K
set_option linter.unusedSimpArgs false
set_option linter.unusedVariables false
set_option maxHeartbeats 3200000
set_option maxRecDepth 8000

theorem hPass_lt {keep : Nat → Bool} : ∀ {g : GTw} {i out : Nat}, out < 2 ^ 13 → (∀ t ∈ g, t.1 ≤ 12 ∧ t.2 ≤ 12) → hPass keep i g out < 2 ^ 13
  | [], _, _, h, _ => h
  | t :: g, i, out, h, hg => hPass_lt (g := g) (hStep_lt h (hg t (by simp)).1 (hg t (by simp)).2) fun u hu => hg u (by simp [hu])
theorem hRun_lt {g : GTw} {keep : Nat → Bool} (hg : Pic g) : ∀ {k out : Nat}, out < 2 ^ 13 → hRun g keep k out < 2 ^ 13
  | 0, _, h => h
  | k + 1, out, h => hRun_lt hg (k := k) (hPass_lt h hg.2)
theorem gRun_lt {g : GTw} {keep : Nat → Bool} (hg : Pic g) : (gRun g keep (g.length + 1) (1, 0)).2 < 2 ^ 14 := by
  refine Nat.lt_pow_two_of_testBit _ fun i hi => ?_
  cases h : (gRun g keep (g.length + 1) (1, 0)).2.testBit i with
  | false => rfl
  | true =>
    obtain ⟨a, b, h1, _, _⟩ := (gRun_is g keep i).1 h
    have := (List.getElem?_eq_some_iff.1 h1).1
    have := hg.1
    omega
/-- All twigs. -/
def allM (g : GTw) : Nat := 2 ^ g.length - 1
theorem allM_lt {g : GTw} (hg : Pic g) : allM g < 2 ^ 14 := by
  have : 2 ^ g.length ≤ 2 ^ 14 := Nat.pow_le_pow_right (by omega) hg.1
  unfold allM; omega
theorem allM_bit (g : GTw) (i : Nat) : (allM g).testBit i = decide (i < g.length) := by unfold allM; rw [Nat.testBit_two_pow_sub_one]
theorem all_ok (g : GTw) (hg : Pic g) : Ct Try.prog 32 [.sl false (g.map twE)] [] (.int .u64 (allM g : Nat)) [] := by
  have hgl := hg.1
  have hsh := shl_one (a := g.length) (by omega)
  have hal := allM_lt hg
  have hp : 0 < 2 ^ g.length := Nat.pow_pos (by omega)
  have hw : IntKind.u64.wrap (((1 <<< g.length : Nat) : Int) - 1) = ((allM g : Nat) : Int) := by
    have e : ((1 <<< g.length : Nat) : Int) - 1 = ((allM g : Nat) : Int) := by rw [Nat.one_shiftLeft]; unfold allM; omega
    rw [e]; exact u64_id (by omega) (by omega)
  refine Ct.by_ hmix [] Try.func32 rfl ?_
  simp only [run0, run1, run2, run3, run4, run5, run6, run7, run8, run9, run10, run11, run12, run13, run14, run15, run16, run17, run18, run19, run20, run21, run22, reduceCtorEq, Nat.reduceEqDiff, Nat.reduceAdd, Nat.reduceSub, Nat.reduceLeDiff, indexAddrA, indexRefA, appendA, strA, Nat.reduceMul, Nat.zero_mul, Nat.reduceMod, Int.reduceEq, Int.reduceLT, Int.reduceLE, Nat.reduceLT, Nat.lt_irrefl, Nat.reduceBEq, tys0, tys1, tys2, tys3, tys4, tys5, tys6, tys7, tys8, tys9, tys10, Try.ntmps32, Try.results32, List.length_map, Int.toNat_natCast, Int.natCast_nonneg, hsh, hw]
  exact Fin.eq rfl rfl

end Go.Proofs.Ytobdpkkmkbafbaa
/-
  Green pictures: bridges, as the program finds them.
-/
namespace Go.Proofs.Ytobdpkkmkbafbaa
open Go K
set_option linter.unusedSimpArgs false
set_option linter.unusedVariables false
set_option maxHeartbeats 3200000
set_option maxRecDepth 8000

/-- Whether the twig 'i' is a bridge of the twigs of a set. -/
def isBr (g : GTw) (set i : Nat) (t : Nat × Nat) : Bool := set.testBit i && !(hRun g (andNot set (1 <<< i)).testBit g.length (1 <<< t.1)).testBit t.2
def brPass (g : GTw) (set : Nat) : Nat → GTw → Nat → Nat
  | _, [], out => out
  | i, t :: r, out => brPass g set (i + 1) r (if isBr g set i t then out ||| 1 <<< i else out)
/-- The grounded twigs of a picture. -/
def gSet (g : GTw) : Nat := (gRun g (allM g).testBit (g.length + 1) (1, 0)).2
structure BrS where
  d : GTw
  r : GTw
  out : Nat
  X : List AObj
theorem bridges_ok (g : GTw) (hg : Pic g) : Ct Try.prog 33 [.sl false (g.map twE)] [] (.int .u64 (brPass g (gSet g) 0 g 0 : Nat)) [] := by
  have hgl := hg.1
  have hpu : pureL (g.map twE) = true := by
    clear hg hgl
    induction g with
    | nil => rfl
    | cons t g ih => simp only [List.map_cons, twE, pureL, pureB, Bool.true_and]; exact ih
  refine Ct.by_ hmix [ 8000000, 1000031] Try.func33 rfl ?_
  simp only [run0, run1, run2, run3, run4, run5, run6, run7, run8, run9, run10, run11, run12, run13, run14, run15, run16, run17, run18, run19, run20, run21, run22, reduceCtorEq, Nat.reduceEqDiff, Nat.reduceAdd, Nat.reduceSub, Nat.reduceLeDiff, indexAddrA, indexRefA, appendA, strA, Nat.reduceMul, Nat.zero_mul, Nat.reduceMod, Int.reduceEq, Int.reduceLT, Int.reduceLE, Nat.reduceLT, Nat.lt_irrefl, Nat.reduceBEq, tys0, tys1, tys2, tys3, tys4, tys5, tys6, tys7, tys8, tys9, tys10, Try.ntmps33, Try.results33]
  refine RunL.callp rfl rfl ok_f32 (all_ok g hg) (by simp only [pureL, pureB, hpu, Bool.and_self]) rfl ?_
  simp only [run0, run1, run2, run3, run4, run5, run6, run7, run8, run9, run10, run11, run12, run13, run14, run15, run16, run17, run18, run19, run20, run21, run22, reduceCtorEq, Nat.reduceEqDiff, Nat.reduceAdd, Nat.reduceSub, Nat.reduceLeDiff, indexAddrA, indexRefA, appendA, strA, Nat.reduceMul, Nat.zero_mul, Nat.reduceMod, Int.reduceEq, Int.reduceLT, Int.reduceLE, Nat.reduceLT, Nat.lt_irrefl, Nat.reduceBEq, tys0, tys1, tys2, tys3, tys4, tys5, tys6, tys7, tys8, tys9, tys10, Try.ntmps33, Try.results33]
  refine RunL.callp rfl rfl ok_f31 (grounded_ok g (allM g) hg (allM_lt hg)) (by simp only [pureL, pureB, hpu, Bool.and_self]) rfl ?_
  simp only [run0, run1, run2, run3, run4, run5, run6, run7, run8, run9, run10, run11, run12, run13, run14, run15, run16, run17, run18, run19, run20, run21, run22, reduceCtorEq, Nat.reduceEqDiff, Nat.reduceAdd, Nat.reduceSub, Nat.reduceLeDiff, indexAddrA, indexRefA, appendA, strA, Nat.reduceMul, Nat.zero_mul, Nat.reduceMod, Int.reduceEq, Int.reduceLT, Int.reduceLE, Nat.reduceLT, Nat.lt_irrefl, Nat.reduceBEq, tys0, tys1, tys2, tys3, tys4, tys5, tys6, tys7, tys8, tys9, tys10, Try.ntmps33, Try.results33, List.length_map]
  have hset : gSet g < 2 ^ 14 := gRun_lt hg
  show AWp _ _ _ _
  rw [show (gRun g (allM g).testBit (g.length + 1) (1, 0)).2 = gSet g from rfl]
  refine AWp.loop_inv (ι := BrS) (fun p => ⟨[.sl false (g.map twE), .junk, .junk, .int .u64 (gSet g : Nat), .int .u64 (p.out : Nat), .junk, .junk, .junk, .junk, .junk, .junk, .sl false (g.map twE), .int .i64 g.length, .int .i64 p.d.length, .junk, .junk, .junk, .junk, .junk, .junk, .junk, .junk, .junk, .junk, .junk, .junk, .junk, .junk, .junk, .junk, .junk, .junk, .junk, .junk, .junk, .junk, .junk, .junk, .junk, .junk, .junk, .junk, .junk, .junk], p.X⟩)
    (fun p => g = p.d ++ p.r ∧ p.out < 2 ^ 14 ∧ brPass g (gSet g) p.d.length p.r p.out = brPass g (gSet g) 0 g 0) (fun p => p.r.length) ⟨[], g, 0, []⟩ ⟨rfl, by simp, rfl⟩ ⟨by simp only [List.length_nil, Int.natCast_zero]; repeat constructor, rfl⟩ ?_
  generalize gSet g = set at *
  rintro ⟨d, r, out, Y⟩ ⟨ha, ho, h5⟩
  refine W.sound hmix (E := [8000000, 1000031]) ?_
  simp only at ha ho h5
  have hda : d.length + r.length = g.length := by rw [ha, List.length_append]
  cases r with
  | nil =>
    have f1 : ¬ ((d.length : Int) < (g.length : Int)) := by simp at hda; omega
    simp only [run0, run1, run2, run3, run4, run5, run6, run7, run8, run9, run10, run11, run12, run13, run14, run15, run16, run17, run18, run19, run20, run21, run22, reduceCtorEq, Nat.reduceEqDiff, Nat.reduceAdd, Nat.reduceSub, Nat.reduceLeDiff, indexAddrA, indexRefA, appendA, strA, Nat.reduceMul, Nat.zero_mul, Nat.reduceMod, Int.reduceEq, Int.reduceLT, Int.reduceLE, Nat.reduceLT, Nat.lt_irrefl, Nat.reduceBEq, tys0, tys1, tys2, tys3, tys4, tys5, tys6, tys7, tys8, tys9, tys10, Try.ntmps33, Try.results33, f1]
    exact Fin.eq (by rw [← h5]; rfl) rfl
  | cons t r =>
    obtain ⟨a, b⟩ := t
    simp only [List.length_cons] at hda
    have f1 : (d.length : Int) < (g.length : Int) := by omega
    have f2 : (g.map twE)[d.length]? = some (.agg [.int .i64 (a : Int), .int .i64 (b : Int)]) := by rw [ha]; simp [twE]
    have f5 : IntKind.i64.wrap ((d.length : Int) + 1) = ((d ++ [(a, b)]).length : Int) := by rw [s64_id (by omega) (by omega)]; simp
    obtain ⟨ha1, hb1⟩ := hg.2 (a, b) (by rw [ha]; simp)
    have b1 := bit_of set d.length (by omega)
    have hsd := shl_one (a := d.length) (by omega)
    have z1 : ((1 : Int) == 1) = true := rfl
    have z0 : ((0 : Int) == 1) = false := rfl
    have z2 : ((1 : Int) == 0) = false := rfl
    have z3 : ((0 : Int) == 0) = true := rfl
    have hdl := shl_lt14 (a := d.length) (by omega)
    have hAN := bits_andNot (a := set) (b := 1 <<< d.length) (by omega)
    have hor := bits_or (a := out) (b := 1 <<< d.length) (by omega) (by omega)
    have h6 : (out ||| 1 <<< d.length) < 2 ^ 14 := Nat.or_lt_two_pow ho hdl
    have hanl : andNot set (1 <<< d.length) < 2 ^ 14 := by
      refine Nat.lt_pow_two_of_testBit _ fun i hi => ?_
      rw [andNot_bit (by omega), Nat.testBit_lt_two_pow (Nat.lt_of_lt_of_le hset (Nat.pow_le_pow_right (by omega) hi))]; rfl
    have hrl := hRun_lt hg (keep := (andNot set (1 <<< d.length)).testBit) (k := g.length) (shl_lt ha1)
    have b3 := bit_of (hRun g (andNot set (1 <<< d.length)).testBit g.length (1 <<< a)) b (Nat.lt_trans hrl (by omega))
    cases c1 : set.testBit d.length
    · rw [c1] at b1
      have hst : isBr g set d.length (a, b) = false := by unfold isBr; rw [c1]; rfl
      simp only [run0, run1, run2, run3, run4, run5, run6, run7, run8, run9, run10, run11, run12, run13, run14, run15, run16, run17, run18, run19, run20, run21, run22, reduceCtorEq, Nat.reduceEqDiff, Nat.reduceAdd, Nat.reduceSub, Nat.reduceLeDiff, indexAddrA, indexRefA, appendA, strA, Nat.reduceMul, Nat.zero_mul, Nat.reduceMod, Int.reduceEq, Int.reduceLT, Int.reduceLE, Nat.reduceLT, Nat.lt_irrefl, Nat.reduceBEq, tys0, tys1, tys2, tys3, tys4, tys5, tys6, tys7, tys8, tys9, tys10, Try.ntmps33, Try.results33, f1, f2, f5, b1, hsd, hAN, hor, Int.toNat_natCast, Int.natCast_nonneg, Bool.toNat_false, Bool.toNat_true, Int.natCast_zero, Int.natCast_one, z0, z1, z2, z3]
      refine ⟨[0, 1, 2, 3, 4, 5, 6, 7, 8, 9, 10, 11, 12, 13, 14, 15, 16, 17, 18, 19], by kernel_rfl, ?_⟩
      simp only [run0, run1, run2, run3, run4, run5, run6, run7, run8, run9, run10, run11, run12, run13, run14, run15, run16, run17, run18, run19, run20, run21, run22, reduceCtorEq, Nat.reduceEqDiff, Nat.reduceAdd, Nat.reduceSub, Nat.reduceLeDiff, indexAddrA, indexRefA, appendA, strA, Nat.reduceMul, Nat.zero_mul, Nat.reduceMod, Int.reduceEq, Int.reduceLT, Int.reduceLE, Nat.reduceLT, Nat.lt_irrefl, Nat.reduceBEq, tys0, tys1, tys2, tys3, tys4, tys5, tys6, tys7, tys8, tys9, tys10, Try.ntmps33, Try.results33, f1, f2, f5, b1, hsd, hAN, hor, Int.toNat_natCast, Int.natCast_nonneg, Bool.toNat_false, Bool.toNat_true, Int.natCast_zero, Int.natCast_one, z0, z1, z2, z3]
      exact ⟨⟨d ++ [(a, b)], r, out, _⟩, ⟨by rw [ha]; simp, ho, by rw [← h5]; simp only [brPass, hst, List.length_append, List.length_cons, List.length_nil, Nat.zero_add]; rfl⟩, by simp, by simp only [List.length_append, List.length_cons, List.length_nil, Nat.zero_add]; repeat constructor, rfl⟩
    · rw [c1] at b1
      cases c2 : (hRun g (andNot set (1 <<< d.length)).testBit g.length (1 <<< a)).testBit b
      · rw [c2] at b3
        have hst : isBr g set d.length (a, b) = true := by unfold isBr; simp [c1, c2]
        simp only [run0, run1, run2, run3, run4, run5, run6, run7, run8, run9, run10, run11, run12, run13, run14, run15, run16, run17, run18, run19, run20, run21, run22, reduceCtorEq, Nat.reduceEqDiff, Nat.reduceAdd, Nat.reduceSub, Nat.reduceLeDiff, indexAddrA, indexRefA, appendA, strA, Nat.reduceMul, Nat.zero_mul, Nat.reduceMod, Int.reduceEq, Int.reduceLT, Int.reduceLE, Nat.reduceLT, Nat.lt_irrefl, Nat.reduceBEq, tys0, tys1, tys2, tys3, tys4, tys5, tys6, tys7, tys8, tys9, tys10, Try.ntmps33, Try.results33, f1, f2, f5, b1, hsd, hAN, hor, Int.toNat_natCast, Int.natCast_nonneg, Bool.toNat_false, Bool.toNat_true, Int.natCast_zero, Int.natCast_one, z0, z1, z2, z3]
        refine ⟨[0, 1, 2, 3, 4, 5, 6, 7, 8, 9, 10, 11, 12, 13, 14, 15, 16, 17, 18, 19], by kernel_rfl, ?_⟩
        simp only [run0, run1, run2, run3, run4, run5, run6, run7, run8, run9, run10, run11, run12, run13, run14, run15, run16, run17, run18, run19, run20, run21, run22, reduceCtorEq, Nat.reduceEqDiff, Nat.reduceAdd, Nat.reduceSub, Nat.reduceLeDiff, indexAddrA, indexRefA, appendA, strA, Nat.reduceMul, Nat.zero_mul, Nat.reduceMod, Int.reduceEq, Int.reduceLT, Int.reduceLE, Nat.reduceLT, Nat.lt_irrefl, Nat.reduceBEq, tys0, tys1, tys2, tys3, tys4, tys5, tys6, tys7, tys8, tys9, tys10, Try.ntmps33, Try.results33, f1, f2, f5, b1, hsd, hAN, hor, Int.toNat_natCast, Int.natCast_nonneg, Bool.toNat_false, Bool.toNat_true, Int.natCast_zero, Int.natCast_one, z0, z1, z2, z3]
        refine RunL.callp rfl rfl ok_f51 (hung_ok g (andNot set (1 <<< d.length)) a hg hanl ha1) (by simp only [pureL, pureB, hpu, Bool.and_self]) rfl ?_
        simp only [run0, run1, run2, run3, run4, run5, run6, run7, run8, run9, run10, run11, run12, run13, run14, run15, run16, run17, run18, run19, run20, run21, run22, reduceCtorEq, Nat.reduceEqDiff, Nat.reduceAdd, Nat.reduceSub, Nat.reduceLeDiff, indexAddrA, indexRefA, appendA, strA, Nat.reduceMul, Nat.zero_mul, Nat.reduceMod, Int.reduceEq, Int.reduceLT, Int.reduceLE, Nat.reduceLT, Nat.lt_irrefl, Nat.reduceBEq, tys0, tys1, tys2, tys3, tys4, tys5, tys6, tys7, tys8, tys9, tys10, Try.ntmps33, Try.results33, b3, f1, f2, f5, b1, hsd, hAN, hor, Int.toNat_natCast, Int.natCast_nonneg, Bool.toNat_false, Bool.toNat_true, Int.natCast_zero, Int.natCast_one, z0, z1, z2, z3]
        exact ⟨⟨d ++ [(a, b)], r, out ||| 1 <<< d.length, _⟩, ⟨by rw [ha]; simp, h6, by rw [← h5]; simp only [brPass, hst, List.length_append, List.length_cons, List.length_nil, Nat.zero_add]; rfl⟩, by simp, by simp only [List.length_append, List.length_cons, List.length_nil, Nat.zero_add]; repeat constructor, rfl⟩
      · rw [c2] at b3
        have hst : isBr g set d.length (a, b) = false := by unfold isBr; simp [c1, c2]
        simp only [run0, run1, run2, run3, run4, run5, run6, run7, run8, run9, run10, run11, run12, run13, run14, run15, run16, run17, run18, run19, run20, run21, run22, reduceCtorEq, Nat.reduceEqDiff, Nat.reduceAdd, Nat.reduceSub, Nat.reduceLeDiff, indexAddrA, indexRefA, appendA, strA, Nat.reduceMul, Nat.zero_mul, Nat.reduceMod, Int.reduceEq, Int.reduceLT, Int.reduceLE, Nat.reduceLT, Nat.lt_irrefl, Nat.reduceBEq, tys0, tys1, tys2, tys3, tys4, tys5, tys6, tys7, tys8, tys9, tys10, Try.ntmps33, Try.results33, f1, f2, f5, b1, hsd, hAN, hor, Int.toNat_natCast, Int.natCast_nonneg, Bool.toNat_false, Bool.toNat_true, Int.natCast_zero, Int.natCast_one, z0, z1, z2, z3]
        refine ⟨[0, 1, 2, 3, 4, 5, 6, 7, 8, 9, 10, 11, 12, 13, 14, 15, 16, 17, 18, 19], by kernel_rfl, ?_⟩
        simp only [run0, run1, run2, run3, run4, run5, run6, run7, run8, run9, run10, run11, run12, run13, run14, run15, run16, run17, run18, run19, run20, run21, run22, reduceCtorEq, Nat.reduceEqDiff, Nat.reduceAdd, Nat.reduceSub, Nat.reduceLeDiff, indexAddrA, indexRefA, appendA, strA, Nat.reduceMul, Nat.zero_mul, Nat.reduceMod, Int.reduceEq, Int.reduceLT, Int.reduceLE, Nat.reduceLT, Nat.lt_irrefl, Nat.reduceBEq, tys0, tys1, tys2, tys3, tys4, tys5, tys6, tys7, tys8, tys9, tys10, Try.ntmps33, Try.results33, f1, f2, f5, b1, hsd, hAN, hor, Int.toNat_natCast, Int.natCast_nonneg, Bool.toNat_false, Bool.toNat_true, Int.natCast_zero, Int.natCast_one, z0, z1, z2, z3]
        refine RunL.callp rfl rfl ok_f51 (hung_ok g (andNot set (1 <<< d.length)) a hg hanl ha1) (by simp only [pureL, pureB, hpu, Bool.and_self]) rfl ?_
        simp only [run0, run1, run2, run3, run4, run5, run6, run7, run8, run9, run10, run11, run12, run13, run14, run15, run16, run17, run18, run19, run20, run21, run22, reduceCtorEq, Nat.reduceEqDiff, Nat.reduceAdd, Nat.reduceSub, Nat.reduceLeDiff, indexAddrA, indexRefA, appendA, strA, Nat.reduceMul, Nat.zero_mul, Nat.reduceMod, Int.reduceEq, Int.reduceLT, Int.reduceLE, Nat.reduceLT, Nat.lt_irrefl, Nat.reduceBEq, tys0, tys1, tys2, tys3, tys4, tys5, tys6, tys7, tys8, tys9, tys10, Try.ntmps33, Try.results33, b3, f1, f2, f5, b1, hsd, hAN, hor, Int.toNat_natCast, Int.natCast_nonneg, Bool.toNat_false, Bool.toNat_true, Int.natCast_zero, Int.natCast_one, z0, z1, z2, z3]
        exact ⟨⟨d ++ [(a, b)], r, out, _⟩, ⟨by rw [ha]; simp, ho, by rw [← h5]; simp only [brPass, hst, List.length_append, List.length_cons, List.length_nil, Nat.zero_add]; rfl⟩, by simp, by simp only [List.length_append, List.length_cons, List.length_nil, Nat.zero_add]; repeat constructor, rfl⟩

end Go.Proofs.Ytobdpkkmkbafbaa
/-
  Green pictures: which are right, by the program.
-/
namespace Go.Proofs.Ytobdpkkmkbafbaa
open Go K
set_option linter.unusedSimpArgs false
set_option linter.unusedVariables false
set_option maxHeartbeats 3200000
set_option maxRecDepth 8000

abbrev TwZ := Int × Int
def twI (t : TwZ) : AV := .agg [.int .i64 t.1, .int .i64 t.2]
def inK (n lo hi : Int) : Bool := decide (lo ≤ n) && decide (n ≤ hi)
def okTw (t : TwZ) : Bool := inK t.1 0 12 && inK t.2 0 12
theorem inK_ok (n lo hi : Int) : Ct Try.prog 42 [.int .i64 n, .int .i64 lo, .int .i64 hi] [] (.bool (inK n lo hi)) [] := by
  refine Ct.by_ hmix [] Try.func42 rfl ?_
  by_cases h1 : lo ≤ n
  · by_cases h2 : n ≤ hi
    · simp only [run0, run1, run2, run3, run4, run5, run6, run7, run8, run9, run10, run11, run12, run13, run14, run15, run16, run17, run18, run19, run20, run21, run22, reduceCtorEq, Nat.reduceEqDiff, Nat.reduceAdd, Nat.reduceSub, Nat.reduceLeDiff, indexAddrA, indexRefA, appendA, strA, Nat.reduceMul, Nat.zero_mul, Nat.reduceMod, Int.reduceEq, Int.reduceLT, Int.reduceLE, Nat.reduceLT, Nat.lt_irrefl, Nat.reduceBEq, tys0, tys1, tys2, tys3, tys4, tys5, tys6, tys7, tys8, tys9, tys10, Try.ntmps42, Try.results42, h1, h2]
      exact Fin.eq (by simp [inK, h1, h2]) rfl
    · simp only [run0, run1, run2, run3, run4, run5, run6, run7, run8, run9, run10, run11, run12, run13, run14, run15, run16, run17, run18, run19, run20, run21, run22, reduceCtorEq, Nat.reduceEqDiff, Nat.reduceAdd, Nat.reduceSub, Nat.reduceLeDiff, indexAddrA, indexRefA, appendA, strA, Nat.reduceMul, Nat.zero_mul, Nat.reduceMod, Int.reduceEq, Int.reduceLT, Int.reduceLE, Nat.reduceLT, Nat.lt_irrefl, Nat.reduceBEq, tys0, tys1, tys2, tys3, tys4, tys5, tys6, tys7, tys8, tys9, tys10, Try.ntmps42, Try.results42, h1, h2]
      exact Fin.eq (by simp [inK, h1, h2]) rfl
  · simp only [run0, run1, run2, run3, run4, run5, run6, run7, run8, run9, run10, run11, run12, run13, run14, run15, run16, run17, run18, run19, run20, run21, run22, reduceCtorEq, Nat.reduceEqDiff, Nat.reduceAdd, Nat.reduceSub, Nat.reduceLeDiff, indexAddrA, indexRefA, appendA, strA, Nat.reduceMul, Nat.zero_mul, Nat.reduceMod, Int.reduceEq, Int.reduceLT, Int.reduceLE, Nat.reduceLT, Nat.lt_irrefl, Nat.reduceBEq, tys0, tys1, tys2, tys3, tys4, tys5, tys6, tys7, tys8, tys9, tys10, Try.ntmps42, Try.results42, h1]
    exact Fin.eq (by simp [inK, h1]) rfl
theorem isGreen1_ok (t : TwZ) : Ct Try.prog 48 [twI t] [] (.bool (!okTw t)) [] := by
  refine Ct.by_ hmix [] Try.func48 rfl ?_
  simp only [run0, run1, run2, run3, run4, run5, run6, run7, run8, run9, run10, run11, run12, run13, run14, run15, run16, run17, run18, run19, run20, run21, run22, reduceCtorEq, Nat.reduceEqDiff, Nat.reduceAdd, Nat.reduceSub, Nat.reduceLeDiff, indexAddrA, indexRefA, appendA, strA, Nat.reduceMul, Nat.zero_mul, Nat.reduceMod, Int.reduceEq, Int.reduceLT, Int.reduceLE, Nat.reduceLT, Nat.lt_irrefl, Nat.reduceBEq, tys0, tys1, tys2, tys3, tys4, tys5, tys6, tys7, tys8, tys9, tys10, Try.ntmps48, Try.results48, twI]
  refine RunL.callp rfl rfl ok_f42 (inK_ok t.1 0 12) (by first | rfl | simp only [pureL, pureB, Bool.and_self, Bool.and_true, Bool.true_and]) rfl ?_
  cases h1 : inK t.1 0 12
  · simp only [run0, run1, run2, run3, run4, run5, run6, run7, run8, run9, run10, run11, run12, run13, run14, run15, run16, run17, run18, run19, run20, run21, run22, reduceCtorEq, Nat.reduceEqDiff, Nat.reduceAdd, Nat.reduceSub, Nat.reduceLeDiff, indexAddrA, indexRefA, appendA, strA, Nat.reduceMul, Nat.zero_mul, Nat.reduceMod, Int.reduceEq, Int.reduceLT, Int.reduceLE, Nat.reduceLT, Nat.lt_irrefl, Nat.reduceBEq, tys0, tys1, tys2, tys3, tys4, tys5, tys6, tys7, tys8, tys9, tys10, Try.ntmps48, Try.results48]
    exact Fin.eq (by simp [okTw, h1]) rfl
  · simp only [run0, run1, run2, run3, run4, run5, run6, run7, run8, run9, run10, run11, run12, run13, run14, run15, run16, run17, run18, run19, run20, run21, run22, reduceCtorEq, Nat.reduceEqDiff, Nat.reduceAdd, Nat.reduceSub, Nat.reduceLeDiff, indexAddrA, indexRefA, appendA, strA, Nat.reduceMul, Nat.zero_mul, Nat.reduceMod, Int.reduceEq, Int.reduceLT, Int.reduceLE, Nat.reduceLT, Nat.lt_irrefl, Nat.reduceBEq, tys0, tys1, tys2, tys3, tys4, tys5, tys6, tys7, tys8, tys9, tys10, Try.ntmps48, Try.results48]
    refine RunL.callp rfl rfl ok_f42 (inK_ok t.2 0 12) (by first | rfl | simp only [pureL, pureB, Bool.and_self, Bool.and_true, Bool.true_and]) rfl ?_
    simp only [run0, run1, run2, run3, run4, run5, run6, run7, run8, run9, run10, run11, run12, run13, run14, run15, run16, run17, run18, run19, run20, run21, run22, reduceCtorEq, Nat.reduceEqDiff, Nat.reduceAdd, Nat.reduceSub, Nat.reduceLeDiff, indexAddrA, indexRefA, appendA, strA, Nat.reduceMul, Nat.zero_mul, Nat.reduceMod, Int.reduceEq, Int.reduceLT, Int.reduceLE, Nat.reduceLT, Nat.lt_irrefl, Nat.reduceBEq, tys0, tys1, tys2, tys3, tys4, tys5, tys6, tys7, tys8, tys9, tys10, Try.ntmps48, Try.results48]
    exact Fin.eq (by simp [okTw, h1]) rfl

/-- The first twig that is not right. -/
def badT : List TwZ → Int → Int
  | [], _ => -1
  | t :: r, i => if !okTw t then i else badT r (i + 1)
theorem badT_cons (t : TwZ) (r : List TwZ) (i : Int) : badT (t :: r) i = if !okTw t then i else badT r (i + 1) := rfl
theorem badT_all : ∀ (g : List TwZ) (i : Int), 0 ≤ i → decide (0 ≤ badT g i) = !g.all okTw
  | [], i, _ => rfl
  | t :: r, i, h => by
    have ih := badT_all r (i + 1) (by omega)
    unfold badT
    cases h1 : okTw t
    · simp [h1, h]
    · simpa [h1] using ih
theorem index_ok (g : List TwZ) (hl : g.length ≤ 1048576) : Ct Try.prog 58 [.sl false (g.map twI), .fn 48 []] [] (.int .i64 (badT g 0)) [] := by
  refine Ct.by_ hmix [] Try.func58 rfl ?_
  simp only [run0, run1, run2, run3, run4, run5, run6, run7, run8, run9, run10, run11, run12, run13, run14, run15, run16, run17, run18, run19, run20, run21, run22, reduceCtorEq, Nat.reduceEqDiff, Nat.reduceAdd, Nat.reduceSub, Nat.reduceLeDiff, indexAddrA, indexRefA, appendA, strA, Nat.reduceMul, Nat.zero_mul, Nat.reduceMod, Int.reduceEq, Int.reduceLT, Int.reduceLE, Nat.reduceLT, Nat.lt_irrefl, Nat.reduceBEq, tys0, tys1, tys2, tys3, tys4, tys5, tys6, tys7, tys8, tys9, tys10, Try.ntmps58, Try.results58, List.length_map]
  refine AWp.loop_inv (ι := List TwZ × List TwZ) (fun p => ⟨[.sl false (g.map twI), .fn 48 [], .junk, .junk, .int .i64 0, .junk, .junk, .int .i64 g.length, .int .i64 p.1.length, .junk, .junk, .junk, .junk, .junk, .junk, .junk, .junk, .junk, .junk], []⟩)
    (fun p => g = p.1 ++ p.2 ∧ badT p.2 p.1.length = badT g 0) (fun p => p.2.length) ([], g) ⟨rfl, rfl⟩ ⟨by simp only [List.length_nil, Int.natCast_zero]; repeat constructor, rfl⟩ ?_
  rintro ⟨d, r⟩ ⟨ha, h4⟩
  refine W.sound hmix (E := []) ?_
  simp only at ha h4
  have hda : d.length + r.length = g.length := by rw [ha, List.length_append]
  cases r with
  | nil =>
    have e1 : ¬ ((d.length : Int) < (g.length : Int)) := by simp at hda; omega
    simp only [run0, run1, run2, run3, run4, run5, run6, run7, run8, run9, run10, run11, run12, run13, run14, run15, run16, run17, run18, run19, run20, run21, run22, reduceCtorEq, Nat.reduceEqDiff, Nat.reduceAdd, Nat.reduceSub, Nat.reduceLeDiff, indexAddrA, indexRefA, appendA, strA, Nat.reduceMul, Nat.zero_mul, Nat.reduceMod, Int.reduceEq, Int.reduceLT, Int.reduceLE, Nat.reduceLT, Nat.lt_irrefl, Nat.reduceBEq, tys0, tys1, tys2, tys3, tys4, tys5, tys6, tys7, tys8, tys9, tys10, Try.ntmps58, Try.results58, e1]
    exact Fin.eq (by rw [← h4]; rfl) rfl
  | cons t r =>
    simp only [List.length_cons] at hda
    have e1 : (d.length : Int) < (g.length : Int) := by omega
    have e2 : (g.map twI)[d.length]? = some (twI t) := by rw [ha]; simp
    have e5 : IntKind.i64.wrap ((d.length : Int) + 1) = ((d ++ [t]).length : Int) := by rw [s64_id (by omega) (by omega)]; simp
    have hcl := isGreen1_ok t
    simp only [twI] at e2 hcl
    rw [badT_cons] at h4
    simp only [run0, run1, run2, run3, run4, run5, run6, run7, run8, run9, run10, run11, run12, run13, run14, run15, run16, run17, run18, run19, run20, run21, run22, reduceCtorEq, Nat.reduceEqDiff, Nat.reduceAdd, Nat.reduceSub, Nat.reduceLeDiff, indexAddrA, indexRefA, appendA, strA, Nat.reduceMul, Nat.zero_mul, Nat.reduceMod, Int.reduceEq, Int.reduceLT, Int.reduceLE, Nat.reduceLT, Nat.lt_irrefl, Nat.reduceBEq, tys0, tys1, tys2, tys3, tys4, tys5, tys6, tys7, tys8, tys9, tys10, Try.ntmps58, Try.results58, e1, e2, Int.toNat_natCast, Int.natCast_nonneg]
    refine RunL.callcp rfl rfl rfl ok_f48 rfl (hcl) (by first | rfl | simp only [pureL, pureB, Bool.and_self, Bool.and_true, Bool.true_and]) rfl ?_
    cases h1 : okTw t
    · rw [h1] at h4
      simp only [run0, run1, run2, run3, run4, run5, run6, run7, run8, run9, run10, run11, run12, run13, run14, run15, run16, run17, run18, run19, run20, run21, run22, reduceCtorEq, Nat.reduceEqDiff, Nat.reduceAdd, Nat.reduceSub, Nat.reduceLeDiff, indexAddrA, indexRefA, appendA, strA, Nat.reduceMul, Nat.zero_mul, Nat.reduceMod, Int.reduceEq, Int.reduceLT, Int.reduceLE, Nat.reduceLT, Nat.lt_irrefl, Nat.reduceBEq, tys0, tys1, tys2, tys3, tys4, tys5, tys6, tys7, tys8, tys9, tys10, Try.ntmps58, Try.results58]
      exact Fin.eq (by rw [← h4]; rfl) rfl
    · rw [h1] at h4
      simp only [run0, run1, run2, run3, run4, run5, run6, run7, run8, run9, run10, run11, run12, run13, run14, run15, run16, run17, run18, run19, run20, run21, run22, reduceCtorEq, Nat.reduceEqDiff, Nat.reduceAdd, Nat.reduceSub, Nat.reduceLeDiff, indexAddrA, indexRefA, appendA, strA, Nat.reduceMul, Nat.zero_mul, Nat.reduceMod, Int.reduceEq, Int.reduceLT, Int.reduceLE, Nat.reduceLT, Nat.lt_irrefl, Nat.reduceBEq, tys0, tys1, tys2, tys3, tys4, tys5, tys6, tys7, tys8, tys9, tys10, Try.ntmps58, Try.results58, e5]
      exact ⟨(d ++ [t], r), ⟨by rw [ha]; simp, by simp only [List.length_append, List.length_cons, List.length_nil]; simpa using h4⟩, by simp, by simp only [List.length_append, List.length_cons, List.length_nil]; repeat constructor⟩

theorem twI_pure : ∀ g : List TwZ, pureL (g.map twI) = true
  | [] => rfl
  | t :: g => by simp only [List.map_cons, twI, pureL, pureB, Bool.true_and]; exact twI_pure g
theorem contains_ok (g : List TwZ) (hl : g.length ≤ 1048576) : Ct Try.prog 47 [.sl false (g.map twI), .fn 48 []] [] (.bool (!g.all okTw)) [] := by
  refine Ct.by_ hmix [] Try.func47 rfl ?_
  simp only [run0, run1, run2, run3, run4, run5, run6, run7, run8, run9, run10, run11, run12, run13, run14, run15, run16, run17, run18, run19, run20, run21, run22, reduceCtorEq, Nat.reduceEqDiff, Nat.reduceAdd, Nat.reduceSub, Nat.reduceLeDiff, indexAddrA, indexRefA, appendA, strA, Nat.reduceMul, Nat.zero_mul, Nat.reduceMod, Int.reduceEq, Int.reduceLT, Int.reduceLE, Nat.reduceLT, Nat.lt_irrefl, Nat.reduceBEq, tys0, tys1, tys2, tys3, tys4, tys5, tys6, tys7, tys8, tys9, tys10, Try.ntmps47, Try.results47]
  refine RunL.callp rfl rfl ok_f58 (index_ok g hl) (by simp only [pureL, pureB, twI_pure, Bool.and_self]) rfl ?_
  simp only [run0, run1, run2, run3, run4, run5, run6, run7, run8, run9, run10, run11, run12, run13, run14, run15, run16, run17, run18, run19, run20, run21, run22, reduceCtorEq, Nat.reduceEqDiff, Nat.reduceAdd, Nat.reduceSub, Nat.reduceLeDiff, indexAddrA, indexRefA, appendA, strA, Nat.reduceMul, Nat.zero_mul, Nat.reduceMod, Int.reduceEq, Int.reduceLT, Int.reduceLE, Nat.reduceLT, Nat.lt_irrefl, Nat.reduceBEq, tys0, tys1, tys2, tys3, tys4, tys5, tys6, tys7, tys8, tys9, tys10, Try.ntmps47, Try.results47]
  exact Fin.eq (by rw [badT_all g 0 (by omega)]) rfl
/-- A right picture. -/
def picB (g : List TwZ) : Bool := decide (g.length ≤ 14) && g.all okTw
theorem isGreen_ok (g : List TwZ) (hl : g.length ≤ 1048576) : Ct Try.prog 24 [.sl false (g.map twI)] [] (.bool (picB g)) [] := by
  refine Ct.by_ hmix [] Try.func24 rfl ?_
  by_cases h : g.length ≤ 14
  · have e1 : (g.length : Int) ≤ 14 := by omega
    simp only [run0, run1, run2, run3, run4, run5, run6, run7, run8, run9, run10, run11, run12, run13, run14, run15, run16, run17, run18, run19, run20, run21, run22, reduceCtorEq, Nat.reduceEqDiff, Nat.reduceAdd, Nat.reduceSub, Nat.reduceLeDiff, indexAddrA, indexRefA, appendA, strA, Nat.reduceMul, Nat.zero_mul, Nat.reduceMod, Int.reduceEq, Int.reduceLT, Int.reduceLE, Nat.reduceLT, Nat.lt_irrefl, Nat.reduceBEq, tys0, tys1, tys2, tys3, tys4, tys5, tys6, tys7, tys8, tys9, tys10, Try.ntmps24, Try.results24, List.length_map, e1]
    refine RunL.callp rfl rfl ok_f47 (contains_ok g hl) (by simp only [pureL, pureB, twI_pure, Bool.and_self]) rfl ?_
    simp only [run0, run1, run2, run3, run4, run5, run6, run7, run8, run9, run10, run11, run12, run13, run14, run15, run16, run17, run18, run19, run20, run21, run22, reduceCtorEq, Nat.reduceEqDiff, Nat.reduceAdd, Nat.reduceSub, Nat.reduceLeDiff, indexAddrA, indexRefA, appendA, strA, Nat.reduceMul, Nat.zero_mul, Nat.reduceMod, Int.reduceEq, Int.reduceLT, Int.reduceLE, Nat.reduceLT, Nat.lt_irrefl, Nat.reduceBEq, tys0, tys1, tys2, tys3, tys4, tys5, tys6, tys7, tys8, tys9, tys10, Try.ntmps24, Try.results24]
    exact Fin.eq (by simp [picB, h]) rfl
  · have e1 : ¬ (g.length : Int) ≤ 14 := by omega
    simp only [run0, run1, run2, run3, run4, run5, run6, run7, run8, run9, run10, run11, run12, run13, run14, run15, run16, run17, run18, run19, run20, run21, run22, reduceCtorEq, Nat.reduceEqDiff, Nat.reduceAdd, Nat.reduceSub, Nat.reduceLeDiff, indexAddrA, indexRefA, appendA, strA, Nat.reduceMul, Nat.zero_mul, Nat.reduceMod, Int.reduceEq, Int.reduceLT, Int.reduceLE, Nat.reduceLT, Nat.lt_irrefl, Nat.reduceBEq, tys0, tys1, tys2, tys3, tys4, tys5, tys6, tys7, tys8, tys9, tys10, Try.ntmps24, Try.results24, List.length_map, e1]
    exact Fin.eq (by simp [picB, h]) rfl

end Go.Proofs.Ytobdpkkmkbafbaa
/-
  Green pictures: colourings, and the fused value told by halving (plain law).
-/
namespace Go.Proofs.Ytobdpkkmkbafbaa
set_option linter.unusedSimpArgs false
set_option linter.unusedVariables false
open Classical

/-! ### parities and numbers of sets of twigs -/
def pr : Nat → (Nat → Bool) → Bool
  | 0, _ => false
  | n + 1, p => xor (pr n p) (p n)
def cnt : Nat → (Nat → Bool) → Nat
  | 0, _ => 0
  | n + 1, p => cnt n p + (p n).toNat
theorem pr_congr {n : Nat} {p q : Nat → Bool} (h : ∀ j, j < n → p j = q j) : pr n p = pr n q := by
  induction n with
  | zero => rfl
  | succ n ih => simp only [pr, ih fun j hj => h j (by omega), h n (by omega)]
theorem pr_xor (n : Nat) (p q : Nat → Bool) : pr n (fun j => xor (p j) (q j)) = xor (pr n p) (pr n q) := by
  induction n with
  | zero => rfl
  | succ n ih =>
    simp only [pr, ih]
    cases pr n p <;> cases pr n q <;> cases p n <;> cases q n <;> rfl
theorem pr_false (n : Nat) : pr n (fun _ => false) = false := by
  induction n with
  | zero => rfl
  | succ n ih => simp [pr, ih]
theorem pr_one {n e : Nat} (b : Bool) (h : e < n) : pr n (fun j => decide (j = e) && b) = b := by
  induction n with
  | zero => omega
  | succ n ih =>
    rcases Nat.lt_succ_iff_lt_or_eq.1 h with h | rfl
    · have : n ≠ e := by omega
      simp only [pr, ih h, this, decide_false, Bool.false_and, Bool.xor_false]
    · have : pr e (fun j => decide (j = e) && b) = pr e (fun _ => false) := pr_congr fun j hj => by
        have : j ≠ e := by omega
        simp [this]
      simp only [pr, this, pr_false, decide_true, Bool.true_and, Bool.false_xor]
/-- All but one. -/
theorem pr_but {n e : Nat} {p : Nat → Bool} (h : e < n) (hp : p e = true) : pr n (fun j => p j && decide (j ≠ e)) = !pr n p := by
  have h1 : pr n (fun j => p j && decide (j ≠ e)) = pr n (fun j => xor (p j) (decide (j = e) && true)) := pr_congr fun j _ => by
    by_cases hj : j = e
    · subst hj; simp [hp]
    · simp [hj]
  rw [h1, pr_xor, pr_one true h, Bool.xor_true]
theorem pr_some {n : Nat} {p : Nat → Bool} (h : pr n p = true) : ∃ j, j < n ∧ p j = true := by
  induction n with
  | zero => cases h
  | succ n ih =>
    cases hn : p n
    · simp only [pr, hn, Bool.xor_false] at h
      obtain ⟨j, h1, h2⟩ := ih h
      exact ⟨j, by omega, h2⟩
    · exact ⟨n, by omega, hn⟩
theorem cnt_le {n : Nat} {p q : Nat → Bool} (h : ∀ j, j < n → p j = true → q j = true) : cnt n p ≤ cnt n q := by
  induction n with
  | zero => exact Nat.le_refl _
  | succ n ih =>
    have := ih fun j hj => h j (by omega)
    have hn := h n (by omega)
    simp only [cnt]
    cases hp : p n
    · simp; omega
    · rw [hn hp]; simp; omega
theorem cnt_lt {n e : Nat} {p q : Nat → Bool} (h : ∀ j, j < n → p j = true → q j = true) (he : e < n) (hp : p e = false) (hq : q e = true) : cnt n p < cnt n q := by
  induction n with
  | zero => omega
  | succ n ih =>
    have hn := h n (by omega)
    simp only [cnt]
    rcases Nat.lt_succ_iff_lt_or_eq.1 he with he | rfl
    · have := ih (fun j hj => h j (by omega)) he
      cases hp : p n
      · simp; omega
      · rw [hn hp]; simp; omega
    · have := cnt_le (n := e) (p := p) (q := q) fun j hj => h j (by omega)
      rw [hp, hq]; simp; omega
theorem cnt_zero {n : Nat} {p : Nat → Bool} (h : cnt n p = 0) : ∀ j, j < n → p j = false := by
  induction n with
  | zero => intro j hj; omega
  | succ n ih =>
    simp only [cnt] at h
    intro j hj
    rcases Nat.lt_succ_iff_lt_or_eq.1 hj with hj | rfl
    · exact ih (by omega) j hj
    · cases hp : p j
      · rfl
      · rw [hp] at h; simp at h
/-- A symmetric relation on an odd set has a member with an even number of others. -/
theorem hand_shake {n : Nat} {p : Nat → Bool} {R : Nat → Nat → Bool} (hs : ∀ i j, R i j = R j i) (hi : ∀ i, R i i = false) (h : pr n p = true) : ∃ e, e < n ∧ p e = true ∧ pr n (fun j => p j && R e j) = false := by
  have key : ∀ n, pr n (fun i => p i && pr n (fun j => p j && R i j)) = false := by
    intro n
    induction n with
    | zero => rfl
    | succ n ih =>
      have e1 : pr n (fun i => p i && pr (n + 1) (fun j => p j && R i j)) = xor (pr n (fun i => p i && pr n (fun j => p j && R i j))) (pr n (fun i => p i && (p n && R i n))) := by
        rw [← pr_xor]
        exact pr_congr fun i _ => by
          simp only [pr]
          cases p i <;> simp
      have e2 : pr (n + 1) (fun i => p i && pr (n + 1) (fun j => p j && R i j)) = xor (pr n (fun i => p i && pr (n + 1) (fun j => p j && R i j))) (p n && pr (n + 1) (fun j => p j && R n j)) := rfl
      have e3 : pr (n + 1) (fun j => p j && R n j) = pr n (fun j => p j && R n j) := by simp [pr, hi]
      have e4 : pr n (fun i => p i && (p n && R i n)) = (p n && pr n (fun j => p j && R n j)) := by
        cases hp : p n
        · simp only [Bool.false_and, Bool.and_false, pr_false]
        · simp only [Bool.true_and]
          exact pr_congr fun i _ => by rw [hs i n]
      rw [e2, e1, ih, e3, e4]
      simp
  refine Classical.byContradiction fun hno => ?_
  have h2 : pr n (fun i => p i && pr n (fun j => p j && R i j)) = pr n p := pr_congr fun i hin => by
    cases hp : p i
    · rfl
    · cases hq : pr n (fun j => p j && R i j)
      · exact absurd ⟨i, hin, hp, hq⟩ hno
      · rfl
  rw [key n, h] at h2
  cases h2

/-! ### nim sums -/
theorem nx (a b : Bool) (x y : Nat) : (a.toNat + 2 * x) ^^^ (b.toNat + 2 * y) = (xor a b).toNat + 2 * (x ^^^ y) := by
  have t0 : ∀ (c : Bool) (z : Nat), (c.toNat + 2 * z).testBit 0 = c := fun c z => by
    rw [Nat.testBit_zero]
    cases c <;> simp <;> omega
  have t1 : ∀ (c : Bool) (z i : Nat), (c.toNat + 2 * z).testBit (i + 1) = z.testBit i := fun c z i => by
    rw [Nat.testBit_succ]
    congr 1
    cases c <;> simp <;> omega
  refine Nat.eq_of_testBit_eq fun i => ?_
  rw [Nat.testBit_xor]
  cases i with
  | zero => rw [t0, t0, t0]
  | succ i => rw [t1, t1, t1, Nat.testBit_xor]
theorem bit_split (v : Nat) : ∃ (a : Bool) (w : Nat), v = a.toNat + 2 * w ∧ w = v / 2 := by
  rcases Nat.mod_two_eq_zero_or_one v with h | h
  · exact ⟨false, v / 2, by simp; omega, rfl⟩
  · exact ⟨true, v / 2, by simp; omega, rfl⟩
theorem nim_lt : ∀ (n v x y : Nat), v + x + y ≤ n → v < x ^^^ y → v ^^^ y < x ∨ v ^^^ x < y
  | 0, v, x, y, hn, h => by
    obtain rfl : x = 0 := by omega
    obtain rfl : y = 0 := by omega
    simp at h
  | n + 1, v, x, y, hn, h => by
    obtain ⟨a, v', hv, hv2⟩ := bit_split v
    obtain ⟨b, x', hx, hx2⟩ := bit_split x
    obtain ⟨c, y', hy, hy2⟩ := bit_split y
    by_cases hz : v + x + y = 0
    · obtain rfl : x = 0 := by omega
      obtain rfl : y = 0 := by omega
      simp at h
    have ih := nim_lt n v' x' y' (by omega)
    rw [hv, hx, hy, nx] at h
    rw [hv, hx, hy, nx, nx]
    by_cases hlt : v' < x' ^^^ y'
    · rcases ih hlt with h1 | h1
      · left
        cases a <;> cases b <;> cases c <;> simp <;> omega
      · right
        cases a <;> cases b <;> cases c <;> simp <;> omega
    · have he : v' = x' ^^^ y' := by
        cases a <;> cases b <;> cases c <;> simp at h <;> omega
      have e1 : v' ^^^ y' = x' := by rw [he, Nat.xor_assoc, Nat.xor_self, Nat.xor_zero]
      have e2 : v' ^^^ x' = y' := by rw [he, Nat.xor_comm x', Nat.xor_assoc, Nat.xor_self, Nat.xor_zero]
      rw [e1, e2]
      cases a <;> cases b <;> cases c <;> simp at h ⊢ <;> omega

/-! ### colourings -/
/-- The twig 'j' with the ends 'a' and 'b' hangs on 'r'. -/
def Tw (g : GTw) (A : Nat → Bool) (r j a b : Nat) : Prop := g[j]? = some (a, b) ∧ A j = true ∧ Rch g A r a
theorem Tw.rb {g : GTw} {A : Nat → Bool} {r j a b : Nat} (h : Tw g A r j a b) : Rch g A r b := .fwd h.1 h.2.1 h.2.2
theorem Tw.lt {g : GTw} {A : Nat → Bool} {r j a b : Nat} (h : Tw g A r j a b) : j < g.length := (List.getElem?_eq_some_iff.1 h.1).1
def cn (g : GTw) (A : Nat → Bool) (r j : Nat) : Prop := ∃ a b, Tw g A r j a b
/-- 'x' is false at 'r' and flips along just those of 'D', among the twigs that hang on 'r'. -/
def Col (g : GTw) (A : Nat → Bool) (r : Nat) (D : Nat → Prop) (x : Nat → Bool) : Prop := x r = false ∧ ∀ j a b, Tw g A r j a b → (x a ≠ x b ↔ D j)
theorem Col.uniq {g : GTw} {A : Nat → Bool} {r : Nat} {D : Nat → Prop} {x y : Nat → Bool} (hx : Col g A r D x) (hy : Col g A r D y) {k : Nat} (hk : Rch g A r k) : x k = y k := by
  induction hk with
  | refl => rw [hx.1, hy.1]
  | @fwd i a b hg hA hr ih =>
    have h1 := hx.2 i a b ⟨hg, hA, hr⟩
    have h2 := hy.2 i a b ⟨hg, hA, hr⟩
    have h3 : (x a ≠ x b ↔ y a ≠ y b) := h1.trans h2.symm
    revert ih h3
    cases x a <;> cases x b <;> cases y a <;> cases y b <;> simp
  | @bwd i a b hg hA hr ih =>
    have hT : Tw g A r i a b := ⟨hg, hA, .bwd hg hA hr⟩
    have h1 := hx.2 i a b hT
    have h2 := hy.2 i a b hT
    have h3 : (x a ≠ x b ↔ y a ≠ y b) := h1.trans h2.symm
    revert ih h3
    cases x a <;> cases x b <;> cases y a <;> cases y b <;> simp
theorem Col.zero {g : GTw} {A : Nat → Bool} {r : Nat} {x : Nat → Bool} (hx : Col g A r (fun _ => False) x) {k : Nat} (hk : Rch g A r k) : x k = false :=
  hx.uniq (y := fun _ => false) ⟨rfl, fun j a b _ => by simp⟩ hk
/-- Along a way that keeps off 'D' nothing flips. -/
theorem Col.way {g : GTw} {A B : Nat → Bool} {r : Nat} {D : Nat → Prop} {x : Nat → Bool} (hx : Col g A r D x) (hB : ∀ j, B j = true → A j = true ∧ ¬ D j) {s k : Nat} (hs : Rch g A r s) (hk : Rch g B s k) : x k = x s := by
  induction hk with
  | refl => rfl
  | @fwd i a b hg hb hr ih =>
    have hr2 : Rch g A s a := hr.mono fun j hj => (hB j hj).1
    have h1 := hx.2 i a b ⟨hg, (hB i hb).1, hs.trans hr2⟩
    have h2 : ¬ (x a ≠ x b) := fun h => (hB i hb).2 (h1.1 h)
    rw [← ih]
    exact (Classical.not_not.1 h2).symm
  | @bwd i a b hg hb hr ih =>
    have hr2 : Rch g A s b := hr.mono fun j hj => (hB j hj).1
    have h1 := hx.2 i a b ⟨hg, (hB i hb).1, .bwd hg (hB i hb).1 (hs.trans hr2)⟩
    have h2 : ¬ (x a ≠ x b) := fun h => (hB i hb).2 (h1.1 h)
    rw [← ih]
    exact Classical.not_not.1 h2
/-- Is 'x' true at both ends? -/
def xe (g : GTw) (x : Nat → Bool) (j : Nat) : Bool := match g[j]? with | some t => x t.1 && x t.2 | none => false
theorem xe_at {g : GTw} {x : Nat → Bool} {j a b : Nat} (h : g[j]? = some (a, b)) : xe g x j = (x a && x b) := by unfold xe; rw [h]
noncomputable def hgB (g : GTw) (A : Nat → Bool) (r j : Nat) : Bool := decide (cn g A r j)
/-- The twigs that count and lie inside a colouring. -/
noncomputable def ins (g : GTw) (A S : Nat → Bool) (r : Nat) (x : Nat → Bool) (j : Nat) : Bool := S j && hgB g A r j && xe g x j
theorem ins_iff {g : GTw} {A S : Nat → Bool} {r : Nat} {x : Nat → Bool} {j : Nat} : ins g A S r x j = true ↔ S j = true ∧ ∃ a b, Tw g A r j a b ∧ x a = true ∧ x b = true := by
  unfold ins hgB
  simp only [Bool.and_eq_true, decide_eq_true_eq]
  constructor
  · rintro ⟨⟨h1, a, b, hT⟩, h3⟩
    rw [xe_at hT.1] at h3
    simp only [Bool.and_eq_true] at h3
    exact ⟨h1, a, b, hT, h3⟩
  · rintro ⟨h1, a, b, hT, h3⟩
    exact ⟨⟨h1, a, b, hT⟩, by rw [xe_at hT.1, h3.1, h3.2]; rfl⟩
theorem Tw.ends {g : GTw} {A : Nat → Bool} {r j a b a' b' : Nat} (h : Tw g A r j a b) (h' : Tw g A r j a' b') : a' = a ∧ b' = b := by
  have := h.1.symm.trans h'.1
  cases this; exact ⟨rfl, rfl⟩

/-! ### the value by halving -/
/-- The twigs that count and stand under an odd number of such. -/
noncomputable def Od1 (g : GTw) (A S : Nat → Bool) (r : Nat) : Nat → Bool := fun j => S j && hgB g A r j && decide (∃ x, Col g A r (· = j) x ∧ pr g.length (ins g A S r x) = true)
noncomputable def sz (g : GTw) (A S : Nat → Bool) (r : Nat) : Nat := cnt g.length fun j => S j && hgB g A r j
noncomputable def fF (g : GTw) (A : Nat → Bool) (r : Nat) : Nat → (Nat → Bool) → Nat
  | 0, _ => 0
  | n + 1, S => (pr g.length fun j => S j && hgB g A r j).toNat + 2 * fF g A r n (Od1 g A S r)
theorem cn_lt {g : GTw} {A : Nat → Bool} {r j : Nat} (h : cn g A r j) : j < g.length := by
  obtain ⟨a, b, hT⟩ := h; exact hT.lt
/-- One cut within another. -/
theorem nest {g : GTw} {A : Nat → Bool} {r i j a b : Nat} {x y : Nat → Bool} (hi : cn g A r i) (hx : Col g A r (· = i) x) (hy : Col g A r (· = j) y) (hT : Tw g A r j a b) (ha : x a = true) (hb : x b = true) {k : Nat} (hk : Rch g A r k) (h : y k = true) : x k = true := by
  obtain ⟨c, d, hI⟩ := hi
  have hij : i ≠ j := by
    rintro rfl
    obtain ⟨rfl, rfl⟩ := hI.ends hT
    have := (hx.2 _ _ _ hI).2 rfl
    rw [ha, hb] at this; exact this rfl
  have hyI : y c = y d := by
    have := hy.2 _ _ _ hI
    have : ¬ (y c ≠ y d) := fun h => hij (this.1 h)
    exact Classical.not_not.1 this
  have hxI := (hx.2 _ _ _ hI).2 rfl
  cases hc : y c
  · have hz : Col g A r (fun _ => False) (fun q => y q && !x q) := by
      refine ⟨by simp [hy.1], fun m p q hM => ?_⟩
      have m1 := hx.2 _ _ _ hM
      have m2 := hy.2 _ _ _ hM
      by_cases e1 : m = i
      · subst e1
        obtain ⟨rfl, rfl⟩ := hI.ends hM
        rw [hc] at hyI
        simp [hc, ← hyI]
      · by_cases e2 : m = j
        · subst e2
          obtain ⟨rfl, rfl⟩ := hT.ends hM
          simp [ha, hb]
        · simp only [e1, e2, iff_false, Classical.not_not] at m1 m2
          simp [m1, m2]
    have := hz.zero hk
    simp only [h, Bool.true_and, Bool.not_eq_false'] at this
    exact this
  · have hz : Col g A r (· = i) (fun q => y q && !x q) := by
      refine ⟨by simp [hy.1], fun m p q hM => ?_⟩
      have m1 := hx.2 _ _ _ hM
      have m2 := hy.2 _ _ _ hM
      by_cases e1 : m = i
      · subst e1
        obtain ⟨rfl, rfl⟩ := hI.ends hM
        rw [hc] at hyI
        simp only [hc, ← hyI, Bool.true_and, iff_true]
        intro e
        exact hxI (by cases hp : x p <;> cases hq : x q <;> rw [hp, hq] at e <;> first | rfl | cases e)
      · by_cases e2 : m = j
        · subst e2
          obtain ⟨rfl, rfl⟩ := hT.ends hM
          simp [ha, hb, Ne.symm hij]
        · simp only [e1, e2, iff_false, Classical.not_not] at m1 m2
          simp [m1, m2, e1]
    exfalso
    have h1 := hz.uniq hx hI.2.2
    have h2 := hz.uniq hx hI.rb
    rw [hc] at hyI
    simp only [hc, ← hyI, Bool.true_and] at h1 h2
    cases hp : x c <;> rw [hp] at h1 <;> cases h1
/-- Fewer count after halving. -/
theorem Od1_lt {g : GTw} {A S : Nat → Bool} {r : Nat} (h : sz g A S r ≠ 0) : sz g A (Od1 g A S r) r < sz g A S r := by
  refine Classical.byContradiction fun hno => ?_
  have hall : ∀ j, S j = true → cn g A r j → Od1 g A S r j = true := fun j h1 h2 => by
    cases hq : Od1 g A S r j
    · refine absurd (cnt_lt (n := g.length) (e := j) (fun k _ hk => ?_) (cn_lt h2) (by rw [hq]; rfl) ?_) hno
      · simp only [Od1, Bool.and_eq_true] at hk ⊢
        exact ⟨hk.1.1.1, hk.2⟩
      · simp only [Bool.and_eq_true]
        exact ⟨h1, decide_eq_true h2⟩
    · rfl
  have key : ∀ n, ∀ i x, S i = true → cn g A r i → Col g A r (· = i) x → pr g.length (ins g A S r x) = true → cnt g.length (ins g A S r x) = n → False := by
    intro n
    induction n using Nat.strongRecOn with
    | ind n ih =>
      intro i x h1 h2 h3 h4 h5
      obtain ⟨j, hj, hjin⟩ := pr_some h4
      obtain ⟨k1, a, b, hT, ha, hb⟩ := ins_iff.1 hjin
      have hO := hall j k1 ⟨a, b, hT⟩
      simp only [Od1, Bool.and_eq_true, decide_eq_true_eq] at hO
      obtain ⟨_, y, hy, hodd⟩ := hO
      refine ih (cnt g.length (ins g A S r y)) ?_ j y k1 ⟨a, b, hT⟩ hy hodd rfl
      rw [← h5]
      refine cnt_lt (fun m hm hin => ?_) hj ?_ hjin
      · obtain ⟨q1, p, q, hM, hp, hq⟩ := ins_iff.1 hin
        exact ins_iff.2 ⟨q1, p, q, hM, nest h2 h3 hy hT ha hb hM.2.2 hp, nest h2 h3 hy hT ha hb hM.rb hq⟩
      · cases hc : ins g A S r y j
        · rfl
        · obtain ⟨_, p, q, hM, hp, hq⟩ := ins_iff.1 hc
          have := (hy.2 _ _ _ hM).2 rfl
          rw [hp, hq] at this; exact absurd rfl this
  obtain ⟨j, hj, hjs⟩ : ∃ j, j < g.length ∧ (S j && hgB g A r j) = true := by
    refine Classical.byContradiction fun hx => h ?_
    have : sz g A S r = cnt g.length (fun _ => false) := by
      unfold sz
      have e : ∀ n, n ≤ g.length → cnt n (fun j => S j && hgB g A r j) = cnt n (fun _ => false) := by
        intro n hn
        induction n with
        | zero => rfl
        | succ n ih =>
          simp only [cnt]
          rw [ih (by omega)]
          cases hq : (S n && hgB g A r n)
          · rfl
          · exact absurd ⟨n, by omega, hq⟩ hx
      exact e _ (Nat.le_refl _)
    rw [this]
    have : ∀ n, cnt n (fun _ => false) = 0 := fun n => by induction n with
      | zero => rfl
      | succ n ih => simp [cnt, ih]
    exact this _
  simp only [Bool.and_eq_true] at hjs
  have hc : cn g A r j := of_decide_eq_true hjs.2
  have hO := hall j hjs.1 hc
  simp only [Od1, Bool.and_eq_true, decide_eq_true_eq] at hO
  obtain ⟨_, y, hy, hodd⟩ := hO
  exact key _ j y hjs.1 hc hy hodd rfl
theorem fF_zero {g : GTw} {A : Nat → Bool} {r : Nat} : ∀ (n : Nat) {S : Nat → Bool}, sz g A S r = 0 → fF g A r n S = 0
  | 0, _, _ => rfl
  | n + 1, S, h => by
    have h1 := cnt_zero h
    have h2 : (pr g.length fun j => S j && hgB g A r j) = false := (pr_congr h1).trans (pr_false _)
    have h3 : sz g A (Od1 g A S r) r = 0 := by
      have : sz g A (Od1 g A S r) r ≤ sz g A S r := cnt_le fun j _ hj => by
        simp only [Od1, Bool.and_eq_true] at hj ⊢
        exact ⟨hj.1.1.1, hj.2⟩
      omega
    simp only [fF, h2, fF_zero n h3]
    rfl
theorem fF_deep {g : GTw} {A : Nat → Bool} {r : Nat} : ∀ (n m : Nat) {S : Nat → Bool}, sz g A S r ≤ n → sz g A S r ≤ m → fF g A r n S = fF g A r m S
  | 0, m, S, h1, _ => by rw [fF_zero 0 (by omega), fF_zero m (by omega)]
  | n + 1, 0, S, _, h2 => by rw [fF_zero (n + 1) (by omega), fF_zero 0 (by omega)]
  | n + 1, m + 1, S, h1, h2 => by
    by_cases h0 : sz g A S r = 0
    · rw [fF_zero _ h0, fF_zero _ h0]
    · have := Od1_lt h0
      simp only [fF]
      rw [fF_deep n m (by omega) (by omega)]
/-- The fused value. -/
noncomputable def fV (g : GTw) (A S : Nat → Bool) (r : Nat) : Nat := fF g A r (sz g A S r) S
theorem fV_eq (g : GTw) (A S : Nat → Bool) (r : Nat) : fV g A S r = (pr g.length fun j => S j && hgB g A r j).toNat + 2 * fV g A (Od1 g A S r) r := by
  by_cases h0 : sz g A S r = 0
  · have h1 := cnt_zero h0
    have h2 : (pr g.length fun j => S j && hgB g A r j) = false := (pr_congr h1).trans (pr_false _)
    have h3 : sz g A (Od1 g A S r) r = 0 := by
      have : sz g A (Od1 g A S r) r ≤ sz g A S r := cnt_le fun j _ hj => by
        simp only [Od1, Bool.and_eq_true] at hj ⊢
        exact ⟨hj.1.1.1, hj.2⟩
      omega
    unfold fV
    rw [fF_zero _ h0, fF_zero _ h3, h2]
    rfl
  · have h1 := Od1_lt h0
    unfold fV
    obtain ⟨m, hm⟩ : ∃ m, sz g A S r = m + 1 := ⟨sz g A S r - 1, by omega⟩
    rw [hm]
    simp only [fF]
    rw [fF_deep m (sz g A (Od1 g A S r) r) (by omega) (Nat.le_refl _)]
theorem fV_zero {g : GTw} {A S : Nat → Bool} {r : Nat} (h : sz g A S r = 0) : fV g A S r = 0 := fF_zero _ h

end Go.Proofs.Ytobdpkkmkbafbaa
/-
  Green pictures: the fused value: it hangs on what hangs on the root alone; a bridge at the root is taken off (plain law).
-/
namespace Go.Proofs.Ytobdpkkmkbafbaa
set_option linter.unusedSimpArgs false
set_option linter.unusedVariables false
open Classical

section
variable {g : GTw} {A A' S S' : Nat → Bool} {r : Nat}
theorem cn_congr (hT : ∀ j a b, Tw g A r j a b ↔ Tw g A' r j a b) (j : Nat) : hgB g A r j = hgB g A' r j := by
  unfold hgB cn
  simp only [hT]
theorem Col_congr (hT : ∀ j a b, Tw g A r j a b ↔ Tw g A' r j a b) (D : Nat → Prop) (x : Nat → Bool) : Col g A r D x ↔ Col g A' r D x := by
  unfold Col
  simp only [hT]
theorem ins_congr (hT : ∀ j a b, Tw g A r j a b ↔ Tw g A' r j a b) (hS : ∀ j, cn g A r j → S j = S' j) (x : Nat → Bool) (j : Nat) : ins g A S r x j = ins g A' S' r x j := by
  unfold ins
  rw [cn_congr hT j]
  cases hc : hgB g A' r j
  · simp
  · rw [← cn_congr hT j] at hc
    rw [hS j (of_decide_eq_true hc)]
theorem Od1_congr (hT : ∀ j a b, Tw g A r j a b ↔ Tw g A' r j a b) (hS : ∀ j, cn g A r j → S j = S' j) (j : Nat) : Od1 g A S r j = Od1 g A' S' r j := by
  unfold Od1
  rw [cn_congr hT j]
  cases hc : hgB g A' r j
  · simp
  · rw [← cn_congr hT j] at hc
    rw [hS j (of_decide_eq_true hc)]
    have : (∃ x, Col g A r (· = j) x ∧ pr g.length (ins g A S r x) = true) ↔ (∃ x, Col g A' r (· = j) x ∧ pr g.length (ins g A' S' r x) = true) := by
      constructor
      · rintro ⟨x, h1, h2⟩
        exact ⟨x, (Col_congr hT _ _).1 h1, by rw [← h2]; exact pr_congr fun j _ => (ins_congr hT hS x j).symm⟩
      · rintro ⟨x, h1, h2⟩
        exact ⟨x, (Col_congr hT _ _).2 h1, by rw [← h2]; exact pr_congr fun j _ => ins_congr hT hS x j⟩
    simp only [this]
theorem hS_congr (hT : ∀ j a b, Tw g A r j a b ↔ Tw g A' r j a b) (hS : ∀ j, cn g A r j → S j = S' j) (j : Nat) : (S j && hgB g A r j) = (S' j && hgB g A' r j) := by
  rw [cn_congr hT j]
  cases hc : hgB g A' r j
  · simp
  · rw [← cn_congr hT j] at hc
    rw [hS j (of_decide_eq_true hc)]
theorem cnt_congr {n : Nat} {p q : Nat → Bool} (h : ∀ j, j < n → p j = q j) : cnt n p = cnt n q := by
  induction n with
  | zero => rfl
  | succ n ih => simp only [cnt, ih fun j hj => h j (by omega), h n (by omega)]
theorem sz_local (hT : ∀ j a b, Tw g A r j a b ↔ Tw g A' r j a b) (hS : ∀ j, cn g A r j → S j = S' j) : sz g A S r = sz g A' S' r := cnt_congr fun j _ => hS_congr hT hS j
theorem fF_local (hT : ∀ j a b, Tw g A r j a b ↔ Tw g A' r j a b) : ∀ (n : Nat) {S S' : Nat → Bool}, (∀ j, cn g A r j → S j = S' j) → fF g A r n S = fF g A' r n S'
  | 0, _, _, _ => rfl
  | n + 1, S, S', hS => by
    simp only [fF]
    rw [pr_congr fun j _ => hS_congr hT hS j, fF_local hT n fun j _ => Od1_congr hT hS j]
theorem fV_local (hT : ∀ j a b, Tw g A r j a b ↔ Tw g A' r j a b) (hS : ∀ j, cn g A r j → S j = S' j) : fV g A S r = fV g A' S' r := by
  unfold fV
  rw [sz_local hT hS, fF_local hT _ hS]
/-- The same twigs, other ones count. -/
theorem fV_congr (hS : ∀ j, cn g A r j → S j = S' j) : fV g A S r = fV g A S' r := fV_local (fun _ _ _ => Iff.rfl) hS
theorem Od1_sub {j : Nat} (h : Od1 g A S r j = true) : S j = true ∧ cn g A r j ∧ ∃ x, Col g A r (· = j) x ∧ pr g.length (ins g A S r x) = true := by
  simp only [Od1, Bool.and_eq_true, decide_eq_true_eq] at h
  exact ⟨h.1.1, of_decide_eq_true h.1.2, h.2⟩
theorem Od1_mk {j : Nat} (h1 : S j = true) (h2 : cn g A r j) (h3 : ∃ x, Col g A r (· = j) x ∧ pr g.length (ins g A S r x) = true) : Od1 g A S r j = true := by
  simp only [Od1, Bool.and_eq_true, decide_eq_true_eq]
  exact ⟨⟨h1, decide_eq_true h2⟩, h3⟩
theorem hgB_iff {j : Nat} : hgB g A r j = true ↔ cn g A r j := by unfold hgB; simp
theorem butK_ne {A : Nat → Bool} {f j : Nat} : butK A f j = true ↔ A j = true ∧ j ≠ f := by simp [butK]
theorem butK_at {A : Nat → Bool} {f j : Nat} (h : j ≠ f) : butK A f j = A j := by simp [butK, h]
end

/-- The twig 'f' is a bridge at the root: 'a' is its near end, 'b' its far one. -/
structure Peel (g : GTw) (A S : Nat → Bool) (r f a b : Nat) : Prop where
  hf : g[f]? = some (a, b) ∨ g[f]? = some (b, a)
  hA : A f = true
  way : Rch g (fun j => A j && !S j && decide (j ≠ f)) r a
  br : ¬ Rch g (butK A f) a b
section
variable {g : GTw} {A S : Nat → Bool} {r f a b : Nat}
theorem Peel.ra (h : Peel g A S r f a b) : Rch g (butK A f) r a := h.way.mono fun j hj => by
  simp only [Bool.and_eq_true, decide_eq_true_eq] at hj
  exact butK_ne.2 ⟨hj.1.1, hj.2⟩
theorem Peel.Ra (h : Peel g A S r f a b) : Rch g A r a := h.ra.mono fun j hj => (butK_ne.1 hj).1
theorem Peel.Rb (h : Peel g A S r f a b) : Rch g A r b := by
  rcases h.hf with hf | hf
  · exact .fwd hf h.hA h.Ra
  · exact .bwd hf h.hA h.Ra
theorem Peel.split (h : Peel g A S r f a b) {k : Nat} (hk : Rch g A r k) : Rch g (butK A f) r k ∨ Rch g (butK A f) b k := by
  have fin : ∀ {p q : Nat}, g[f]? = some (p, q) → (Rch g (butK A f) r p ∨ Rch g (butK A f) b p) ∧ (Rch g (butK A f) r q ∨ Rch g (butK A f) b q) := fun {p q} hg => by
    rcases h.hf with hf | hf <;> (rw [hf] at hg; cases hg)
    · exact ⟨.inl h.ra, .inr .refl⟩
    · exact ⟨.inr .refl, .inl h.ra⟩
  induction hk with
  | refl => exact .inl .refl
  | @fwd i p q hg hA _ ih =>
    by_cases e : i = f
    · subst e; exact (fin hg).2
    · exact ih.imp (.fwd hg (butK_ne.2 ⟨hA, e⟩)) (.fwd hg (butK_ne.2 ⟨hA, e⟩))
  | @bwd i p q hg hA _ ih =>
    by_cases e : i = f
    · subst e; exact (fin hg).1
    · exact ih.imp (.bwd hg (butK_ne.2 ⟨hA, e⟩)) (.bwd hg (butK_ne.2 ⟨hA, e⟩))
theorem Peel.excl (h : Peel g A S r f a b) {k : Nat} (h1 : Rch g (butK A f) r k) (h2 : Rch g (butK A f) b k) : False :=
  h.br ((h.ra.symm.trans h1).trans h2.symm)
theorem Peel.up (h : Peel g A S r f a b) {k : Nat} (hk : Rch g (butK A f) b k) : Rch g A r k := h.Rb.trans (hk.mono fun j hj => (butK_ne.1 hj).1)
theorem Peel.dn {k : Nat} (hk : Rch g (butK A f) r k) : Rch g A r k := hk.mono fun j hj => (butK_ne.1 hj).1
theorem Peel.tw (h : Peel g A S r f a b) {j p q : Nat} (hT : Tw g A r j p q) : j = f ∨ Tw g (butK A f) r j p q ∨ Tw g (butK A f) b j p q := by
  by_cases e : j = f
  · exact .inl e
  · rcases h.split hT.2.2 with hk | hk
    · exact .inr (.inl ⟨hT.1, butK_ne.2 ⟨hT.2.1, e⟩, hk⟩)
    · exact .inr (.inr ⟨hT.1, butK_ne.2 ⟨hT.2.1, e⟩, hk⟩)
theorem Peel.twr (h : Peel g A S r f a b) {j p q : Nat} (hT : Tw g (butK A f) r j p q) : Tw g A r j p q ∧ j ≠ f := ⟨⟨hT.1, (butK_ne.1 hT.2.1).1, Peel.dn hT.2.2⟩, (butK_ne.1 hT.2.1).2⟩
theorem Peel.twb (h : Peel g A S r f a b) {j p q : Nat} (hT : Tw g (butK A f) b j p q) : Tw g A r j p q ∧ j ≠ f := ⟨⟨hT.1, (butK_ne.1 hT.2.1).1, h.up hT.2.2⟩, (butK_ne.1 hT.2.1).2⟩
theorem Peel.cnr (h : Peel g A S r f a b) {j : Nat} (hc : cn g (butK A f) r j) : cn g A r j ∧ j ≠ f := by
  obtain ⟨p, q, hT⟩ := hc
  exact ⟨⟨p, q, (h.twr hT).1⟩, (h.twr hT).2⟩
theorem Peel.cnb (h : Peel g A S r f a b) {j : Nat} (hc : cn g (butK A f) b j) : cn g A r j ∧ j ≠ f := by
  obtain ⟨p, q, hT⟩ := hc
  exact ⟨⟨p, q, (h.twb hT).1⟩, (h.twb hT).2⟩
theorem Peel.not_both (h : Peel g A S r f a b) {j : Nat} (h1 : cn g (butK A f) r j) (h2 : cn g (butK A f) b j) : False := by
  obtain ⟨p, q, hT⟩ := h1
  obtain ⟨p', q', hT'⟩ := h2
  have := hT.1.symm.trans hT'.1
  cases this
  exact h.excl hT.2.2 hT'.2.2
theorem Peel.twf (h : Peel g A S r f a b) : cn g A r f ∧ ∀ p q, Tw g A r f p q → (p = a ∧ q = b) ∨ (p = b ∧ q = a) := by
  constructor
  · rcases h.hf with hf | hf
    · exact ⟨a, b, hf, h.hA, h.Ra⟩
    · exact ⟨b, a, hf, h.hA, h.Rb⟩
  · intro p q hT
    rcases h.hf with hf | hf <;> (have := hf.symm.trans hT.1; cases this)
    · exact .inl ⟨rfl, rfl⟩
    · exact .inr ⟨rfl, rfl⟩
theorem Peel.cn_iff (h : Peel g A S r f a b) (j : Nat) : cn g A r j ↔ j = f ∨ cn g (butK A f) r j ∨ cn g (butK A f) b j := by
  constructor
  · rintro ⟨p, q, hT⟩
    rcases h.tw hT with e | e | e
    · exact .inl e
    · exact .inr (.inl ⟨p, q, e⟩)
    · exact .inr (.inr ⟨p, q, e⟩)
  · rintro (rfl | e | e)
    · exact h.twf.1
    · exact (h.cnr e).1
    · exact (h.cnb e).1
theorem Peel.xa (h : Peel g A S r f a b) {D : Nat → Prop} {x : Nat → Bool} (hD : ∀ j, D j → S j = true ∨ j = f) (hx : Col g A r D x) : x a = false := by
  rw [hx.way (B := fun j => A j && !S j && decide (j ≠ f)) (fun j hj => ?_) .refl h.way, hx.1]
  simp only [Bool.and_eq_true, decide_eq_true_eq, Bool.not_eq_true'] at hj
  refine ⟨hj.1.1, fun hd => ?_⟩
  rcases hD j hd with e | e
  · rw [hj.1.2] at e; cases e
  · exact hj.2 e
theorem Peel.ya (h : Peel g A S r f a b) {D : Nat → Prop} {x : Nat → Bool} (hD : ∀ j, D j → S j = true ∨ j = f) (hx : Col g (butK A f) r D x) : x a = false := by
  rw [hx.way (B := fun j => A j && !S j && decide (j ≠ f)) (fun j hj => ?_) .refl h.way, hx.1]
  simp only [Bool.and_eq_true, decide_eq_true_eq, Bool.not_eq_true'] at hj
  refine ⟨butK_ne.2 ⟨hj.1.1, hj.2⟩, fun hd => ?_⟩
  rcases hD j hd with e | e
  · rw [hj.1.2] at e; cases e
  · exact hj.2 e
theorem Peel.xb (h : Peel g A S r f a b) {D : Nat → Prop} {x : Nat → Bool} (hD : ∀ j, D j → S j = true ∨ j = f) (hf : ¬ D f) (hx : Col g A r D x) : x b = false := by
  have xa := h.xa hD hx
  have hne : ¬ (x a ≠ x b) := by
    rcases h.hf with hf' | hf'
    · exact fun e => hf ((hx.2 f a b ⟨hf', h.hA, h.Ra⟩).1 e)
    · exact fun e => hf ((hx.2 f b a ⟨hf', h.hA, h.Rb⟩).1 (Ne.symm e))
  rw [← Classical.not_not.1 hne]; exact xa
/-- On the near side. -/
theorem Peel.o1 (h : Peel g A S r f a b) {j : Nat} (hj : cn g (butK A f) r j) : Od1 g A S r j = Od1 g (butK A f) (butK S f) r j := by
  have hjf := (h.cnr hj).2
  cases hs : S j
  · have e1 : Od1 g A S r j = false := by unfold Od1; rw [hs]; rfl
    have e2 : Od1 g (butK A f) (butK S f) r j = false := by unfold Od1; rw [butK_at hjf, hs]; rfl
    rw [e1, e2]
  have hD : ∀ k, k = j → S k = true ∨ k = f := fun k e => .inl (by rw [e]; exact hs)
  rw [Bool.eq_iff_iff]
  constructor
  · intro hO
    obtain ⟨_, _, x, hx, hp⟩ := Od1_sub hO
    have xa := h.xa hD hx
    have xb := h.xb hD (fun e => hjf e.symm) hx
    have hz : Col g (butK A f) b (fun _ => False) x := ⟨xb, fun k p q hT => by
      have := hx.2 k p q (h.twb hT).1
      constructor
      · intro e
        have e := this.1 e
        subst e
        exact h.not_both hj ⟨p, q, hT⟩
      · exact False.elim⟩
    refine Od1_mk (by rw [butK_at hjf]; exact hs) hj ⟨x, ⟨hx.1, fun k p q hT => hx.2 k p q (h.twr hT).1⟩, ?_⟩
    rw [← hp]
    refine pr_congr fun k hk => ?_
    rw [Bool.eq_iff_iff, ins_iff, ins_iff]
    constructor
    · rintro ⟨k1, p, q, hT, hpx⟩
      obtain ⟨hT', hne⟩ := h.twr hT
      exact ⟨by rwa [butK_at hne] at k1, p, q, hT', hpx⟩
    · rintro ⟨k1, p, q, hT, hpx, hqx⟩
      rcases h.tw hT with e | e | e
      · subst e
        rcases h.twf.2 p q hT with ⟨rfl, rfl⟩ | ⟨rfl, rfl⟩
        · rw [xa] at hpx; cases hpx
        · rw [xa] at hqx; cases hqx
      · exact ⟨by rw [butK_at (h.twr e).2]; exact k1, p, q, e, hpx, hqx⟩
      · have := hz.zero e.2.2
        rw [this] at hpx; cases hpx
  · intro hO
    obtain ⟨_, _, y, hy, hp⟩ := Od1_sub hO
    have ya := h.ya hD hy
    obtain ⟨X, hX⟩ : ∃ X : Nat → Bool, ∀ k, X k = (y k && decide (Rch g (butK A f) r k)) := ⟨_, fun _ => rfl⟩
    have xT : ∀ {k}, Rch g (butK A f) r k → X k = y k := fun {k} hk => by simp [hX, hk]
    have xF : ∀ {k}, Rch g (butK A f) b k → X k = false := fun {k} hk => by
      have : ¬ Rch g (butK A f) r k := fun h1 => h.excl h1 hk
      simp [hX, this]
    refine Od1_mk hs (h.cnr hj).1 ⟨X, ⟨by simp [hX, hy.1], fun k p q hT => ?_⟩, ?_⟩
    · rcases h.tw hT with e | e | e
      · subst e
        have hfj : ¬ k = j := fun e => hjf e.symm
        rcases h.twf.2 p q hT with ⟨rfl, rfl⟩ | ⟨rfl, rfl⟩
        · rw [xT h.ra, xF .refl, ya]; simp [hfj]
        · rw [xT h.ra, xF .refl, ya]; simp [hfj]
      · rw [xT e.2.2, xT e.rb]; exact hy.2 k p q e
      · rw [xF e.2.2, xF e.rb]
        simp only [ne_eq, not_true_eq_false, false_iff]
        rintro rfl
        exact h.not_both hj ⟨p, q, e⟩
    · rw [← hp]
      refine pr_congr fun k hk => ?_
      rw [Bool.eq_iff_iff, ins_iff, ins_iff]
      constructor
      · rintro ⟨k1, p, q, hT, hpx, hqx⟩
        rcases h.tw hT with e | e | e
        · subst e
          rcases h.twf.2 p q hT with ⟨rfl, rfl⟩ | ⟨rfl, rfl⟩
          · rw [xT h.ra, ya] at hpx; cases hpx
          · rw [xT h.ra, ya] at hqx; cases hqx
        · rw [xT e.2.2] at hpx
          rw [xT e.rb] at hqx
          exact ⟨by rw [butK_at (h.twr e).2]; exact k1, p, q, e, hpx, hqx⟩
        · rw [xF e.2.2] at hpx; cases hpx
      · rintro ⟨k1, p, q, hT, hpx, hqx⟩
        obtain ⟨hT', hne⟩ := h.twr hT
        exact ⟨by rwa [butK_at hne] at k1, p, q, hT', by rw [xT hT.2.2]; exact hpx, by rw [xT hT.rb]; exact hqx⟩
/-- On the far side. -/
theorem Peel.o2 (h : Peel g A S r f a b) {j : Nat} (hj : cn g (butK A f) b j) : Od1 g A S r j = Od1 g (butK A f) (butK S f) b j := by
  have hjf := (h.cnb hj).2
  cases hs : S j
  · have e1 : Od1 g A S r j = false := by unfold Od1; rw [hs]; rfl
    have e2 : Od1 g (butK A f) (butK S f) b j = false := by unfold Od1; rw [butK_at hjf, hs]; rfl
    rw [e1, e2]
  have hD : ∀ k, k = j → S k = true ∨ k = f := fun k e => .inl (by rw [e]; exact hs)
  rw [Bool.eq_iff_iff]
  constructor
  · intro hO
    obtain ⟨_, _, x, hx, hp⟩ := Od1_sub hO
    have xa := h.xa hD hx
    have xb := h.xb hD (fun e => hjf e.symm) hx
    have hz : Col g (butK A f) r (fun _ => False) x := ⟨hx.1, fun k p q hT => by
      have := hx.2 k p q (h.twr hT).1
      constructor
      · intro e
        have e := this.1 e
        subst e
        exact h.not_both ⟨p, q, hT⟩ hj
      · exact False.elim⟩
    refine Od1_mk (by rw [butK_at hjf]; exact hs) hj ⟨x, ⟨xb, fun k p q hT => hx.2 k p q (h.twb hT).1⟩, ?_⟩
    rw [← hp]
    refine pr_congr fun k hk => ?_
    rw [Bool.eq_iff_iff, ins_iff, ins_iff]
    constructor
    · rintro ⟨k1, p, q, hT, hpx⟩
      obtain ⟨hT', hne⟩ := h.twb hT
      exact ⟨by rwa [butK_at hne] at k1, p, q, hT', hpx⟩
    · rintro ⟨k1, p, q, hT, hpx, hqx⟩
      rcases h.tw hT with e | e | e
      · subst e
        rcases h.twf.2 p q hT with ⟨rfl, rfl⟩ | ⟨rfl, rfl⟩
        · rw [xa] at hpx; cases hpx
        · rw [xa] at hqx; cases hqx
      · have := hz.zero e.2.2
        rw [this] at hpx; cases hpx
      · exact ⟨by rw [butK_at (h.twb e).2]; exact k1, p, q, e, hpx, hqx⟩
  · intro hO
    obtain ⟨_, _, y, hy, hp⟩ := Od1_sub hO
    obtain ⟨X, hX⟩ : ∃ X : Nat → Bool, ∀ k, X k = (y k && decide (Rch g (butK A f) b k)) := ⟨_, fun _ => rfl⟩
    have xT : ∀ {k}, Rch g (butK A f) b k → X k = y k := fun {k} hk => by simp [hX, hk]
    have xF : ∀ {k}, Rch g (butK A f) r k → X k = false := fun {k} hk => by
      have : ¬ Rch g (butK A f) b k := fun h1 => h.excl hk h1
      simp [hX, this]
    have yb : X b = false := by rw [hX, hy.1]; rfl
    refine Od1_mk hs (h.cnb hj).1 ⟨X, ⟨xF .refl, fun k p q hT => ?_⟩, ?_⟩
    · rcases h.tw hT with e | e | e
      · subst e
        have hfj : ¬ k = j := fun e => hjf e.symm
        rcases h.twf.2 p q hT with ⟨rfl, rfl⟩ | ⟨rfl, rfl⟩
        · rw [xF h.ra, yb]; simp [hfj]
        · rw [xF h.ra, yb]; simp [hfj]
      · rw [xF e.2.2, xF e.rb]
        simp only [ne_eq, not_true_eq_false, false_iff]
        rintro rfl
        exact h.not_both ⟨p, q, e⟩ hj
      · rw [xT e.2.2, xT e.rb]; exact hy.2 k p q e
    · rw [← hp]
      refine pr_congr fun k hk => ?_
      rw [Bool.eq_iff_iff, ins_iff, ins_iff]
      constructor
      · rintro ⟨k1, p, q, hT, hpx, hqx⟩
        rcases h.tw hT with e | e | e
        · subst e
          rcases h.twf.2 p q hT with ⟨rfl, rfl⟩ | ⟨rfl, rfl⟩
          · rw [xF h.ra] at hpx; cases hpx
          · rw [xF h.ra] at hqx; cases hqx
        · rw [xF e.2.2] at hpx; cases hpx
        · rw [xT e.2.2] at hpx
          rw [xT e.rb] at hqx
          exact ⟨by rw [butK_at (h.twb e).2]; exact k1, p, q, e, hpx, hqx⟩
      · rintro ⟨k1, p, q, hT, hpx, hqx⟩
        obtain ⟨hT', hne⟩ := h.twb hT
        exact ⟨by rwa [butK_at hne] at k1, p, q, hT', by rw [xT hT.2.2]; exact hpx, by rw [xT hT.rb]; exact hqx⟩
/-- The bridge itself. -/
theorem Peel.x0 (h : Peel g A S r f a b) : Col g A r (· = f) (fun k => decide (Rch g (butK A f) b k)) := by
  obtain ⟨X, hX⟩ : ∃ X : Nat → Bool, X = fun k => decide (Rch g (butK A f) b k) := ⟨_, rfl⟩
  rw [← hX]
  have xT : ∀ {k}, Rch g (butK A f) b k → X k = true := fun {k} hk => by simp [hX, hk]
  have xF : ∀ {k}, Rch g (butK A f) r k → X k = false := fun {k} hk => by
    have : ¬ Rch g (butK A f) b k := fun h1 => h.excl hk h1
    simp [hX, this]
  refine ⟨xF .refl, fun k p q hT => ?_⟩
  rcases h.tw hT with e | e | e
  · subst e
    rcases h.twf.2 p q hT with ⟨rfl, rfl⟩ | ⟨rfl, rfl⟩
    · rw [xF h.ra, xT .refl]; simp
    · rw [xF h.ra, xT .refl]; simp
  · rw [xF e.2.2, xF e.rb]; simp [(h.twr e).2]
  · rw [xT e.2.2, xT e.rb]; simp [(h.twb e).2]
theorem Peel.in0 (h : Peel g A S r f a b) {x : Nat → Bool} (hx : Col g A r (· = f) x) (k : Nat) : ins g A S r x k = (butK S f k && hgB g (butK A f) b k) := by
  have xT : ∀ {k}, Rch g (butK A f) b k → x k = true := fun {k} hk => by
    rw [hx.uniq h.x0 (h.up hk)]; simp [hk]
  have xF : ∀ {k}, Rch g (butK A f) r k → x k = false := fun {k} hk => by
    have : ¬ Rch g (butK A f) b k := fun h1 => h.excl hk h1
    rw [hx.uniq h.x0 (Peel.dn hk)]; simp [this]
  rw [Bool.eq_iff_iff, ins_iff, Bool.and_eq_true, hgB_iff]
  constructor
  · rintro ⟨k1, p, q, hT, hpx, hqx⟩
    rcases h.tw hT with e | e | e
    · subst e
      rcases h.twf.2 p q hT with ⟨rfl, rfl⟩ | ⟨rfl, rfl⟩
      · rw [xF h.ra] at hpx; cases hpx
      · rw [xF h.ra] at hqx; cases hqx
    · rw [xF e.2.2] at hpx; cases hpx
    · exact ⟨by rw [butK_at (h.twb e).2]; exact k1, p, q, e⟩
  · rintro ⟨k1, p, q, hT⟩
    obtain ⟨hT', hne⟩ := h.twb hT
    exact ⟨by rwa [butK_at hne] at k1, p, q, hT', xT hT.2.2, xT hT.rb⟩
theorem Peel.o3 (h : Peel g A S r f a b) : Od1 g A S r f = (S f && pr g.length fun k => butK S f k && hgB g (butK A f) b k) := by
  cases hs : S f
  · unfold Od1; rw [hs]; rfl
  rw [Bool.true_and, Bool.eq_iff_iff]
  constructor
  · intro hO
    obtain ⟨_, _, x, hx, hp⟩ := Od1_sub hO
    rw [← hp]
    exact pr_congr fun k _ => (h.in0 hx k).symm
  · intro hp
    refine Od1_mk hs h.twf.1 ⟨_, h.x0, ?_⟩
    rw [← hp]
    exact pr_congr fun k _ => h.in0 h.x0 k
theorem Peel.cells (h : Peel g A S r f a b) (k : Nat) : (S k && hgB g A r k) = xor (xor (butK S f k && hgB g (butK A f) r k) (butK S f k && hgB g (butK A f) b k)) (decide (k = f) && S f) := by
  by_cases e : k = f
  · subst e
    have h1 : hgB g A r k = true := hgB_iff.2 h.twf.1
    have h2 : butK S k k = false := by simp [butK]
    rw [h1, h2]; simp
  · rw [butK_at e]
    have h1 : hgB g A r k = (hgB g (butK A f) r k || hgB g (butK A f) b k) := by
      rw [Bool.eq_iff_iff, Bool.or_eq_true, hgB_iff, hgB_iff, hgB_iff, h.cn_iff]
      simp [e]
    rw [h1]
    cases h2 : hgB g (butK A f) r k
    · simp [e]
    · cases h3 : hgB g (butK A f) b k
      · simp [e]
      · exact (h.not_both (hgB_iff.1 h2) (hgB_iff.1 h3)).elim
theorem Peel.lt (h : Peel g A S r f a b) : f < g.length := cn_lt h.twf.1
theorem Peel.par (h : Peel g A S r f a b) : (pr g.length fun k => S k && hgB g A r k) = xor (xor (pr g.length fun k => butK S f k && hgB g (butK A f) r k) (pr g.length fun k => butK S f k && hgB g (butK A f) b k)) (S f) := by
  have e : (pr g.length fun k => S k && hgB g A r k) = pr g.length fun k => xor (xor (butK S f k && hgB g (butK A f) r k) (butK S f k && hgB g (butK A f) b k)) (decide (k = f) && S f) := pr_congr fun k _ => h.cells k
  rw [e, pr_xor, pr_xor, pr_one _ h.lt]
theorem Peel.szr (h : Peel g A S r f a b) : sz g (butK A f) (butK S f) r ≤ sz g A S r := cnt_le fun k _ hk => by
  simp only [Bool.and_eq_true, hgB_iff] at hk ⊢
  exact ⟨(butK_ne.1 hk.1).1, (h.cnr hk.2).1⟩
theorem Peel.szb (h : Peel g A S r f a b) : sz g (butK A f) (butK S f) b ≤ sz g A S r := cnt_le fun k _ hk => by
  simp only [Bool.and_eq_true, hgB_iff] at hk ⊢
  exact ⟨(butK_ne.1 hk.1).1, (h.cnb hk.2).1⟩
theorem Peel.szr_lt (h : Peel g A S r f a b) (hs : S f = true) : sz g (butK A f) (butK S f) r < sz g A S r := cnt_lt (e := f) (fun k _ hk => by
  simp only [Bool.and_eq_true, hgB_iff] at hk ⊢
  exact ⟨(butK_ne.1 hk.1).1, (h.cnr hk.2).1⟩) h.lt (by simp [butK]) (by rw [hs, hgB_iff.2 h.twf.1]; rfl)
theorem Peel.szb_lt (h : Peel g A S r f a b) (hs : S f = true) : sz g (butK A f) (butK S f) b < sz g A S r := cnt_lt (e := f) (fun k _ hk => by
  simp only [Bool.and_eq_true, hgB_iff] at hk ⊢
  exact ⟨(butK_ne.1 hk.1).1, (h.cnb hk.2).1⟩) h.lt (by simp [butK]) (by rw [hs, hgB_iff.2 h.twf.1]; rfl)
theorem peel_nat (s p1 p2 : Bool) (x y : Nat) : (xor (xor p1 p2) s).toNat + 2 * (x ^^^ (if (s && p2) = true then 1 + y else y)) = (p1.toNat + 2 * x) ^^^ (if s = true then 1 + (p2.toNat + 2 * y) else p2.toNat + 2 * y) := by
  cases s
  · rw [if_neg (by simp), if_neg (by simp), nx, Bool.xor_false]
  · cases p2
    · have : 1 + (Bool.false.toNat + 2 * y) = true.toNat + 2 * y := by simp
      rw [if_neg (by simp), if_pos rfl, this, nx]
      simp
    · have : 1 + (true.toNat + 2 * y) = false.toNat + 2 * (1 + y) := by simp; omega
      rw [if_pos (by simp), if_pos rfl, this, nx]
      simp
end
/-- A bridge at the root is taken off. -/
theorem fV_peel {g : GTw} {A : Nat → Bool} {r f a b : Nat} : ∀ (n : Nat) {S : Nat → Bool}, sz g A S r ≤ n → Peel g A S r f a b → fV g A S r = fV g (butK A f) (butK S f) r ^^^ (if S f = true then 1 + fV g (butK A f) (butK S f) b else fV g (butK A f) (butK S f) b) := by
  intro n
  induction n with
  | zero =>
    intro S h0 h
    have h0 : sz g A S r = 0 := by omega
    have hs : ¬ S f = true := fun hs => by have := h.szr_lt hs; omega
    rw [fV_zero h0, fV_zero (by have := h.szr; omega), if_neg hs, fV_zero (by have := h.szb; omega)]
    rfl
  | succ n ih =>
    intro S hn h
    by_cases h0 : sz g A S r = 0
    · have hs : ¬ S f = true := fun hs => by have := h.szr_lt hs; omega
      rw [fV_zero h0, fV_zero (by have := h.szr; omega), if_neg hs, fV_zero (by have := h.szb; omega)]
      rfl
    have hlt := Od1_lt h0
    have hO : Peel g A (Od1 g A S r) r f a b := ⟨h.hf, h.hA, h.way.mono (fun j hj => by
      simp only [Bool.and_eq_true, decide_eq_true_eq, Bool.not_eq_true'] at hj ⊢
      refine ⟨⟨hj.1.1, ?_⟩, hj.2⟩
      cases hq : Od1 g A S r j
      · rfl
      · have := (Od1_sub hq).1
        rw [hj.1.2] at this; cases this), h.br⟩
    have e1 : fV g (butK A f) (butK (Od1 g A S r) f) r = fV g (butK A f) (Od1 g (butK A f) (butK S f) r) r := fV_congr fun j hj => by
      rw [butK_at (h.cnr hj).2]; exact h.o1 hj
    have e2 : fV g (butK A f) (butK (Od1 g A S r) f) b = fV g (butK A f) (Od1 g (butK A f) (butK S f) b) b := fV_congr fun j hj => by
      rw [butK_at (h.cnb hj).2]; exact h.o2 hj
    rw [fV_eq g A S r, ih (by omega) hO, e1, e2, h.o3, h.par, fV_eq g (butK A f) (butK S f) r, fV_eq g (butK A f) (butK S f) b]
    exact peel_nat _ _ _ _ _

end Go.Proofs.Ytobdpkkmkbafbaa
/-
  Green pictures: twigs of the root's block; a cut of one of them (plain law).
-/
namespace Go.Proofs.Ytobdpkkmkbafbaa
set_option linter.unusedSimpArgs false
set_option linter.unusedVariables false
open Classical

/-- A twig that counts, is no bridge, and lies beyond no bridge that counts. -/
def Nb (g : GTw) (A S : Nat → Bool) (r e : Nat) : Prop :=
  S e = true ∧ cn g A r e ∧ (∀ x, ¬ Col g A r (· = e) x) ∧ ∀ i x, S i = true → cn g A r i → Col g A r (· = i) x → ∀ a b, Tw g A r e a b → x a = false ∧ x b = false
noncomputable def NbB (g : GTw) (A S : Nat → Bool) (r : Nat) : Nat → Bool := fun e => decide (Nb g A S r e)
section
variable {g : GTw} {A S : Nat → Bool} {r : Nat}
theorem Od1_but {C : Nat → Bool} (hC : ∀ e, C e = true → Nb g A S r e) : Od1 g A (fun j => S j && !C j) r = Od1 g A S r := by
  have key : ∀ i x, S i = true → cn g A r i → Col g A r (· = i) x → ∀ k, ins g A (fun j => S j && !C j) r x k = ins g A S r x k := fun i x hi hc hx k => by
    rw [Bool.eq_iff_iff, ins_iff, ins_iff]
    constructor
    · rintro ⟨k1, k2⟩
      simp only [Bool.and_eq_true] at k1
      exact ⟨k1.1, k2⟩
    · rintro ⟨k1, p, q, hT, hp, hq⟩
      refine ⟨?_, p, q, hT, hp, hq⟩
      cases hk : C k
      · simp [k1]
      · have := ((hC k hk).2.2.2 i x hi hc hx p q hT).1
        rw [hp] at this; cases this
  funext j
  rw [Bool.eq_iff_iff]
  constructor
  · intro h
    obtain ⟨h1, h2, x, hx, hp⟩ := Od1_sub h
    simp only [Bool.and_eq_true] at h1
    exact Od1_mk h1.1 h2 ⟨x, hx, by rw [← hp]; exact pr_congr fun k _ => (key j x h1.1 h2 hx k).symm⟩
  · intro h
    obtain ⟨h1, h2, x, hx, hp⟩ := Od1_sub h
    refine Od1_mk ?_ h2 ⟨x, hx, by rw [← hp]; exact pr_congr fun k _ => key j x h1 h2 hx k⟩
    cases hk : C j
    · simp [h1]
    · exact absurd hx ((hC j hk).2.2.1 x)
theorem pr_Nb {C : Nat → Bool} (hC : ∀ e, C e = true → Nb g A S r e) : (pr g.length fun k => S k && hgB g A r k) = xor (pr g.length C) (pr g.length fun k => (S k && !C k) && hgB g A r k) := by
  rw [← pr_xor]
  refine pr_congr fun k _ => ?_
  cases hk : C k
  · simp
  · have := hC k hk
    rw [this.1, hgB_iff.2 this.2.1]; rfl
/-- Twigs of the root's block count as one each, nim added. -/
theorem fV_block {C : Nat → Bool} (hC : ∀ e, C e = true → Nb g A S r e) : fV g A S r = (pr g.length C).toNat ^^^ fV g A (fun j => S j && !C j) r := by
  rw [fV_eq g A S r, fV_eq g A (fun j => S j && !C j) r, Od1_but hC, pr_Nb hC]
  have : (pr g.length C).toNat = (pr g.length C).toNat + 2 * 0 := by omega
  rw [this, nx, Nat.zero_xor]
theorem NbB_iff {e : Nat} : NbB g A S r e = true ↔ Nb g A S r e := by unfold NbB; simp
/-- Without the twig 'i' all is reached as before, or there is a cut colouring of it. -/
theorem cut_alt {i a b : Nat} (hT : Tw g A r i a b) : Col g A r (· = i) (fun k => !decide (Rch g (butK A i) r k)) ∨ ∀ k, Rch g A r k → Rch g (butK A i) r k := by
  obtain ⟨y, hy⟩ : ∃ y : Nat → Bool, y = fun k => !decide (Rch g (butK A i) r k) := ⟨_, rfl⟩
  rw [← hy]
  have yr : y r = false := by simp [hy, Rch.refl]
  have ym : ∀ m p q, Tw g A r m p q → m ≠ i → y p = y q := fun m p q hM hne => by
    have e : Rch g (butK A i) r p ↔ Rch g (butK A i) r q := ⟨.fwd hM.1 (butK_ne.2 ⟨hM.2.1, hne⟩), .bwd hM.1 (butK_ne.2 ⟨hM.2.1, hne⟩)⟩
    simp [hy, e]
  by_cases hf : y a = y b
  · right
    have hz : Col g A r (fun _ => False) y := ⟨yr, fun m p q hM => by
      by_cases e : m = i
      · subst e
        obtain ⟨rfl, rfl⟩ := hT.ends hM
        simp [hf]
      · simp [ym m p q hM e]⟩
    intro k hk
    have := hz.zero hk
    simpa [hy] using this
  · left
    refine ⟨yr, fun m p q hM => ?_⟩
    by_cases e : m = i
    · subst e
      obtain ⟨rfl, rfl⟩ := hT.ends hM
      simp [hf]
    · simp [ym m p q hM e, e]
theorem nonbr {e a b : Nat} (hT : Tw g A r e a b) (h : ∀ x, ¬ Col g A r (· = e) x) {k : Nat} (hk : Rch g A r k) : Rch g (butK A e) r k := by
  rcases cut_alt hT with h1 | h1
  · exact absurd h1 (h _)
  · exact h1 k hk
theorem Nb.cut {e : Nat} (h : Nb g A S r e) {k : Nat} (hk : Rch g A r k) : Rch g (butK A e) r k := by
  obtain ⟨a, b, hT⟩ := h.2.1
  exact nonbr hT h.2.2.1 hk
theorem Nb.tw {e : Nat} (h : Nb g A S r e) {j p q : Nat} : Tw g (butK A e) r j p q ↔ Tw g A r j p q ∧ j ≠ e :=
  ⟨fun hT => ⟨⟨hT.1, (butK_ne.1 hT.2.1).1, hT.2.2.mono fun j hj => (butK_ne.1 hj).1⟩, (butK_ne.1 hT.2.1).2⟩, fun ⟨hT, hne⟩ => ⟨hT.1, butK_ne.2 ⟨hT.2.1, hne⟩, h.cut hT.2.2⟩⟩
theorem Nb.hg {e : Nat} (h : Nb g A S r e) (j : Nat) : hgB g (butK A e) r j = (hgB g A r j && decide (j ≠ e)) := by
  rw [Bool.eq_iff_iff, hgB_iff, Bool.and_eq_true, hgB_iff, decide_eq_true_eq]
  constructor
  · rintro ⟨p, q, hT⟩
    exact ⟨⟨p, q, (h.tw.1 hT).1⟩, (h.tw.1 hT).2⟩
  · rintro ⟨⟨p, q, hT⟩, hne⟩
    exact ⟨p, q, h.tw.2 ⟨hT, hne⟩⟩
/-- Two twigs that part an odd number of others together. -/
noncomputable def Rl (g : GTw) (A S : Nat → Bool) (r e j : Nat) : Bool := decide (e ≠ j ∧ ∃ x, Col g A r (fun k => k = e ∨ k = j) x ∧ pr g.length (ins g A S r x) = true)
theorem Rl_iff {e j : Nat} : Rl g A S r e j = true ↔ e ≠ j ∧ ∃ x, Col g A r (fun k => k = e ∨ k = j) x ∧ pr g.length (ins g A S r x) = true := by unfold Rl; simp
theorem Rl_symm (e j : Nat) : Rl g A S r e j = Rl g A S r j e := by
  rw [Bool.eq_iff_iff, Rl_iff, Rl_iff]
  have e1 : (fun k => k = e ∨ k = j) = fun k => k = j ∨ k = e := by funext k; exact propext or_comm
  rw [e1]
  exact ⟨fun h => ⟨h.1.symm, h.2⟩, fun h => ⟨h.1.symm, h.2⟩⟩
theorem Rl_self (e : Nat) : Rl g A S r e e = false := by
  cases h : Rl g A S r e e
  · rfl
  · exact absurd rfl (Rl_iff.1 h).1
/-- What stands under an odd number behind such a cut. -/
theorem Nb.od {e : Nat} (h : Nb g A S r e) (j : Nat) : Od1 g (butK A e) (butK S e) r j = (Od1 g A S r j || (S j && hgB g A r j && Rl g A S r e j)) := by
  obtain ⟨ea, eb, hE⟩ := h.2.1
  have hin : ∀ x, (x ea && x eb) = false → ∀ k, ins g (butK A e) (butK S e) r x k = ins g A S r x k := fun x hx k => by
    rw [Bool.eq_iff_iff, ins_iff, ins_iff]
    constructor
    · rintro ⟨k1, p, q, hT, hp, hq⟩
      exact ⟨(butK_ne.1 k1).1, p, q, (h.tw.1 hT).1, hp, hq⟩
    · rintro ⟨k1, p, q, hT, hp, hq⟩
      have hne : k ≠ e := by
        rintro rfl
        obtain ⟨rfl, rfl⟩ := hE.ends hT
        rw [hp, hq] at hx; cases hx
      exact ⟨butK_ne.2 ⟨k1, hne⟩, p, q, h.tw.2 ⟨hT, hne⟩, hp, hq⟩
  by_cases hje : j = e
  · subst hje
    have e1 : Od1 g (butK A j) (butK S j) r j = false := by unfold Od1; simp [butK]
    have e2 : Od1 g A S r j = false := by
      cases hq : Od1 g A S r j
      · rfl
      · obtain ⟨_, _, x, hx, _⟩ := Od1_sub hq
        exact absurd hx (h.2.2.1 x)
    rw [e1, e2, Rl_self]; simp
  rw [Bool.eq_iff_iff, Bool.or_eq_true, Bool.and_eq_true, Bool.and_eq_true, hgB_iff]
  constructor
  · intro hO
    obtain ⟨h1, ⟨p, q, hT⟩, x, hx, hp⟩ := Od1_sub hO
    have hsj := (butK_ne.1 h1).1
    have hcj : cn g A r j := ⟨p, q, (h.tw.1 hT).1⟩
    by_cases hf : x ea = x eb
    · left
      have hC : Col g A r (· = j) x := ⟨hx.1, fun m p q hM => by
        by_cases e1 : m = e
        · subst e1
          obtain ⟨rfl, rfl⟩ := hE.ends hM
          simp [hf, Ne.symm hje]
        · exact hx.2 m p q (h.tw.2 ⟨hM, e1⟩)⟩
      have := (h.2.2.2 j x hsj hcj hC ea eb hE)
      exact Od1_mk hsj hcj ⟨x, hC, by rw [← hp]; exact pr_congr fun k _ => (hin x (by rw [this.1]; rfl) k).symm⟩
    · right
      have hC : Col g A r (fun k => k = e ∨ k = j) x := ⟨hx.1, fun m p q hM => by
        by_cases e1 : m = e
        · subst e1
          obtain ⟨rfl, rfl⟩ := hE.ends hM
          simp [hf]
        · have := hx.2 m p q (h.tw.2 ⟨hM, e1⟩)
          simp only [e1, false_or]
          exact this⟩
      exact ⟨⟨hsj, hcj⟩, Rl_iff.2 ⟨Ne.symm hje, x, hC, by rw [← hp]; exact pr_congr fun k _ => (hin x (by revert hf; cases x ea <;> cases x eb <;> simp) k).symm⟩⟩
  · rintro (hO | ⟨⟨hsj, p, q, hT⟩, hR⟩)
    · obtain ⟨hsj, ⟨p, q, hT⟩, x, hx, hp⟩ := Od1_sub hO
      have := (h.2.2.2 j x hsj ⟨p, q, hT⟩ hx ea eb hE)
      exact Od1_mk (butK_ne.2 ⟨hsj, hje⟩) ⟨p, q, h.tw.2 ⟨hT, hje⟩⟩ ⟨x, ⟨hx.1, fun m p q hM => hx.2 m p q (h.tw.1 hM).1⟩, by rw [← hp]; exact pr_congr fun k _ => hin x (by rw [this.1]; rfl) k⟩
    · obtain ⟨_, x, hx, hp⟩ := Rl_iff.1 hR
      have hf : x ea ≠ x eb := (hx.2 e ea eb hE).2 (.inl rfl)
      refine Od1_mk (butK_ne.2 ⟨hsj, hje⟩) ⟨p, q, h.tw.2 ⟨hT, hje⟩⟩ ⟨x, ⟨hx.1, fun m p q hM => ?_⟩, by rw [← hp]; exact pr_congr fun k _ => hin x (by revert hf; cases x ea <;> cases x eb <;> simp) k⟩
      obtain ⟨hM', hne⟩ := h.tw.1 hM
      have := hx.2 m p q hM'
      simp only [hne, false_or] at this
      exact this
/-- Such twigs lie in the root's block, too. -/
theorem Nb.closed {e j : Nat} (h : Nb g A S r e) (hsj : S j = true) (hcj : cn g A r j) (hR : Rl g A S r e j = true) : Nb g A S r j := by
  obtain ⟨hne, x, hx, _⟩ := Rl_iff.1 hR
  obtain ⟨ea, eb, hE⟩ := h.2.1
  obtain ⟨ja, jb, hJ⟩ := hcj
  have xE : x ea ≠ x eb := (hx.2 e ea eb hE).2 (.inl rfl)
  have xJ : x ja ≠ x jb := (hx.2 j ja jb hJ).2 (.inr rfl)
  have nb : ∀ y, ¬ Col g A r (· = j) y := fun y hy => by
    refine h.2.2.1 (fun k => xor (x k) (y k)) ⟨by simp [hx.1, hy.1], fun m p q hM => ?_⟩
    have m1 := hx.2 m p q hM
    have m2 := hy.2 m p q hM
    by_cases e1 : m = e
    · subst e1
      simp only [hne, true_or, iff_true, iff_false] at m1 m2 ⊢
      revert m1 m2
      cases x p <;> cases x q <;> cases y p <;> cases y q <;> simp
    · by_cases e2 : m = j
      · subst e2
        simp only [e1, or_true, iff_true, iff_false] at m1 m2 ⊢
        revert m1 m2
        cases x p <;> cases x q <;> cases y p <;> cases y q <;> simp
      · simp only [e1, e2, or_self, iff_false] at m1 m2 ⊢
        revert m1 m2
        cases x p <;> cases x q <;> cases y p <;> cases y q <;> simp
  refine ⟨hsj, ⟨ja, jb, hJ⟩, nb, fun i y hi hci hy a b hT => ?_⟩
  obtain ⟨rfl, rfl⟩ := hJ.ends hT
  have hij : i ≠ j := by rintro rfl; exact nb y hy
  have hie : i ≠ e := by rintro rfl; exact h.2.2.1 y hy
  obtain ⟨ia, ib, hI⟩ := hci
  have yE := h.2.2.2 i y hi ⟨ia, ib, hI⟩ hy ea eb hE
  have yJ : y a = y b := by
    have := hy.2 j a b hT
    exact Classical.not_not.1 fun h => hij (this.1 h).symm
  have xI : x ia = x ib := by
    have := hx.2 i ia ib hI
    exact Classical.not_not.1 fun h => (this.1 h).elim hie hij
  have yI : y ia ≠ y ib := (hy.2 i ia ib hI).2 rfl
  cases hya : y a
  · exact ⟨rfl, by rw [← yJ]; exact hya⟩
  exfalso
  rw [hya] at yJ
  have gen : ∀ m p q, Tw g A r m p q → m ≠ e → m ≠ j → m ≠ i → x p = x q ∧ y p = y q := fun m p q hM e1 e2 e3 =>
    ⟨Classical.not_not.1 fun h => ((hx.2 m p q hM).1 h).elim e1 e2, Classical.not_not.1 fun h => e3 ((hy.2 m p q hM).1 h)⟩
  cases hxi : x ia
  · refine nb (fun k => x k && y k) ⟨by simp [hx.1], fun m p q hM => ?_⟩
    by_cases e1 : m = e
    · subst e1
      obtain ⟨rfl, rfl⟩ := hE.ends hM
      simp [yE.1, yE.2, hne]
    by_cases e2 : m = j
    · subst e2
      obtain ⟨rfl, rfl⟩ := hJ.ends hM
      simp only [hya, ← yJ, Bool.and_true, iff_true]
      exact xJ
    by_cases e3 : m = i
    · subst e3
      obtain ⟨rfl, rfl⟩ := hI.ends hM
      rw [hxi] at xI
      simp [hxi, ← xI, hij]
    obtain ⟨g1, g2⟩ := gen m p q hM e1 e2 e3
    simp [g1, g2, e2]
  · refine nb (fun k => !x k && y k) ⟨by simp [hx.1, hy.1], fun m p q hM => ?_⟩
    by_cases e1 : m = e
    · subst e1
      obtain ⟨rfl, rfl⟩ := hE.ends hM
      simp [yE.1, yE.2, hne]
    by_cases e2 : m = j
    · subst e2
      obtain ⟨rfl, rfl⟩ := hJ.ends hM
      simp only [hya, ← yJ, Bool.and_true, iff_true]
      intro e; exact xJ (by revert e; cases x p <;> cases x q <;> simp)
    by_cases e3 : m = i
    · subst e3
      obtain ⟨rfl, rfl⟩ := hI.ends hM
      rw [hxi] at xI
      simp [hxi, ← xI, hij]
    obtain ⟨g1, g2⟩ := gen m p q hM e1 e2 e3
    simp [g1, g2, e2]
end

end Go.Proofs.Ytobdpkkmkbafbaa
/-
  Green pictures: an odd block has a twig whose cut leaves what stands on the block (plain law).
-/
namespace Go.Proofs.Ytobdpkkmkbafbaa
set_option linter.unusedSimpArgs false
set_option linter.unusedVariables false
open Classical

section
variable {g : GTw} {A S : Nat → Bool} {r : Nat}
/-- Of three twigs that part in pairs just one or all lie within. -/
theorem three_odd {e f h ea eb fa fb ha hb : Nat} {x y : Nat → Bool} (hef : e ≠ f) (hfh : f ≠ h) (heh : e ≠ h) (hE : Tw g A r e ea eb) (hF : Tw g A r f fa fb) (hH : Tw g A r h ha hb)
    (hx : Col g A r (fun k => k = e ∨ k = f) x) (hy : Col g A r (fun k => k = f ∨ k = h) y) (nb : ∀ z, ¬ Col g A r (· = e) z) : xor (xor (y ea) (x ha)) (xor (x fa) (y fa)) = true := by
  have xE : x ea ≠ x eb := (hx.2 e ea eb hE).2 (.inl rfl)
  have xF : x fa ≠ x fb := (hx.2 f fa fb hF).2 (.inr rfl)
  have xH : x ha = x hb := Classical.not_not.1 fun q => ((hx.2 h ha hb hH).1 q).elim (fun e => heh e.symm) (fun e => hfh e.symm)
  have yE : y ea = y eb := Classical.not_not.1 fun q => ((hy.2 e ea eb hE).1 q).elim hef heh
  have yF : y fa ≠ y fb := (hy.2 f fa fb hF).2 (.inl rfl)
  have yH : y ha ≠ y hb := (hy.2 h ha hb hH).2 (.inr rfl)
  have gen : ∀ m p q, Tw g A r m p q → m ≠ e → m ≠ f → m ≠ h → x p = x q ∧ y p = y q := fun m p q hM e1 e2 e3 =>
    ⟨Classical.not_not.1 fun q => ((hx.2 m p _ hM).1 q).elim e1 e2, Classical.not_not.1 fun q => ((hy.2 m p _ hM).1 q).elim e2 e3⟩
  have mk : ∀ z : Nat → Bool, z r = false → z ea ≠ z eb → z fa = z fb → z ha = z hb → (∀ p q, x p = x q → y p = y q → z p = z q) → False := fun z z0 zE zF zH zg => by
    refine nb z ⟨z0, fun m p q hM => ?_⟩
    by_cases e1 : m = e
    · subst e1
      obtain ⟨rfl, rfl⟩ := hE.ends hM
      simp [zE]
    by_cases e2 : m = f
    · subst e2
      obtain ⟨rfl, rfl⟩ := hF.ends hM
      simp [zF, e1]
    by_cases e3 : m = h
    · subst e3
      obtain ⟨rfl, rfl⟩ := hH.ends hM
      simp [zH, e1]
    obtain ⟨g1, g2⟩ := gen m p q hM e1 e2 e3
    simp [zg p q g1 g2, e1]
  refine Classical.byContradiction fun hno => ?_
  have hno : xor (xor (y ea) (x ha)) (xor (x fa) (y fa)) = false := by simpa using hno
  cases u : y ea <;> cases v : x ha
  · refine mk (fun k => x k && !y k) (by simp [hx.1]) ?_ ?_ ?_ (fun p q h1 h2 => by simp [h1, h2])
    · revert xE yE; rw [u]; cases x ea <;> cases x eb <;> cases y eb <;> simp
    · revert xF yF hno; rw [u, v]; cases x fa <;> cases x fb <;> cases y fa <;> cases y fb <;> simp
    · revert xH yH; rw [v]; cases x hb <;> cases y ha <;> cases y hb <;> simp
  · refine mk (fun k => x k || y k) (by simp [hx.1, hy.1]) ?_ ?_ ?_ (fun p q h1 h2 => by simp [h1, h2])
    · revert xE yE; rw [u]; cases x ea <;> cases x eb <;> cases y eb <;> simp
    · revert xF yF hno; rw [u, v]; cases x fa <;> cases x fb <;> cases y fa <;> cases y fb <;> simp
    · revert xH yH; rw [v]; cases x hb <;> cases y ha <;> cases y hb <;> simp
  · refine mk (fun k => x k && y k) (by simp [hx.1]) ?_ ?_ ?_ (fun p q h1 h2 => by simp [h1, h2])
    · revert xE yE; rw [u]; cases x ea <;> cases x eb <;> cases y eb <;> simp
    · revert xF yF hno; rw [u, v]; cases x fa <;> cases x fb <;> cases y fa <;> cases y fb <;> simp
    · revert xH yH; rw [v]; cases x hb <;> cases y ha <;> cases y hb <;> simp
  · refine mk (fun k => !x k && y k) (by simp [hx.1, hy.1]) ?_ ?_ ?_ (fun p q h1 h2 => by simp [h1, h2])
    · revert xE yE; rw [u]; cases x ea <;> cases x eb <;> cases y eb <;> simp
    · revert xF yF hno; rw [u, v]; cases x fa <;> cases x fb <;> cases y fa <;> cases y fb <;> simp
    · revert xH yH; rw [v]; cases x hb <;> cases y ha <;> cases y hb <;> simp
theorem ins_at {x : Nat → Bool} {k p q : Nat} (hs : S k = true) (hT : Tw g A r k p q) : ins g A S r x k = (x p && x q) := by
  unfold ins
  rw [hs, hgB_iff.2 ⟨p, q, hT⟩, xe_at hT.1]; rfl
theorem Rl_trans {e f h : Nat} (he : Nb g A S r e) (hf : Nb g A S r f) (hh : Nb g A S r h) (h1 : Rl g A S r e f = true) (h2 : Rl g A S r f h = true) (heh : e ≠ h) : Rl g A S r e h = true := by
  obtain ⟨hef, x, hx, px⟩ := Rl_iff.1 h1
  obtain ⟨hfh, y, hy, py⟩ := Rl_iff.1 h2
  obtain ⟨ea, eb, hE⟩ := he.2.1
  obtain ⟨fa, fb, hF⟩ := hf.2.1
  obtain ⟨ha, hb, hH⟩ := hh.2.1
  have h3 := three_odd hef hfh heh hE hF hH hx hy he.2.2.1
  have xE : x ea ≠ x eb := (hx.2 e ea eb hE).2 (.inl rfl)
  have xF : x fa ≠ x fb := (hx.2 f fa fb hF).2 (.inr rfl)
  have xH : x ha = x hb := Classical.not_not.1 fun q => ((hx.2 h ha hb hH).1 q).elim (fun e => heh e.symm) (fun e => hfh e.symm)
  have yE : y ea = y eb := Classical.not_not.1 fun q => ((hy.2 e ea eb hE).1 q).elim hef heh
  have yF : y fa ≠ y fb := (hy.2 f fa fb hF).2 (.inl rfl)
  have yH : y ha ≠ y hb := (hy.2 h ha hb hH).2 (.inr rfl)
  refine Rl_iff.2 ⟨heh, fun k => xor (x k) (y k), ⟨by simp [hx.1, hy.1], fun m p q hM => ?_⟩, ?_⟩
  · have m1 := hx.2 m p q hM
    have m2 := hy.2 m p q hM
    by_cases e1 : m = e
    · subst e1
      simp only [hef, heh, true_or, or_self, iff_true, iff_false] at m1 m2 ⊢
      revert m1 m2
      cases x p <;> cases x q <;> cases y p <;> cases y q <;> simp
    by_cases e2 : m = f
    · subst e2
      simp only [e1, hfh, or_true, true_or, or_self, iff_true, iff_false] at m1 m2 ⊢
      revert m1 m2
      cases x p <;> cases x q <;> cases y p <;> cases y q <;> simp
    by_cases e3 : m = h
    · subst e3
      simp only [e1, e2, or_true, or_self, iff_true, iff_false] at m1 m2 ⊢
      revert m1 m2
      cases x p <;> cases x q <;> cases y p <;> cases y q <;> simp
    simp only [e1, e2, e3, or_self, iff_false] at m1 m2 ⊢
    revert m1 m2
    cases x p <;> cases x q <;> cases y p <;> cases y q <;> simp
  · have hcell : ∀ k, ins g A S r (fun k => xor (x k) (y k)) k = xor (xor (ins g A S r x k) (ins g A S r y k)) (xor (xor (decide (k = e) && y ea) (decide (k = f) && xor (x fa) (y fa))) (decide (k = h) && x ha)) := fun k => by
      by_cases e1 : k = e
      · subst e1
        rw [ins_at he.1 hE, ins_at he.1 hE, ins_at he.1 hE]
        simp only [hef, heh, decide_true, decide_false]
        revert xE yE
        cases x ea <;> cases x eb <;> cases y ea <;> cases y eb <;> simp
      by_cases e2 : k = f
      · subst e2
        rw [ins_at hf.1 hF, ins_at hf.1 hF, ins_at hf.1 hF]
        simp only [e1, hfh, decide_true, decide_false]
        revert xF yF
        cases x fa <;> cases x fb <;> cases y fa <;> cases y fb <;> simp
      by_cases e3 : k = h
      · subst e3
        rw [ins_at hh.1 hH, ins_at hh.1 hH, ins_at hh.1 hH]
        simp only [e1, e2, decide_true, decide_false]
        revert xH yH
        cases x ha <;> cases x hb <;> cases y ha <;> cases y hb <;> simp
      simp only [e1, e2, e3, decide_false, Bool.false_and, Bool.xor_false]
      cases hs : S k
      · simp [ins, hs]
      · cases hc : hgB g A r k
        · simp [ins, hc]
        · obtain ⟨p, q, hM⟩ := hgB_iff.1 hc
          have m1 := hx.2 k p q hM
          have m2 := hy.2 k p q hM
          simp only [e1, e2, e3, or_self, iff_false] at m1 m2
          rw [ins_at hs hM, ins_at hs hM, ins_at hs hM]
          revert m1 m2
          cases x p <;> cases x q <;> cases y p <;> cases y q <;> simp
    have : pr g.length (ins g A S r fun k => xor (x k) (y k)) = pr g.length fun k => xor (xor (ins g A S r x k) (ins g A S r y k)) (xor (xor (decide (k = e) && y ea) (decide (k = f) && xor (x fa) (y fa))) (decide (k = h) && x ha)) := pr_congr fun k _ => hcell k
    rw [this, pr_xor, pr_xor, pr_xor, pr_xor, pr_one _ hE.lt, pr_one _ hF.lt, pr_one _ hH.lt, px, py]
    revert h3
    cases y ea <;> cases x ha <;> cases xor (x fa) (y fa) <;> simp

/-- Where all twigs that count belong to one class or stand under an odd number, there is no odd colouring. -/
theorem no_odd {e0 : Nat} (h0 : Nb g A S r e0) (hall : ∀ j, S j = true → cn g A r j → Od1 g A S r j = true ∨ j = e0 ∨ (Nb g A S r j ∧ Rl g A S r e0 j = true)) :
    ∀ n x i, S i = true → cn g A r i → (Col g A r (· = i) x ∨ (Nb g A S r i ∧ i ≠ e0 ∧ Col g A r (fun k => k = e0 ∨ k = i) x)) → pr g.length (ins g A S r x) = true → cnt g.length (ins g A S r x) = n → False := by
  intro n
  induction n using Nat.strongRecOn with
  | ind n ih =>
    intro x i hsi hci hx hp hn
    obtain ⟨j, hjl, hj⟩ := pr_some hp
    obtain ⟨hsj, ja, jb, hJ, xa, xb⟩ := ins_iff.1 hj
    obtain ⟨ea, eb, hE⟩ := h0.2.1
    obtain ⟨ia, ib, hI⟩ := hci
    -- a colouring that lies within, and not around 'j'
    have fin : ∀ y i', S i' = true → cn g A r i' → (Col g A r (· = i') y ∨ (Nb g A S r i' ∧ i' ≠ e0 ∧ Col g A r (fun k => k = e0 ∨ k = i') y)) → pr g.length (ins g A S r y) = true → y ja ≠ y jb → (∀ k, Rch g A r k → y k = true → x k = true) → False := fun y i' h1 h2 h3 h4 h5 h6 => by
      refine ih (cnt g.length (ins g A S r y)) ?_ y i' h1 h2 h3 h4 rfl
      rw [← hn]
      refine cnt_lt (fun m hm hin => ?_) hjl ?_ hj
      · obtain ⟨q1, p, q, hM, hp, hq⟩ := ins_iff.1 hin
        exact ins_iff.2 ⟨q1, p, q, hM, h6 p hM.2.2 hp, h6 q hM.rb hq⟩
      · rw [ins_at hsj hJ]
        revert h5
        cases y ja <;> cases y jb <;> simp
    rcases hx with hx | ⟨hNi, hie, hx⟩
    · have hij : i ≠ j := by
        rintro rfl
        exact (hx.2 i ja jb hJ).2 rfl (by rw [xa, xb])
      rcases hall j hsj ⟨ja, jb, hJ⟩ with hO | rfl | ⟨hN, _⟩
      · obtain ⟨_, _, y, hy, hodd⟩ := Od1_sub hO
        exact fin y j hsj ⟨ja, jb, hJ⟩ (.inl hy) hodd ((hy.2 j ja jb hJ).2 rfl) fun k hk => nest ⟨ia, ib, hI⟩ hx hy hJ xa xb hk
      · have := (h0.2.2.2 i x hsi ⟨ia, ib, hI⟩ hx ja jb hJ).1
        rw [xa] at this; cases this
      · have := (hN.2.2.2 i x hsi ⟨ia, ib, hI⟩ hx ja jb hJ).1
        rw [xa] at this; cases this
    · have xE : x ea ≠ x eb := (hx.2 e0 ea eb hE).2 (.inl rfl)
      have xI : x ia ≠ x ib := (hx.2 i ia ib hI).2 (.inr rfl)
      have hje : j ≠ e0 := by
        rintro rfl
        obtain ⟨rfl, rfl⟩ := hE.ends hJ
        exact xE (by rw [xa, xb])
      have hji : j ≠ i := by
        rintro rfl
        obtain ⟨rfl, rfl⟩ := hI.ends hJ
        exact xI (by rw [xa, xb])
      rcases hall j hsj ⟨ja, jb, hJ⟩ with hO | rfl | ⟨hN, hR⟩
      · obtain ⟨_, _, y, hy, hodd⟩ := Od1_sub hO
        have yE := h0.2.2.2 j y hsj ⟨ja, jb, hJ⟩ hy ea eb hE
        have yI := hNi.2.2.2 j y hsj ⟨ja, jb, hJ⟩ hy ia ib hI
        refine fin y j hsj ⟨ja, jb, hJ⟩ (.inl hy) hodd ((hy.2 j ja jb hJ).2 rfl) fun k hk hyk => ?_
        have hz : Col g A r (fun _ => False) (fun q => y q && !x q) := ⟨by simp [hy.1], fun m p q hM => by
          by_cases e1 : m = e0
          · subst e1
            obtain ⟨rfl, rfl⟩ := hE.ends hM
            simp [yE.1, yE.2]
          by_cases e2 : m = i
          · subst e2
            obtain ⟨rfl, rfl⟩ := hI.ends hM
            simp [yI.1, yI.2]
          by_cases e3 : m = j
          · subst e3
            obtain ⟨rfl, rfl⟩ := hJ.ends hM
            simp [xa, xb]
          have m1 := hx.2 m p q hM
          have m2 := hy.2 m p q hM
          simp only [e1, e2, e3, or_self, iff_false, Classical.not_not] at m1 m2
          simp [m1, m2]⟩
        have := hz.zero hk
        simp only [hyk, Bool.true_and, Bool.not_eq_false'] at this
        exact this
      · exact hje rfl
      · obtain ⟨_, y, hy, hodd⟩ := Rl_iff.1 hR
        have yE : y ea ≠ y eb := (hy.2 e0 ea eb hE).2 (.inl rfl)
        have yJ : y ja ≠ y jb := (hy.2 j ja jb hJ).2 (.inr rfl)
        have yI : y ia = y ib := Classical.not_not.1 fun q => ((hy.2 i ia ib hI).1 q).elim hie (fun e => hji e.symm)
        have gen : ∀ m p q, Tw g A r m p q → m ≠ e0 → m ≠ i → m ≠ j → x p = x q ∧ y p = y q := fun m p q hM e1 e2 e3 =>
          ⟨Classical.not_not.1 fun q => ((hx.2 m p _ hM).1 q).elim e1 e2, Classical.not_not.1 fun q => ((hy.2 m p _ hM).1 q).elim e1 e3⟩
        have zc : ∀ D : Nat → Prop, ((y ea && !x ea) ≠ (y eb && !x eb) ↔ D e0) → ((y ia && !x ia) ≠ (y ib && !x ib) ↔ D i) → (∀ m, m ≠ e0 → m ≠ i → ¬ D m) → Col g A r D (fun q => y q && !x q) := fun D d1 d2 d3 =>
          ⟨by simp [hy.1], fun m p q hM => by
            by_cases e1 : m = e0
            · subst e1
              obtain ⟨rfl, rfl⟩ := hE.ends hM
              exact d1
            by_cases e2 : m = i
            · subst e2
              obtain ⟨rfl, rfl⟩ := hI.ends hM
              exact d2
            have d3 := d3 m e1 e2
            by_cases e3 : m = j
            · subst e3
              obtain ⟨rfl, rfl⟩ := hJ.ends hM
              simp [xa, xb, d3]
            obtain ⟨g1, g2⟩ := gen m p q hM e1 e2 e3
            simp [g1, g2, d3]⟩
        by_cases huv : y ea = x ea
        · have hE0 : ¬ (y ea && !x ea) ≠ (y eb && !x eb) := by
            revert xE yE huv
            cases x ea <;> cases x eb <;> cases y ea <;> cases y eb <;> simp
          cases hyi : y ia
          · refine fin y j hsj ⟨ja, jb, hJ⟩ (.inr ⟨hN, hje, hy⟩) hodd yJ fun k hk hyk => ?_
            have hz := zc (fun _ => False) (by simp only [iff_false]; exact hE0) (by rw [hyi] at yI; rw [hyi, ← yI]; simp) (fun _ _ _ => id)
            have := hz.zero hk
            simp only [hyk, Bool.true_and, Bool.not_eq_false'] at this
            exact this
          · refine hNi.2.2.1 _ (zc (· = i) ?_ ?_ (fun m _ e2 => e2))
            · simp only [Ne.symm hie, iff_false]; exact hE0
            · rw [hyi] at yI; rw [hyi, ← yI]
              simp only [Bool.true_and, iff_true]
              intro e; exact xI (by revert e; cases x ia <;> cases x ib <;> simp)
        · have hE1 : (y ea && !x ea) ≠ (y eb && !x eb) := by
            revert xE yE huv
            cases x ea <;> cases x eb <;> cases y ea <;> cases y eb <;> simp
          cases hyi : y ia
          · refine h0.2.2.1 _ (zc (· = e0) ?_ ?_ (fun m e1 _ => e1))
            · simp only [iff_true]; exact hE1
            · rw [hyi] at yI; rw [hyi, ← yI]; simp [hie]
          · have hz := zc (fun k => k = e0 ∨ k = i) (by simp only [true_or, iff_true]; exact hE1) (by
              rw [hyi] at yI; rw [hyi, ← yI]
              simp only [Bool.true_and, or_true, iff_true]
              intro e; exact xI (by revert e; cases x ia <;> cases x ib <;> simp)) (fun m e1 e2 h => h.elim e1 e2)
            have q1 := hz.uniq hx hE.2.2
            have q2 := hz.uniq hx hE.rb
            revert q1 q2 xE
            cases x ea <;> cases x eb <;> cases y ea <;> cases y eb <;> simp
end

theorem sz_none {g : GTw} {A S : Nat → Bool} {r : Nat} (h : ∀ j, S j = false) : sz g A S r = 0 := by
  unfold sz
  have : ∀ n, cnt n (fun j => S j && hgB g A r j) = 0 := fun n => by
    induction n with
    | zero => rfl
    | succ n ih => simp only [cnt, ih]; rw [h n]; rfl
  exact this _
/-- An odd block has a twig whose cut leaves what stands on the block. -/
theorem block_cut {g : GTw} {A : Nat → Bool} {r : Nat} : ∀ (n : Nat) {S : Nat → Bool}, sz g A S r ≤ n → pr g.length (NbB g A S r) = true → ∃ e, Nb g A S r e ∧ fV g (butK A e) (butK S e) r = fV g A (fun j => S j && !NbB g A S r j) r := by
  intro n
  induction n with
  | zero =>
    intro S h0 hp
    obtain ⟨e, hl, he⟩ := pr_some hp
    have he := NbB_iff.1 he
    have h00 : sz g A S r = 0 := by omega
    have := cnt_zero h00 e hl
    rw [he.1, hgB_iff.2 he.2.1] at this; cases this
  | succ n ih =>
    intro S hn hp
    obtain ⟨e0, _, h0, hR⟩ := hand_shake (R := Rl g A S r) (fun i j => Rl_symm i j) (fun i => Rl_self i) hp
    have h0 := NbB_iff.1 h0
    -- the value behind a cut
    have val : ∀ e, Nb g A S r e → fV g (butK A e) (Od1 g (butK A e) (butK S e) r) r = fV g A (Od1 g A S r) r → fV g (butK A e) (butK S e) r = fV g A (fun j => S j && !NbB g A S r j) r := fun e he hv => by
      have hC : ∀ j, NbB g A S r j = true → Nb g A S r j := fun j hj => NbB_iff.1 hj
      rw [fV_eq g (butK A e) (butK S e) r, hv, fV_eq g A (fun j => S j && !NbB g A S r j) r, Od1_but hC]
      have p1 := pr_Nb hC
      rw [hp] at p1
      have p2 : (pr g.length fun k => butK S e k && hgB g (butK A e) r k) = !(pr g.length fun k => S k && hgB g A r k) := by
        rw [← pr_but (e := e) (cn_lt he.2.1) (by rw [he.1, hgB_iff.2 he.2.1]; rfl)]
        refine pr_congr fun k _ => ?_
        rw [he.hg]
        by_cases hk : k = e
        · subst hk; simp [butK]
        · rw [butK_at hk]; simp [hk]
      rw [p2, p1]
      simp
    have clsP : ∃ c : Nat → Bool, ∀ j, c j = (decide (j = e0) || (NbB g A S r j && Rl g A S r e0 j)) := ⟨_, fun _ => rfl⟩
    obtain ⟨cls, hcls⟩ := clsP
    have cNb : ∀ j, cls j = true → Nb g A S r j := fun j hj => by
      rw [hcls] at hj
      simp only [Bool.or_eq_true, decide_eq_true_eq, Bool.and_eq_true] at hj
      rcases hj with rfl | hj
      · exact h0
      · exact NbB_iff.1 hj.1
    have pcls : pr g.length cls = true := by
      have : pr g.length cls = pr g.length fun j => xor (decide (j = e0) && true) (NbB g A S r j && Rl g A S r e0 j) := pr_congr fun j _ => by
        rw [hcls]
        by_cases hj : j = e0
        · subst hj; simp [Rl_self]
        · simp [hj]
      rw [this, pr_xor, pr_one _ (cn_lt h0.2.1), hR]; rfl
    have tP : ∃ T : Nat → Bool, ∀ j, T j = (Od1 g A S r j || cls j) := ⟨_, fun _ => rfl⟩
    obtain ⟨T, hT⟩ := tP
    have TS : ∀ j, T j = true → S j = true ∧ cn g A r j := fun j hj => by
      rw [hT] at hj
      rcases Bool.or_eq_true _ _ ▸ hj with hj | hj
      · exact ⟨(Od1_sub hj).1, (Od1_sub hj).2.1⟩
      · exact ⟨(cNb j hj).1, (cNb j hj).2.1⟩
    have hNT : ∀ j, NbB g A T r j = cls j := fun j => by
      rw [Bool.eq_iff_iff, NbB_iff]
      constructor
      · rintro ⟨h1, h2, h3, _⟩
        rw [hT] at h1
        cases hq : Od1 g A S r j
        · rw [hq] at h1; simpa using h1
        · obtain ⟨_, _, x, hx, _⟩ := Od1_sub hq
          exact absurd hx (h3 x)
      · intro hj
        have := cNb j hj
        exact ⟨by rw [hT, hj]; simp, this.2.1, this.2.2.1, fun i x hi hc hx => this.2.2.2 i x (TS i hi).1 hc hx⟩
    by_cases hlt : sz g A T r < sz g A S r
    · obtain ⟨e, he, hv⟩ := ih (S := T) (by omega) (by rw [← pcls]; exact pr_congr fun j _ => hNT j)
      have hce : cls e = true := by rw [← hNT]; exact NbB_iff.2 he
      have heS := cNb e hce
      refine ⟨e, heS, val e heS ?_⟩
      have e1 : fV g A (fun j => T j && !NbB g A T r j) r = fV g A (Od1 g A S r) r := fV_congr fun j _ => by
        rw [hNT, hT]
        cases hc : cls j
        · simp
        · cases hq : Od1 g A S r j
          · simp
          · obtain ⟨_, _, x, hx, _⟩ := Od1_sub hq
            exact absurd hx ((cNb j hc).2.2.1 x)
      rw [← e1, ← hv]
      refine fV_congr fun j hj => ?_
      obtain ⟨p, q, hM⟩ := hj
      obtain ⟨hM', hne⟩ := heS.tw.1 hM
      rw [heS.od, butK_at hne, hT]
      cases hq : Od1 g A S r j
      · simp only [Bool.false_or]
        rw [Bool.eq_iff_iff]
        simp only [Bool.and_eq_true, hgB_iff]
        constructor
        · rintro ⟨⟨hs, hc⟩, hRe⟩
          have hNj := heS.closed hs hc hRe
          rw [hcls]
          by_cases h1 : j = e0
          · simp [h1]
          · have : Rl g A S r e0 j = true := by
              by_cases h2 : e = e0
              · rw [← h2]; exact hRe
              · rw [hcls] at hce
                simp only [h2, decide_false, Bool.false_or, Bool.and_eq_true] at hce
                exact Rl_trans h0 heS hNj hce.2 hRe (Ne.symm h1)
            rw [this, NbB_iff.2 hNj]; simp
        · intro hcj
          have hNj := cNb j hcj
          refine ⟨⟨hNj.1, hNj.2.1⟩, ?_⟩
          rw [hcls] at hcj hce
          simp only [Bool.or_eq_true, decide_eq_true_eq, Bool.and_eq_true] at hcj hce
          rcases hce with rfl | ⟨_, h2⟩
          · rcases hcj with h1 | ⟨_, h1⟩
            · exact absurd h1 hne
            · exact h1
          · rw [Rl_symm] at h2
            rcases hcj with rfl | ⟨_, h1⟩
            · exact h2
            · exact Rl_trans heS h0 hNj h2 h1 (Ne.symm hne)
      · simp
    · have hall : ∀ j, S j = true → cn g A r j → T j = true := fun j h1 h2 => by
        cases hq : T j
        · refine absurd (cnt_lt (n := g.length) (e := j) (fun k _ hk => ?_) (cn_lt h2) (by rw [hq]; rfl) ?_) hlt
          · simp only [Bool.and_eq_true] at hk ⊢
            exact ⟨(TS k hk.1).1, hk.2⟩
          · rw [h1, hgB_iff.2 h2]; rfl
        · rfl
      have hno := no_odd h0 (fun j h1 h2 => by
        have := hall j h1 h2
        rw [hT, hcls] at this
        simp only [Bool.or_eq_true, decide_eq_true_eq, Bool.and_eq_true] at this
        rcases this with h | h | h
        · exact .inl h
        · exact .inr (.inl h)
        · exact .inr (.inr ⟨NbB_iff.1 h.1, h.2⟩))
      have o1 : ∀ j, Od1 g A S r j = false := fun j => by
        cases hq : Od1 g A S r j
        · rfl
        · obtain ⟨h1, h2, x, hx, hodd⟩ := Od1_sub hq
          exact (hno _ x j h1 h2 (.inl hx) hodd rfl).elim
      refine ⟨e0, h0, val e0 h0 ?_⟩
      have z1 : sz g A (Od1 g A S r) r = 0 := sz_none o1
      have z2 : sz g (butK A e0) (Od1 g (butK A e0) (butK S e0) r) r = 0 := by
        have : ∀ j, Od1 g (butK A e0) (butK S e0) r j = false := fun j => by
          rw [h0.od, o1]
          simp only [Bool.false_or]
          cases hs : S j
          · rfl
          · cases hc : hgB g A r j
            · rfl
            · cases hq : Rl g A S r e0 j
              · rfl
              · have hNj := h0.closed hs (hgB_iff.1 hc) hq
                obtain ⟨hne, x, hx, hodd⟩ := Rl_iff.1 hq
                exact (hno _ x j hs (hgB_iff.1 hc) (.inr ⟨hNj, Ne.symm hne, hx⟩) hodd rfl).elim
        exact sz_none this
      rw [fV_zero z1, fV_zero z2]

end Go.Proofs.Ytobdpkkmkbafbaa
