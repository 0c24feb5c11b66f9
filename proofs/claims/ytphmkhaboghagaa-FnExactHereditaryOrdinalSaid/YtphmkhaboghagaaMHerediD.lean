/-
  Texts joined in one: K28, O3, O4, O5, HG, G14, G15, C4, C5, C6, C7, C9.
-/
import Derived.Test.YtphmkhaboghagaaMHerediC
/-
  A logic of values for Go's functions (part 28): a loop over a function whose rounds all go on.
-/
namespace Go.Proofs.Ytphmkhaboghagaa.K
set_option linter.unusedVariables false
set_option linter.unusedSimpArgs false
open Go Go.RowKit

mutual
/-- Values that hold no yield. -/
def noY : AV → Bool
  | .sl _ es => noYL es
  | .agg cs => noYL cs
  | .tup cs => noYL cs
  | .fn _ cs => noYL cs
  | .rptr c _ => noY c
  | .yld _ _ _ => false
  | _ => true
def noYL : List AV → Bool
  | [] => true
  | x :: xs => noY x && noYL xs
end
theorem noYL_mem {xs : List AV} : noYL xs = true ↔ ∀ x ∈ xs, noY x = true := by
  induction xs with
  | nil => simp [noYL]
  | cons x xs ih => simp [noYL, ih]
theorem noY_cells {x c : AV} (h : noY x = true) (hc : c ∈ x.cells) : noY c = true := by
  cases x <;> first
    | (simp only [AV.cells, List.mem_singleton] at hc; subst hc; exact h)
    | (simp only [AV.cells] at hc; simp only [noY] at h; exact noYL_mem.1 h c hc)
mutual
theorem noY_of : ∀ {x : AV}, pureB x = true → noY x = true
  | .int _ _, _ => rfl
  | .bool _, _ => rfl
  | .str _, _ => rfl
  | .lit _, _ => rfl
  | .junk, _ => rfl
  | .sl _ es, h => by simp only [pureB] at h; simp only [noY]; exact noYL_of h
  | .agg es, h => by simp only [pureB] at h; simp only [noY]; exact noYL_of h
  | .tup es, h => by simp only [pureB] at h; simp only [noY]; exact noYL_of h
  | .fn _ es, h => by simp only [pureB] at h; simp only [noY]; exact noYL_of h
  | .rptr c _, h => by simp only [pureB] at h; simp only [noY]; exact noY_of h
  | .ref .., _ => rfl
  | .ptr .., _ => rfl
  | .eptr .., _ => rfl
  | .map _, _ => rfl
  | .yld .., h => by simp [pureB] at h
theorem noYL_of : ∀ {xs : List AV}, pureL xs = true → noYL xs = true
  | [], _ => rfl
  | x :: xs, h => by
    simp only [pureL, Bool.and_eq_true] at h
    simp only [noYL, noY_of h.1, noYL_of h.2, Bool.and_self]
end
def noYO : AObj → Bool
  | .box _ cs => noYL cs
  | .vec _ _ _ es => noYL es
  | _ => true

theorem noYL_sub : ∀ (p : Pth) (es es' : List AV), noYL es = true → sub es p = some es' → noYL es' = true
  | [], es, es', h, hs => by simp [sub] at hs; subst hs; exact h
  | (i, j) :: p, es, es', h, hs => by
    simp only [sub] at hs
    cases he : es[i]? with
    | none => simp only [he] at hs; cases hs
    | some e =>
      simp only [he] at hs
      cases hc : e.cells[j]? with
      | none => simp only [hc] at hs; cases hs
      | some x =>
        simp only [hc] at hs
        have hx := noY_cells (noYL_mem.1 h e (List.mem_of_getElem? he)) (List.mem_of_getElem? hc)
        cases x with
        | sl own es2 =>
          cases own with
          | true => exact noYL_sub p es2 es' (by simpa [noY] using hx) hs
          | false => cases hs
        | _ => cases hs

/-- Two tellings of memory that agree but for a loop's record. -/
structure AgrY (γ γ' : Nat → Gh) : Prop where
  ro : ∀ b o, γ b = .ro o → (∀ r, o ≠ .loop r) → γ' b = .ro o
  ow : ∀ b id p c, γ' b = .ow id p c ↔ γ b = .ow id p c

theorem AgrY.roCell {γ γ' : Nat → Gh} (h : AgrY γ γ') {A : Option Addr} {k : Nat} {v : Value} (hr : roCell γ A k = some v) : K.roCell γ' A k = some v := by
  unfold K.roCell at *
  split at hr
  · rename_i b o
    split at hr
    · rename_i arr T fr hb
      simp only [h.ro _ _ hb (fun d e => by cases e)]
      exact hr
    · cases hr
  · cases hr

theorem AgrY.refOk {γ γ' : Nat → Gh} (A : AgrY γ γ') {L : List AObj} {id : Nat} {p : Pth} {g n : Nat} {v : Value} (h : RefOk γ L id p g n v) : RefOk γ' L id p g n v := by
  unfold RefOk at *
  split at h
  · obtain ⟨h1, h2⟩ := h
    refine ⟨h1, fun e => ?_⟩
    obtain ⟨es', he, hn, hv⟩ := h2 e
    refine ⟨es', he, hn, ?_⟩
    rcases hv with ⟨h1, h2, h3⟩ | ⟨b, c, h1, h2⟩
    · exact .inl ⟨h1, h2, fun b c hb => h3 b c ((A.ow _ _ _ _).1 hb)⟩
    · exact .inr ⟨b, c, h1, (A.ow _ _ _ _).2 h2⟩
  · exact h
  · exact h

theorem AgrY.eptrOk {γ γ' : Nat → Gh} (A : AgrY γ γ') {L : List AObj} {id : Nat} {p : Pth} {g i off : Nat} {v : Value} (h : EptrOk γ L id p g i off v) : EptrOk γ' L id p g i off v := by
  unfold EptrOk at *
  split at h
  · obtain ⟨h1, h2⟩ := h
    refine ⟨h1, fun e => ?_⟩
    obtain ⟨es', e1, b, c, sz, h3, h4, h5, h6, h7, h8⟩ := h2 e
    exact ⟨es', e1, b, c, sz, h3, h4, h5, h6, h7, (A.ow _ _ _ _).2 h8⟩
  · exact h
  · exact h

theorem RV.agrY {γ γ' : Nat → Gh} (A : AgrY γ γ') {L : List AObj} {x : AV} {v : Value} (h : RV γ L x v) : noY x = true → RV γ' L x v := by
  induction h with
  | int k n => intro _; exact .int k n
  | bool b => intro _; exact .bool b
  | str s => intro _; exact .str s
  | lit v h => intro _; exact .lit v h
  | sl own es A' n c sz vals hn hc hsz h2 h1 h3 ih =>
    intro hy
    simp only [noY] at hy
    exact .sl own es A' n c sz vals hn hc hsz (fun i e j x a b => A.roCell (h2 i e j x a b)) h1 fun i e j x a b => ih i e j x a b (noY_cells (noYL_mem.1 hy e (List.mem_of_getElem? a)) (List.mem_of_getElem? b))
  | agg cs vs hn h1 h ih => intro hy; simp only [noY] at hy; exact .agg cs vs hn h1 fun i x hx => ih i x hx (noYL_mem.1 hy x (List.mem_of_getElem? hx))
  | tup cs vs hn h ih => intro hy; simp only [noY] at hy; exact .tup cs vs hn fun i x hx => ih i x hx (noYL_mem.1 hy x (List.mem_of_getElem? hx))
  | ref id p g n v h h1 => intro _; exact .ref id p g n v (A.refOk h) h1
  | ptr id off b c T cs hL h => intro _; exact .ptr id off b c T cs hL ((A.ow _ _ _ _).2 h)
  | eptr id p g i off v h h1 => intro _; exact .eptr id p g i off v (A.eptrOk h) h1
  | rptr x off b o vals h2 h1 h3 ih => intro hy; simp only [noY] at hy; exact .rptr x off b o vals (fun j y a => A.roCell (h2 j y a)) h1 fun j y a => ih j y a (noY_cells hy (List.mem_of_getElem? a))
  | fn f cs vs hn h ih => intro hy; simp only [noY] at hy; exact .fn f cs vs hn fun i x hx => ih i x hx (noYL_mem.1 hy x (List.mem_of_getElem? hx))
  | map id b c kt vt es hL h => intro _; exact .map id b c kt vt es hL ((A.ow _ _ _ _).2 h)
  | yld l r ts h hts ih => intro hy; simp [noY] at hy
  | junk v => intro _; exact .junk v

theorem BlockRep.agrY {γ γ' : Nat → Gh} (A : AgrY γ γ') {L : List AObj} {o : Obj} {id : Nat} {p : Pth} {c : Nat} (hy : L.all noYO = true) (h : BlockRep γ L o id p c) : BlockRep γ' L o id p c := by
  unfold BlockRep at *
  split at h
  · rename_i T cs hL
    have hy := List.all_eq_true.1 hy _ (List.mem_of_getElem? hL)
    obtain ⟨h1, arr, h2, h3, h4⟩ := h
    refine ⟨h1, arr, h2, h3, fun j x hx => ?_⟩
    obtain ⟨v, a, b, c⟩ := h4 j x hx
    exact ⟨v, a, b, c.agrY A (noYL_mem.1 hy x (List.mem_of_getElem? hx))⟩
  · rename_i T sz g es hL
    have hy := List.all_eq_true.1 hy _ (List.mem_of_getElem? hL)
    obtain ⟨es', s, arr, T', h1, h2, h3, h4, h5, h6, h7⟩ := h
    have hy' := noYL_sub _ _ _ hy h1
    refine ⟨es', s, arr, T', h1, h2, h3, h4, h5, h6, h7.1, fun i e j x hi hj => ?_⟩
    obtain ⟨v, a, b, c⟩ := h7.2 i e j x hi hj
    refine ⟨v, a, b, ?_⟩
    have hx : noY x = true := noY_cells (noYL_mem.1 hy' e (List.mem_of_getElem? hi)) (List.mem_of_getElem? hj)
    unfold CV at *
    split at c
    · rcases c with ⟨h1, h2, h3⟩ | ⟨b, c, h1, h2⟩
      · exact .inl ⟨h1, h2, fun b c hb => h3 b c ((A.ow _ _ _ _).1 hb)⟩
      · exact .inr ⟨b, c, h1, (A.ow _ _ _ _).2 h2⟩
    · exact c.agrY A hx
  · exact h
  · exact h

theorem newG_same (γ : Nat → Gh) (n : Nat) (g : Gh) : newG γ n g n = g := by simp [newG]
theorem newG_other {γ : Nat → Gh} {n b : Nat} {g : Gh} (h : b ≠ n) : newG γ n g b = γ b := by simp [newG, h]

theorem agrY_hush {γ : Nat → Gh} {l : Nat} {r : Loop} (h : γ l = .ro (.loop r)) : AgrY γ (newG γ l .out) := by
  refine ⟨fun b o hb hn => ?_, fun b id p c => ?_⟩
  · have hne : b ≠ l := fun e => by rw [e, h] at hb; cases hb; exact hn _ rfl
    rw [newG_other hne]; exact hb
  · by_cases hne : b = l
    · subst hne; rw [newG_same, h]; exact ⟨fun h => (by cases h), fun h => (by cases h)⟩
    · rw [newG_other hne]

theorem agr_wake {γ : Nat → Gh} {l : Nat} {r : Loop} (h : γ l = .out) : Agr γ (newG γ l (.ro (.loop r))) := by
  refine ⟨fun b o hb hn => ?_, fun b id p c => ?_⟩
  · have hne : b ≠ l := fun e => by rw [e, h] at hb; cases hb
    rw [newG_other hne]; exact hb
  · by_cases hne : b = l
    · subst hne; rw [newG_same, h]; exact ⟨fun h => (by cases h), fun h => (by cases h)⟩
    · rw [newG_other hne]

theorem BlockRep.noLoop {γ : Nat → Gh} {L : List AObj} {o : Obj} {id : Nat} {p : Pth} {c : Nat} (h : BlockRep γ L o id p c) : ∀ x, o ≠ .loop x := by
  intro x e
  subst e
  unfold BlockRep at h
  split at h
  · obtain ⟨_, _, h, _⟩ := h; cases h
  · obtain ⟨_, _, _, _, _, h, _⟩ := h; cases h
  · obtain ⟨_, _, _, h, _⟩ := h; cases h
  · exact h

/-- The record is not looked at any more; it may turn. -/
theorem Inv.hush {γ : Nat → Gh} {L : List AObj} {w w' : World} {l : Nat} {r : Loop} (h : Inv γ L w) (hl : γ l = .ro (.loop r)) (hy : L.all noYO = true) (hw : ∀ b : Nat, b ≠ l → w'.heap[b]? = w.heap[b]?) :
    Inv (newG γ l .out) L w' := by
  have A := agrY_hush hl
  have ne : ∀ {b id p c}, γ b = .ow id p c → b ≠ l := fun hb e => by rw [e, hl] at hb; cases hb
  refine ⟨fun b o hb => ?_, fun b id p c hb => ?_, fun b b' id p c c' h1 h2 => h.inj b b' id p c c' ((A.ow _ _ _ _).1 h1) ((A.ow _ _ _ _).1 h2), fun id T cs hL => ?_, fun id kt vt es hL => ?_⟩
  · have hne : b ≠ l := fun e => by rw [e, newG_same] at hb; cases hb
    rw [newG_other hne] at hb
    rw [hw b hne]; exact h.ro b o hb
  · have hb := (A.ow _ _ _ _).1 hb
    obtain ⟨o, ho, hr⟩ := h.ow b id p c hb
    exact ⟨o, by rw [hw b (ne hb)]; exact ho, hr.agrY A hy⟩
  · obtain ⟨b, c, hb⟩ := h.box id T cs hL; exact ⟨b, c, (A.ow _ _ _ _).2 hb⟩
  · obtain ⟨b, c, hb⟩ := h.map id kt vt es hL; exact ⟨b, c, (A.ow _ _ _ _).2 hb⟩

/-- The record is known again. -/
theorem Inv.wake {γ : Nat → Gh} {L : List AObj} {w w' : World} {l : Nat} {r : Loop} (h : Inv γ L w) (hl : γ l = .out) (hw : ∀ b : Nat, b ≠ l → w'.heap[b]? = w.heap[b]?) (hr : w'.heap[l]? = some (.loop r)) :
    Inv (newG γ l (.ro (.loop r))) L w' := by
  have A : Agr γ (newG γ l (.ro (.loop r))) := agr_wake hl
  have ne : ∀ {b id p c}, γ b = .ow id p c → b ≠ l := fun hb e => by rw [e, hl] at hb; cases hb
  refine ⟨fun b o hb => ?_, fun b id p c hb => ?_, fun b b' id p c c' h1 h2 => h.inj b b' id p c c' ((A.ow _ _ _ _).1 h1) ((A.ow _ _ _ _).1 h2), fun id T cs hL => ?_, fun id kt vt es hL => ?_⟩
  · by_cases hne : b = l
    · subst hne; rw [newG_same] at hb; cases hb; exact hr
    · rw [newG_other hne] at hb
      rw [hw b hne]; exact h.ro b o hb
  · have hb := (A.ow _ _ _ _).1 hb
    obtain ⟨o, ho, hr⟩ := h.ow b id p c hb
    exact ⟨o, by rw [hw b (ne hb)]; exact ho, hr.agr A⟩
  · obtain ⟨b, c, hb⟩ := h.box id T cs hL; exact ⟨b, c, (A.ow _ _ _ _).2 hb⟩
  · obtain ⟨b, c, hb⟩ := h.map id kt vt es hL; exact ⟨b, c, (A.ow _ _ _ _).2 hb⟩

/-- A block that is not known turns. -/
theorem Inv.idle {γ : Nat → Gh} {L : List AObj} {w w' : World} {l : Nat} (h : Inv γ L w) (hl : γ l = .out) (hw : ∀ b : Nat, b ≠ l → w'.heap[b]? = w.heap[b]?) : Inv γ L w' := by
  refine ⟨fun b o hb => ?_, fun b id p c hb => ?_, h.inj, h.box, h.map⟩
  · rw [hw b (fun e => by rw [e, hl] at hb; cases hb)]; exact h.ro b o hb
  · obtain ⟨o, ho, hr⟩ := h.ow b id p c hb
    exact ⟨o, by rw [hw b (fun e => by rw [e, hl] at hb; cases hb)]; exact ho, hr⟩

/-- The round's variables are laid into the record's. -/
def setP (ps : List Tmp) (xs : List AV) (s : St) : St := (ps.zip xs).foldl (fun s q => s.put (some q.1) q.2) s

theorem setP_L : ∀ (ps : List Tmp) (xs : List AV) (s : St), (setP ps xs s).L = s.L
  | [], _, _ => rfl
  | _ :: _, [], _ => rfl
  | p :: ps, x :: xs, s => by
    show (setP ps xs (s.put (some p) x)).L = s.L
    rw [setP_L ps xs]; rfl

theorem Rel.setP {γ : Nat → Gh} {w : World} : ∀ (ps : List Tmp) (xs : List AV) (vs : List Value) (s : St) (a : Act), xs.length = vs.length → (∀ (i : Nat) x, xs[i]? = some x → RV γ s.L x (vs.getD i undef)) → Rel γ s a w →
    Rel γ (setP ps xs s) { a with tmps := (ps.zip vs).foldl (fun t q => t.setIfInBounds q.1 q.2) a.tmps } w
  | [], xs, vs, s, a, hl, hv, hr => hr
  | p :: ps, [], [], s, a, hl, hv, hr => hr
  | p :: ps, [], v :: vs, s, a, hl, hv, hr => by simp at hl
  | p :: ps, x :: xs, [], s, a, hl, hv, hr => by simp at hl
  | p :: ps, x :: xs, v :: vs, s, a, hl, hv, hr => by
    have h1 := hr.put (some p) (hv 0 x rfl)
    exact Rel.setP ps xs vs (s.put (some p) x) (a.put (some p) v) (by simpa using hl) (fun i y hy => by rw [St.put_L]; exact hv (i + 1) y hy) h1

/-- What a call of yield does: a round of the loop whose record is 'r', which goes on. -/
def YC (P : Program) (l : Nat) (r : Loop) (ts : List AV) (args : List AV) (L L' : List AObj) : Prop :=
  args.length = r.params.size ∧ ∀ γ w vs, γ l = .ro (.loop r) → Inv γ L w → (∀ (i : Nat) x, ts[i]? = some x → RV γ L x (r.tmps.getD i undef)) → ArgsR γ L args vs → ∀ ro,
    RoundIn (FW ro) 0 P l r.fn ((r.params.zip vs).foldl (fun t (p, v) => t.setIfInBounds p v) r.tmps) r.assign r.body w fun e w' =>
      e = .returned (.bool true) ∧ ∃ γ', Inv γ' L' w' ∧ Ext γ L γ' L' ∧ Stp γ w γ' w'

theorem yield_sound {P : Program} {o : Oper} {s : St} {l : Nat} {r : Loop} {ts : List AV} {args : Array Operand} {ats : Array TypeId} {x : Operand} {L' : List AObj}
    (ho : o.op = .call { callee := .value x, args := args, argTypes := ats }) (hx : s.ev x = .yld l r ts)
    (h : YC P l r ts (args.toList.map s.ev) s.L L') : OpS P o s ({ s with L := L' }.put o.dst (.bool true)) := by
  intro γ a w K Q hr hK
  have hxv := hr.ev x
  rw [hx] at hxv
  generalize hxe : a.eval x = v at hxv
  cases hxv with
  | yld _ _ _ hl hts =>
    have hh := hr.inv.ro _ _ hl
    have hsz : (args.map a.eval).size = r.params.size := by rw [← h.1]; simp
    have hrun : (execOp a.eval o).run P w = .ok (.round l r.fn ((r.params.zip (args.map a.eval)).foldl (fun t (p, v) => t.setIfInBounds p v) r.tmps) r.assign r.body) w := by
      unfold execOp
      rw [ho]
      have := run_yield (P := P) hh hsz
      simp [resolve, hxe, Deferred.ofValue, invoke, this]
    refine .inr ⟨_, _, _, _, _, _, hrun, fun ro => RoundIn.mono (h.2 γ w _ hl hr.inv hts ⟨by simp, fun i y hy => ?_⟩ ro) ?_⟩
    · simp only [List.getElem?_map, Option.map_eq_some_iff] at hy
      obtain ⟨z, hz, rfl⟩ := hy
      have hlt := (List.getElem?_eq_some_iff.1 hz).1
      simp at hlt
      have hz' : args[i] = z := by simpa [hlt] using hz
      simp [Array.getD, hlt, hz']
      exact hr.ev z
    · rintro e w' ⟨rfl, γ', hI, hE, hS⟩
      exact ⟨_, rfl, hK γ' _ w' ((hr.mono hE hI).put o.dst (.bool true)) (by rw [St.put_L]; exact hE) hS⟩

theorem RunL.cally {P : Program} {k : Oper → Knd} {ops : Array Oper} {K : St → Prop} {o : Oper} {rest : List Oper} {s : St} {x : Operand} {l : Nat} {r : Loop} {ts : List AV} {args : Array Operand} {ats : Array TypeId} {L' : List AObj}
    (hg : guardA ops s o = some true) (ho : o.op = .call { callee := .value x, args := args, argTypes := ats }) (hc : s.ev x = .yld l r ts) (hkd : Knd.le .C (k o) = true) (hal : isAlloc k o = false ∨ ∃ X, L' = s.L ++ X)
    (h : YC P l r ts (args.toList.map s.ev) s.L L') (hk : R P k ops rest ({ s with L := L' }.put o.dst (.bool true)) K) : RunL P k ops (o :: rest) s K := by
  refine .op ⟨.C, .bool true, L'⟩ hkd ⟨⟨fun h _ => hal.resolve_left (by rw [h]; exact fun e => (nomatch e)), fun h => (nomatch h)⟩, fun s1 ha hL => ⟨by rw [agree_guard ha]; exact hg, ?_⟩⟩ (R.sound hk)
  have he : args.toList.map s1.ev = args.toList.map s.ev :=
    map_congr_ev fun y hy => agree_ev ha (by rw [ho]; simp [Op.operands, Call.operands]; exact .inr (by simpa using hy))
  have hx1 : s1.ev x = .yld l r ts := by rw [agree_ev ha (by rw [ho]; simp [Op.operands, Call.operands])]; exact hc
  have hL : s1.L = s.L := hL
  exact yield_sound (P := P) (s := s1) ho hx1 (by rw [he, hL]; exact h)

/-- **A loop over a function, whose rounds all go on**: 'Ls k' is what the call owns when k rounds are over, 'xs k' what the k-th round is handed. -/
theorem AWp.range {P : Program} {g : Operand} {params : Array Tmp} {assign body : Code} {Q : Exit → St → Prop} {s : St} {F : FuncId} {cap : List AV} {z : AV} (hg : s.ev g = .fn F cap) (hF : okFn P F = true)
    (hpl : plainC assign = true ∧ plainC body = true) (n : Nat) (Ls : Nat → List AObj) (xs : Nat → List AV) (h0 : s.L = Ls 0) (hlen : ∀ k, k < n → (xs k).length = params.size)
    (hny : ∀ k, k ≤ n → (Ls k).all noYO = true) (hnt : noYL s.t = true) (hnx : ∀ k, k < n → noYL (xs k) = true)
    (hit : ∀ l r ts, (∀ k, k < n → YC P l r ts (xs k) (Ls k) (Ls (k + 1))) → Ct P F (.yld l r ts :: cap) (Ls 0) z (Ls n))
    (hround : ∀ k, k < n → AWp P assign (ExThen (AWp P body fun e s' => e = .normal ∧ s'.L = Ls (k + 1)) fun _ _ => False) (setP params.toList (xs k) ⟨s.t, Ls k⟩))
    (hQ : Q .normal ⟨s.t, Ls n⟩) : AWp P (.rangeFunc g params assign body) Q s := by
  intro ro γ a w hp hr
  have hro : ro = none := hp.resolve_right (by simp [plainC])
  subst hro
  refine wpIn_rangeFunc ?_
  intro fn _
  have hgv := hr.ev g
  rw [hg] at hgv
  generalize hge : a.eval g = gv at hgv
  cases hgv with
  | fn _ _ vcap hnc hcap =>
  obtain ⟨rec, hrec⟩ : ∃ rec : Loop, rec = { state := .ready, pending := none, fn, tmps := a.tmps, params, assign, body, defers := w.heap.size } := ⟨_, rfl⟩
  have hD : γ w.heap.size = .out := hr.inv.out (Nat.le_refl _)
  obtain ⟨E1, I1, S1⟩ := hr.inv.allocRo (.deferred (some []))
  generalize hγ1 : newG γ w.heap.size (.ro (.deferred (some []))) = γ1 at E1 I1 S1
  obtain ⟨E2, I2, S2⟩ := I1.allocRo (.loop rec)
  have hsz1 : (w.alloc (.deferred (some []))).heap.size = w.heap.size + 1 := by rw [World.size_alloc]
  rw [hsz1] at E2 I2 S2
  generalize hγ2 : newG γ1 (w.heap.size + 1) (.ro (.loop rec)) = γ2 at E2 I2 S2
  have hl2 : γ2 (w.heap.size + 1) = .ro (.loop rec) := by rw [← hγ2, newG_same]
  have hD2 : γ2 w.heap.size = .ro (.deferred (some [])) := by rw [← hγ2, newG_other (by omega), ← hγ1, newG_same]
  have E := E1.trans E2
  have S := S1.trans S2
  have hts : ∀ (i : Nat) x, s.t[i]? = some x → RV γ2 s.L x (rec.tmps.getD i undef) := fun i x hx => by rw [hrec]; exact (hr.tmps i x hx).mono E
  obtain ⟨W2, hW2⟩ : ∃ W2, W2 = (w.alloc (.deferred (some []))).alloc (.loop rec) := ⟨_, rfl⟩
  rw [← hW2] at I2 S2 S
  have hent : (Instr.enterLoop fn a.tmps params assign body none).run P w = .ok (w.heap.size + 1, [{ target := .collected w.heap.size, args := #[] }]) W2 := by
    rw [hW2, hrec]; exact run_enterLoop_outer _ _ _ _ _
  refine ⟨w.heap.size + 1, [{ target := .collected w.heap.size, args := #[] }], W2, { target := .fn (.func F) vcap, args := #[.func (.yield (w.heap.size + 1)) #[] #[]] }, W2, F,
    #[.func (.yield (w.heap.size + 1)) #[] #[]] ++ vcap, W2, hent, ?_, fun _ _ => trivial, ?_, fun h => (by simp [FW] at h), ?_⟩
  · simp [resolve, hge, Deferred.ofValue]
    rfl
  · simp [invoke, run_callFunc hF]
  have hyc : ∀ k, k < n → YC P (w.heap.size + 1) rec s.t (xs k) (Ls k) (Ls (k + 1)) := by
    intro k hk
    refine ⟨by rw [hrec]; exact hlen k hk, fun γ w' vs hl hI ht ha ro => ?_⟩
    generalize hln : w.heap.size + 1 = l at *
    have hh := hI.ro _ _ hl
    have hlt : l < w'.heap.size := (Array.getElem?_eq_some_iff.1 hh).1
    have A := agrY_hush hl
    have hyk := hny k (by omega)
    have hyk1 := hny (k + 1) (by omega)
    have hIb : Inv (newG γ l .out) (Ls k) w' := hI.hush hl hyk fun b _ => rfl
    have hr0 : Rel (newG γ l .out) ⟨s.t, Ls k⟩ { tmps := rec.tmps, defers := [] } w' := ⟨.nil, by rw [hrec]; exact hr.size, fun i x hx => (ht i x hx).agrY A (noYL_mem.1 hnt x (List.mem_of_getElem? hx)), hIb⟩
    have hr1 := Rel.setP params.toList (xs k) vs.toList _ _ (by simp [ha.1]) (fun i x hx => by
      have := ha.2 i x hx
      have e : vs.toList.getD i undef = vs.getD i undef := by simp [List.getD_eq_getElem?_getD, Array.getD_eq_getD_getElem?]
      rw [e]
      exact this.agrY A (noYL_mem.1 (hnx k hk) x (List.mem_of_getElem? hx))) hr0
    have hfold : (rec.params.zip vs).foldl (fun t (p, v) => t.setIfInBounds p v) rec.tmps = (params.toList.zip vs.toList).foldl (fun t q => t.setIfInBounds q.1 q.2) rec.tmps := by
      rw [← Array.foldl_toList, Array.toList_zip, hrec]
    rw [hfold]
    have hfn : rec.fn = fn := by rw [hrec]
    have ha1 : rec.assign = assign := by rw [hrec]
    have hb1 : rec.body = body := by rw [hrec]
    rw [ha1, hb1]
    refine roundIn_of_wpIn trivial ?_
    refine wpIn_mono (hround k hk (some l) _ _ w' (.inr hpl.1) hr1) ?_
    rintro e a1 w1 ⟨γ1', s1, r1, e1, st1, q1⟩
    have hLs : (setP params.toList (xs k) ⟨s.t, Ls k⟩).L = Ls k := setP_L _ _ _
    rw [hLs] at e1
    cases e with
    | normal =>
      have hl1 := st1.out l hlt (newG_same _ _ _)
      have hh1 : w1.heap[l]? = some (.loop rec) := hl1.2.trans hh
      have hlt1 : l < w1.heap.size := (Array.getElem?_eq_some_iff.1 hh1).1
      refine ⟨_, run_beginRound hh1 (by rw [hrec]), ?_⟩
      have hw2 : ∀ (o : Obj) (w : World) (b : Nat), b ≠ l → (w.putObj l o).heap[b]? = w.heap[b]? := fun o w b hb => World.putObj_heap_other hb
      have r2 : Rel γ1' s1 a1 (w1.putObj l (.loop { rec with state := .busy })) := ⟨r1.defers, r1.size, r1.tmps, r1.inv.idle hl1.1 (hw2 _ _)⟩
      refine wpIn_mono (q1 (some l) γ1' a1 _ (.inr hpl.2) r2) ?_
      rintro e3 a3 w3 ⟨γ3, s3, r3, e3', st3, rfl, hL3⟩
      have hl3 := st3.out l (by rw [World.putObj_size]; exact hlt1) hl1.1
      have hh3 : w3.heap[l]? = some (.loop { rec with state := .busy }) := hl3.2.trans (World.putObj_heap_same hlt1)
      have hend := run_endRound (P := P) (none : Option Code) hh3
      refine ⟨_, _, hend, rfl, newG γ3 l (.ro (.loop rec)), ?_, ?_, ?_⟩
      · have hI3 := r3.inv
        rw [hL3] at hI3
        refine hI3.wake hl3.1 (hw2 _ _) ?_
        rw [World.putObj_heap_same (Array.getElem?_eq_some_iff.1 hh3).1, hrec]; rfl
      · have e13 := e1.trans e3'
        rw [hL3] at e13
        have A3 : Agr γ3 (newG γ3 l (.ro (.loop rec))) := agr_wake hl3.1
        refine ⟨fun b o hb => ?_, e13.ob, fun b id p c hb => ?_, fun id T sz g es T' sz' es' hL hL' p e4 he b c hb => (A.ow _ _ _ _).1 (e13.nil id T sz g es T' sz' es' hL hL' p e4 he b c ((A3.ow _ _ _ _).1 hb))⟩
        · by_cases hbl : b = l
          · subst hbl; rw [hl] at hb; cases hb; exact newG_same _ _ _
          · rw [newG_other hbl]; exact e13.ro b o (by rw [newG_other hbl]; exact hb)
        · exact (e13.lab b id p c ((A.ow _ _ _ _).2 hb)).imp (fun k => (A3.ow _ _ _ _).2 k) (fun k => k)
      · refine ⟨st3.os.trans st1.os, st3.tape.trans st1.tape, st3.output.trans st1.output, ?_, fun b o hb => ?_, fun b hb ho => ?_⟩
        · have h1 := st1.size
          have h2 := st3.size
          rw [World.putObj_size] at h2
          rw [World.putObj_size]; omega
        · by_cases hbl : b = l
          · subst hbl; rw [hl] at hb; cases hb; exact newG_same _ _ _
          · rw [newG_other hbl]; exact e3'.ro b o (e1.ro b o (by rw [newG_other hbl]; exact hb))
        · have hbl : b ≠ l := fun e => by rw [e, hl] at ho; cases ho
          obtain ⟨k1, k2⟩ := st1.out b hb (by rw [newG_other hbl]; exact ho)
          obtain ⟨k3, k4⟩ := st3.out b (by rw [World.putObj_size]; have := st1.size; omega) k1
          refine ⟨by rw [newG_other hbl]; exact k3, ?_⟩
          rw [hw2 _ _ b hbl, k4, hw2 _ _ b hbl, k2]
    | ret => exact q1.elim
    | exit id => exact q1.elim
    | goto id => exact q1.elim
    | panic c => exact q1.elim
    | outgrown => exact q1.elim
  have hct := hit (w.heap.size + 1) rec s.t hyc
  rw [h0] at I2 E2 E hts
  have hargs : ArgsR γ2 (Ls 0) (.yld (w.heap.size + 1) rec s.t :: cap) (#[.func (.yield (w.heap.size + 1)) #[] #[]] ++ vcap) := by
    refine ⟨by simp [hnc]; omega, fun i x hx => ?_⟩
    cases i with
    | zero =>
      simp only [List.getElem?_cons_zero, Option.some.injEq] at hx
      subst hx
      have : (#[Value.func (.yield (w.heap.size + 1)) #[] #[]] ++ vcap).getD 0 undef = .func (.yield (w.heap.size + 1)) #[] #[] := by simp [Array.getD_eq_getD_getElem?, Array.getElem?_append]
      rw [this]
      exact .yld _ _ _ hl2 hts
    | succ i =>
      simp only [List.getElem?_cons_succ] at hx
      have hv := hcap i x hx
      have : (#[Value.func (.yield (w.heap.size + 1)) #[] #[]] ++ vcap).getD (i + 1) undef = vcap.getD i undef := by
        simp [Array.getD_eq_getD_getElem?, Array.getElem?_append]
      rw [this]
      rw [h0] at hv
      exact hv.mono E
  refine (callsIn_FW (hct γ2 _ _ I2 hargs)).mono ?_
  rintro e w3 ⟨γ3, v, rfl, I3, _, E3, S3⟩
  have hl3 : γ3 (w.heap.size + 1) = .ro (.loop rec) := E3.ro _ _ hl2
  have hD3 : γ3 w.heap.size = .ro (.deferred (some [])) := E3.ro _ _ hD2
  have hh3 := I3.ro _ _ hl3
  have hend := run_endLoop (P := P) hh3 (by rw [hrec]; simp)
  have hpe : rec.pending = none := by rw [hrec]
  rw [hpe] at hend
  refine ⟨none, _, hend, newG γ3 (w.heap.size + 1) .out, ⟨s.t, Ls n⟩, ?_, ?_, ?_, hQ⟩
  · have E4 := E.trans E3
    have A := agrY_hush hl3
    refine ⟨?_, hr.size, fun i x hx => ?_, I3.hush hl3 (hny n (Nat.le_refl _)) fun b hb => World.putObj_heap_other hb⟩
    · obtain ⟨rs, h1, h2, h3⟩ := hr.defers
      have hlt : ∀ r ∈ rs, r < w.heap.size := fun r hm => (Array.getElem?_eq_some_iff.1 (hr.inv.ro _ _ (h3 r hm))).1
      refine ⟨w.heap.size :: rs, List.nodup_cons.2 ⟨fun hm => by have := hlt _ hm; omega, h1⟩, by rw [List.map_cons, ← h2]; rfl, fun r hm => ?_⟩
      rcases List.mem_cons.1 hm with rfl | hm
      · rw [newG_other (by omega)]; exact hD3
      · have := hlt r hm
        rw [newG_other (by omega)]; exact E4.ro _ _ (h3 r hm)
    · have hv := hr.tmps i x hx
      rw [h0] at hv
      exact (hv.mono E4).agrY A (noYL_mem.1 hnt x (List.mem_of_getElem? hx))
  · have E4 := E.trans E3
    have A := agrY_hush hl3
    refine ⟨fun b o hb => ?_, by rw [h0]; exact E4.ob, fun b id p c hb => ?_, fun id T sz g es T' sz' es' hL hL' p e4 he b c hb => ?_⟩
    · have hlt := (Array.getElem?_eq_some_iff.1 (hr.inv.ro _ _ hb)).1
      rw [newG_other (by omega)]; exact E4.ro b o hb
    · rw [h0]; exact (E4.lab b id p c hb).imp (fun k => (A.ow _ _ _ _).2 k) (fun k => k)
    · rw [h0] at hL; exact E4.nil id T sz g es T' sz' es' hL hL' p e4 he b c ((A.ow _ _ _ _).1 hb)
  · have S4 := S.trans S3
    refine ⟨S4.os, S4.tape, S4.output, by rw [World.putObj_size]; exact S4.size, fun b o hb => ?_, fun b hb ho => ?_⟩
    · have hlt := (Array.getElem?_eq_some_iff.1 (hr.inv.ro _ _ hb)).1
      rw [newG_other (by omega)]; exact S4.ro b o hb
    · obtain ⟨k1, k2⟩ := S4.out b hb ho
      rw [newG_other (by omega)]
      exact ⟨k1, (World.putObj_heap_other (by omega)).trans k2⟩

end Go.Proofs.Ytphmkhaboghagaa.K
/-
  Ordinals as trees: differences. No program in sight.
-/
namespace Go.Proofs.Ytphmkhaboghagaa
open Go K Od
set_option linter.unusedSimpArgs false
set_option linter.unusedVariables false

/-- What makes the second up to the first. -/
def lessS : Od → Od → Od
  | .nil, _ => .nil
  | .cons e c r, .nil => .cons e c r
  | .cons e c r, .cons e' c' r' => if cmpT e e' ≠ 0 then .cons e c r else if c ≠ c' then .cons e (c - c') r else lessS r r'
theorem lessS_cons (e e' : Od) (c c' : Int) (r r' : Od) : lessS (.cons e c r) (.cons e' c' r') = if cmpT e e' ≠ 0 then .cons e c r else if c ≠ c' then .cons e (c - c') r else lessS r r' := rfl
theorem lessS_nil (a : Od) : lessS a .nil = a := by cases a <;> rfl
theorem lessS_sz : ∀ a b : Od, (lessS a b).sz ≤ a.sz
  | .nil, _ => by simp [lessS, sz]
  | .cons e c r, .nil => by simp [lessS]
  | .cons e c r, .cons e' c' r' => by
    have := lessS_sz r r'
    unfold lessS
    split
    · exact Nat.le_refl _
    · split
      · simp [sz]
      · simp only [sz]; omega

end Go.Proofs.Ytphmkhaboghagaa
/-
  Ordinals as trees: sums. No program in sight.
-/
namespace Go.Proofs.Ytphmkhaboghagaa
open Go K Od
set_option linter.unusedSimpArgs false
set_option linter.unusedVariables false

/-- Exponents decrease. -/
def desc : Option Od → Od → Prop
  | _, .nil => True
  | p, .cons e c r => below p e = true ∧ desc (some e) r
theorem formG_desc : ∀ {a : Od} {n : Nat} {p : Option Od}, formG a n p = true → desc p a
  | .nil, _, _, _ => trivial
  | .cons e c r, n, p, h => by
    rw [formG_cons] at h
    simp only [Bool.and_eq_true] at h
    exact ⟨h.1.2, formG_desc h.2⟩
theorem goodT_desc {a : Od} (h : goodT a = true) : desc none a := by
  simp only [goodT, Bool.and_eq_true] at h; exact formG_desc h.2

/-- What a sum's second part does to the first. -/
def plusA (e : Od) (c : Int) (r : Od) : Od → Od
  | .nil => .cons e c r
  | .cons x k q => if 0 < cmpT x e then .cons x k (plusA e c r q) else if cmpT x e = 0 then .cons x (k + c) r else plusA e c r q
def plusT (a : Od) : Od → Od
  | .nil => a
  | .cons e c r => plusA e c r a
/-- Terms that are less vanish. -/
def pop (e : Od) : Od → Od
  | .nil => .nil
  | .cons x k r => match pop e r with | .nil => if cmpT x e < 0 then .nil else .cons x k .nil | .cons x' k' q => .cons x k (.cons x' k' q)
theorem pop_snoc (e : Od) (x : Od) (k : Int) : ∀ d : Od, pop e (d.app (.cons x k .nil)) = if cmpT x e < 0 then pop e d else d.app (.cons x k .nil)
  | .nil => by simp only [Od.app, pop]
  | .cons x' k' d => by
    simp only [Od.app, pop, pop_snoc e x k d]
    by_cases hx : cmpT x e < 0
    · simp only [if_pos hx]
    · simp only [if_neg hx]
      cases h : d.app (.cons x k .nil) with
      | nil => have := congrArg len h; simp [len_app, len] at this
      | cons _ _ _ => rfl
def addEnd (e : Od) (c : Int) : Od → Od
  | .nil => .cons e c .nil
  | .cons x k .nil => if cmpT x e = 0 then .cons x (k + c) .nil else .cons x k (.cons e c .nil)
  | .cons x k (.cons x' k' r) => .cons x k (addEnd e c (.cons x' k' r))
theorem addEnd_snoc (e : Od) (c : Int) (x : Od) (k : Int) : ∀ d : Od, addEnd e c (d.app (.cons x k .nil)) = if cmpT x e = 0 then d.app (.cons x (k + c) .nil) else d.app (.cons x k (.cons e c .nil))
  | .nil => by simp only [Od.app, addEnd]
  | .cons x' k' .nil => by simp only [Od.app, addEnd]; split <;> rfl
  | .cons x' k' (.cons x2 k2 d) => by
    have := addEnd_snoc e c x k (.cons x2 k2 d)
    simp only [Od.app] at this
    simp only [Od.app, addEnd, this]; split <;> rfl
def odPlusT : Od → Od → Od
  | a, .nil => a
  | a, .cons e c r => odPlusT (addEnd e c (pop e a)) r
theorem odPlusT_cons (a e r : Od) (c : Int) : odPlusT a (.cons e c r) = odPlusT (addEnd e c (pop e a)) r := rfl

theorem cmp_lt {y x e : Od} (h1 : below (some y) x = true) (h2 : cmpT y e ≤ 0) : cmpT x e < 0 := by
  simp only [below, decide_eq_true_eq] at h1
  by_cases h : cmpT y e = 0
  · have := cmpT_zero h; subst this
    have := cmpT_anti y x; omega
  · have h3 : 0 < cmpT e y := by have := cmpT_anti y e; omega
    have := cmpT_trans h3 h1
    have := cmpT_anti e x; omega
theorem pop_all {e : Od} : ∀ {q y : Od}, desc (some y) q → cmpT y e ≤ 0 → pop e q = .nil
  | .nil, _, _, _ => rfl
  | .cons x k q, y, h1, h2 => by
    have h3 := cmp_lt h1.1 h2
    simp only [pop, pop_all h1.2 (Int.le_of_lt h3), if_pos h3]
theorem plusA_all {e r : Od} {c : Int} : ∀ {q y : Od}, desc (some y) q → cmpT y e ≤ 0 → plusA e c r q = .cons e c r
  | .nil, _, _, _ => rfl
  | .cons x k q, y, h1, h2 => by
    have h3 := cmp_lt h1.1 h2
    simp only [plusA]
    rw [if_neg (by omega), if_neg (by omega), plusA_all h1.2 (Int.le_of_lt h3)]
theorem plus_step {e r : Od} {c : Int} : ∀ {a : Od} {p : Option Od}, desc p a → ∃ (d : Od) (k : Int), addEnd e c (pop e a) = d.app (.cons e k .nil) ∧ plusA e c r a = d.app (.cons e k r)
  | .nil, _, _ => ⟨.nil, c, rfl, rfl⟩
  | .cons x k q, p, h => by
    rcases Int.lt_trichotomy (cmpT x e) 0 with h1 | h1 | h1
    · refine ⟨.nil, c, ?_, ?_⟩
      · simp only [pop, pop_all h.2 (Int.le_of_lt h1), if_pos h1]; rfl
      · simp only [plusA]
        rw [if_neg (by omega), if_neg (by omega), plusA_all h.2 (Int.le_of_lt h1)]; rfl
    · have hx := cmpT_zero h1
      refine ⟨.nil, k + c, ?_, ?_⟩
      · simp only [pop, pop_all h.2 (Int.le_of_eq h1)]
        rw [if_neg (by omega)]
        simp only [addEnd, if_pos h1]; rw [hx]; rfl
      · simp only [plusA]
        rw [if_neg (by omega), if_pos h1, hx]; rfl
    · obtain ⟨d, k', e1, e2⟩ := plus_step (e := e) (r := r) (c := c) h.2
      refine ⟨.cons x k d, k', ?_, ?_⟩
      · have h2 : pop e (.cons x k q) = .cons x k (pop e q) := by
          simp only [pop]
          cases pop e q with
          | nil => simp only; rw [if_neg (by omega)]
          | cons _ _ _ => rfl
        rw [h2]
        have h3 : addEnd e c (.cons x k (pop e q)) = .cons x k (addEnd e c (pop e q)) := by
          cases pop e q with
          | nil => simp only [addEnd]; rw [if_neg (by omega)]
          | cons _ _ _ => rfl
        rw [h3, e1]; rfl
      · simp only [plusA]
        rw [if_pos h1, e2]; rfl
theorem odPlus_end {e : Od} : ∀ {r : Od} (d : Od) (k : Int), desc (some e) r → odPlusT (d.app (.cons e k .nil)) r = d.app (.cons e k r)
  | .nil, d, k, _ => rfl
  | .cons e2 c2 r2, d, k, h => by
    have h1 : 0 < cmpT e e2 := by have := h.1; simpa [below] using this
    have h2 := odPlus_end (e := e2) (r := r2) (d.app (.cons e k .nil)) c2 h.2
    rw [odPlusT_cons, pop_snoc, if_neg (by omega), addEnd_snoc, if_neg (by omega)]
    have e1 : d.app (.cons e k (.cons e2 c2 .nil)) = (d.app (.cons e k .nil)).app (.cons e2 c2 .nil) := by rw [app_assoc]; rfl
    rw [e1, h2, app_assoc]; rfl
theorem plus_eq {a b : Od} {p q : Option Od} (ha : desc p a) (hb : desc q b) : odPlusT a b = plusT a b := by
  cases b with
  | nil => rfl
  | cons e c r =>
    obtain ⟨d, k, e1, e2⟩ := plus_step (e := e) (r := r) (c := c) ha
    rw [odPlusT_cons, e1, odPlus_end d k hb.2]
    exact e2.symm

theorem plusA_sz (e r : Od) (c : Int) : ∀ a : Od, (plusA e c r a).sz ≤ a.sz + (e.sz + r.sz + 1)
  | .nil => by simp [plusA, sz]
  | .cons x k q => by
    have := plusA_sz e r c q
    unfold plusA
    split
    · simp only [sz]; omega
    · split
      · simp only [sz]; omega
      · simp only [sz]; omega
theorem plusT_sz (a b : Od) : (plusT a b).sz ≤ a.sz + b.sz := by
  cases b with
  | nil => simp [plusT]
  | cons e c r => exact plusA_sz e r c a

/-- What bounds the terms of a sum on its way. -/
def bnd (m : Int) : Od → Prop
  | .nil => True
  | .cons e c r => rng e ∧ e.sz ≤ 1048576 ∧ -m ≤ c ∧ c ≤ m ∧ bnd m r
theorem bnd_mono {m m' : Int} (hm : m ≤ m') : ∀ {a : Od}, bnd m a → bnd m' a
  | .nil, _ => trivial
  | .cons e c r, h => ⟨h.1, h.2.1, by have := h.2.2.1; omega, by have := h.2.2.2.1; omega, bnd_mono hm h.2.2.2.2⟩
theorem bnd_app {m : Int} {b : Od} : ∀ {a : Od}, bnd m (a.app b) ↔ bnd m a ∧ bnd m b
  | .nil => by simp [Od.app, bnd]
  | .cons e c r => by
    have := bnd_app (m := m) (b := b) (a := r)
    simp only [Od.app, bnd, this]
    constructor
    · rintro ⟨h1, h2, h3, h4, h5, h6⟩; exact ⟨⟨h1, h2, h3, h4, h5⟩, h6⟩
    · rintro ⟨⟨h1, h2, h3, h4, h5⟩, h6⟩; exact ⟨h1, h2, h3, h4, h5, h6⟩
theorem rng_bnd : ∀ {a : Od}, rng a → a.sz ≤ 1048576 → bnd 1000000 a
  | .nil, _, _ => trivial
  | .cons e c r, h, hs => by
    simp only [sz] at hs
    exact ⟨h.2.2.1, by omega, by have := h.1; omega, h.2.1, rng_bnd h.2.2.2 (by omega)⟩

end Go.Proofs.Ytphmkhaboghagaa
/-
  Ordinals as trees: natural sums. No program in sight.
-/
namespace Go.Proofs.Ytphmkhaboghagaa
open Go K Od
set_option linter.unusedSimpArgs false
set_option linter.unusedVariables false

/-- A term is added naturally. -/
def meetT (e : Od) (c : Int) : Od → Od
  | .nil => .cons e c .nil
  | .cons x k r => if 0 < cmpT x e then .cons x k (meetT e c r) else if cmpT x e = 0 then .cons e (c + k) r else .cons e c (.cons x k r)
def joinT : Od → Od → Od
  | a, .nil => a
  | a, .cons e c r => joinT (meetT e c a) r
theorem joinT_cons (a e r : Od) (c : Int) : joinT a (.cons e c r) = joinT (meetT e c a) r := rfl
/-- Two are merged. -/
def mergeT : Od → Od → Od
  | .nil, b => b
  | .cons x k a, .nil => .cons x k a
  | .cons x k a, .cons e c b => if 0 < cmpT x e then .cons x k (mergeT a (.cons e c b)) else if cmpT x e = 0 then .cons e (k + c) (mergeT a b) else .cons e c (mergeT (.cons x k a) b)
termination_by a b => a.len + b.len
decreasing_by all_goals simp only [len]; omega
theorem merge_nil (a : Od) : mergeT a .nil = a := by cases a <;> simp [mergeT]
theorem merge_cons (x a e b : Od) (k c : Int) : mergeT (.cons x k a) (.cons e c b) = if 0 < cmpT x e then .cons x k (mergeT a (.cons e c b)) else if cmpT x e = 0 then .cons e (k + c) (mergeT a b) else .cons e c (mergeT (.cons x k a) b) := by
  rw [mergeT]
theorem join_head {x : Od} {k : Int} : ∀ {b a : Od}, (∀ q, desc q b → True) → desc (some x) b → joinT (.cons x k a) b = .cons x k (joinT a b)
  | .nil, _, _, _ => rfl
  | .cons e c b, a, h, hd => by
    have h1 : 0 < cmpT x e := by have := hd.1; simpa [below] using this
    have hb : desc (some x) b := by
      cases b with
      | nil => trivial
      | cons y k2 b2 =>
        have h2 := hd.2
        refine ⟨?_, h2.2⟩
        have h3 : 0 < cmpT e y := by have := h2.1; simpa [below] using this
        simp only [below, decide_eq_true_eq]
        exact cmpT_trans h1 h3
    rw [joinT_cons, joinT_cons]
    simp only [meetT]
    rw [if_pos h1, join_head (fun _ _ => trivial) hb]
theorem join_nil : ∀ {b : Od} {p : Option Od}, desc p b → joinT .nil b = b
  | .nil, _, _ => rfl
  | .cons e c b, p, h => by
    rw [joinT_cons]
    show joinT (.cons e c .nil) b = _
    rw [join_head (fun _ _ => trivial) h.2, join_nil h.2]
theorem join_merge : ∀ (a b : Od) {p : Option Od}, desc p b → joinT a b = mergeT a b
  | .nil, b, p, h => by rw [join_nil h, mergeT]
  | .cons x k a, .nil, p, h => by rw [merge_nil]; rfl
  | .cons x k a, .cons e c b, p, h => by
    rw [merge_cons]
    rcases Int.lt_trichotomy (cmpT x e) 0 with h1 | h1 | h1
    · rw [if_neg (by omega), if_neg (by omega), joinT_cons]
      simp only [meetT]
      rw [if_neg (by omega), if_neg (by omega), join_head (fun _ _ => trivial) h.2, join_merge (.cons x k a) b h.2]
    · rw [if_neg (by omega), if_pos h1, joinT_cons]
      simp only [meetT]
      rw [if_neg (by omega), if_pos h1, join_head (fun _ _ => trivial) h.2, join_merge a b h.2, Int.add_comm]
    · have hx : desc (some x) (.cons e c b) := ⟨by simpa [below] using h1, h.2⟩
      rw [if_pos h1, join_head (fun _ _ => trivial) hx, join_merge a (.cons e c b) hx]
termination_by a b => a.len + b.len
decreasing_by all_goals simp only [len]; omega

theorem mergeT_sz : ∀ a b : Od, (mergeT a b).sz ≤ a.sz + b.sz
  | .nil, b => by rw [mergeT]; simp [sz]
  | .cons x k a, .nil => by rw [merge_nil]; omega
  | .cons x k a, .cons e c b => by
    have h1 := mergeT_sz a (.cons e c b)
    have h2 := mergeT_sz a b
    have h3 := mergeT_sz (.cons x k a) b
    rw [merge_cons]
    simp only [sz] at h1 h2 h3 ⊢
    split
    · simp only [sz]; omega
    · split
      · simp only [sz]; omega
      · simp only [sz]; omega
termination_by a b => a.len + b.len
decreasing_by all_goals simp only [len]; omega

end Go.Proofs.Ytphmkhaboghagaa
/-
  Ordinals: natural sums and meetings of terms: the walks alone.
-/
namespace Go.Proofs.Ytphmkhaboghagaa
open Go K Od
set_option linter.unusedSimpArgs false
set_option linter.unusedVariables false
set_option maxHeartbeats 1600000
set_option maxRecDepth 8000

def powT (a : Od) : Od := .cons a 1 .nil
theorem power_ok (a : Od) : Ct Try.prog 114 [av a, .int .i64 1] [] (av (powT a)) [] := by
  refine Ct.by_ hmix [] Try.func114 rfl ?_
  have w1 : ((1 : Int) == 0) = false := rfl
  simp only [run0, run1, run2, run3, run4, run5, run6, run7, run8, run9, run10, run11, run12, run13, run14, run15, run16, run17, run18, run19, run20, run21, run22, reduceCtorEq, Nat.reduceEqDiff, Nat.reduceAdd, Nat.reduceSub, Nat.reduceLeDiff, indexAddrA, indexRefA, appendA, strA, Nat.reduceMul, Nat.zero_mul, Nat.reduceMod, Int.reduceEq, Int.reduceLT, Int.reduceLE, Nat.reduceLT, Nat.lt_irrefl, Nat.reduceBEq, tys0, tys1, tys2, tys3, tys4, tys5, tys6, tys7, tys8, tys9, tys10, tys11, tys12, tys13, tys14, tys15, tys16, tys17, tys18, Try.ntmps114, Try.results114, av, w1]
  exact Fin.eq rfl (av_pure (powT a))
theorem bnd_len {m : Int} {x q : Od} {k : Int} (h : bnd m (.cons x k q)) : rng x ∧ x.sz ≤ 1048576 ∧ -m ≤ k ∧ k ≤ m := ⟨h.1, h.2.1, h.2.2.1, h.2.2.2.1⟩

theorem elems_from {a d r : Od} (h : a = d.app r) : (elems a).drop d.len = elems r := by rw [h]; exact elems_drop d r
theorem elems_from1 {a d e r : Od} {c : Int} (h : a = d.app (.cons e c r)) : (elems a).drop (d.len + 1) = elems r := by
  have : a = (d.app (.cons e c .nil)).app r := by rw [app_assoc]; exact h
  have h2 := elems_from this
  rw [len_app] at h2; exact h2

theorem take_all (a : Od) : (elems a).take a.len = elems a := List.take_of_length_le (by rw [elems_length]; exact Nat.le_refl _)

theorem elems_all (a : Od) : ((elems a).all fun z => z.cells.length == 2) = true := by
  rw [List.all_eq_true]; intro y hy; rw [elems_cells a y hy]; rfl
theorem elems_mem : ∀ (a : Od) (x : AV), x ∈ elems a → ∃ (e : Od) (c : Int), x = .agg [.sl false (elems e), .int .i64 c]
  | .nil, x, h => by simp [elems] at h
  | .cons e c r, x, h => by
    simp only [elems, List.mem_cons] at h
    rcases h with rfl | h
    · exact ⟨e, c, rfl⟩
    · exact elems_mem r x h
theorem Vw_elems {L : List AObj} {id g n : Nat} {T : TypeId} {a : Od} {es : List AV} (hL : L[id]? = some (.vec T 2 g es)) (he : es = elems a) (hn : n = a.len) : Vw L (.ref id [] g n) (.sl false (elems a)) := by
  subst he hn
  have := Vw.refPur (o := false) hL (n := a.len) (by rw [elems_length]; exact Nat.le_refl _) (fun e he c hc => by
    obtain ⟨e', c', rfl⟩ := elems_mem a e he
    simp only [AV.cells, List.mem_cons, List.not_mem_nil, or_false] at hc
    rcases hc with rfl | rfl
    · exact ⟨.of (by simp only [pureB, elems_pure]), fun xs h => by cases h⟩
    · exact ⟨.int _ _, fun xs h => by cases h⟩)
  rwa [take_all] at this

theorem nil_merge (b : Od) : mergeT .nil b = b := by rw [mergeT]

structure NsS where
  d : Od
  r : Od
  d' : Od
  r' : Od
  o : Od
  X : List AObj

theorem naturalSum_ok (a b : Od) (ha : a.sz ≤ 1048576) (hb : b.sz ≤ 1048576) {m : Int} (hm : m ≤ 2305843009213693952) (ba : bnd m a) (bb : bnd m b) : Ct Try.prog 113 [av a, av b] [] (av (mergeT a b)) [] := by
  have hla := len_le a
  have hlb := len_le b
  refine Ct.by_ hmix [] Try.func113 rfl ?_
  simp only [run0, run1, run2, run3, run4, run5, run6, run7, run8, run9, run10, run11, run12, run13, run14, run15, run16, run17, run18, run19, run20, run21, run22, reduceCtorEq, Nat.reduceEqDiff, Nat.reduceAdd, Nat.reduceSub, Nat.reduceLeDiff, indexAddrA, indexRefA, appendA, strA, Nat.reduceMul, Nat.zero_mul, Nat.reduceMod, Int.reduceEq, Int.reduceLT, Int.reduceLE, Nat.reduceLT, Nat.lt_irrefl, Nat.reduceBEq, tys0, tys1, tys2, tys3, tys4, tys5, tys6, tys7, tys8, tys9, tys10, tys11, tys12, tys13, tys14, tys15, tys16, tys17, tys18, Try.ntmps113, Try.results113, av]
  refine AWp.nilB 3 0 88 2 rfl rfl ?_
  simp only [run0, run1, run2, run3, run4, run5, run6, run7, run8, run9, run10, run11, run12, run13, run14, run15, run16, run17, run18, run19, run20, run21, run22, reduceCtorEq, Nat.reduceEqDiff, Nat.reduceAdd, Nat.reduceSub, Nat.reduceLeDiff, indexAddrA, indexRefA, appendA, strA, Nat.reduceMul, Nat.zero_mul, Nat.reduceMod, Int.reduceEq, Int.reduceLT, Int.reduceLE, Nat.reduceLT, Nat.lt_irrefl, Nat.reduceBEq, tys0, tys1, tys2, tys3, tys4, tys5, tys6, tys7, tys8, tys9, tys10, tys11, tys12, tys13, tys14, tys15, tys16, tys17, tys18, Try.ntmps113, Try.results113]
  refine AWp.loop_inv (ι := NsS) (fun p => ⟨[.agg [.sl false (elems a)], .agg [.sl false (elems b)], .ptr 0 0, .ptr 1 0, .ptr 2 0, .ptr 3 0, .int .i64 p.d.len, .int .i64 p.d'.len, .junk, .junk, .junk, .junk, .junk, .junk, .junk, .junk, .junk, .junk, .junk, .junk, .junk, .junk, .junk, .junk, .junk, .junk, .junk, .junk, .junk, .junk, .junk, .junk, .junk, .junk, .junk, .junk, .junk, .junk, .junk, .junk, .junk, .junk, .junk, .junk, .junk, .junk, .junk, .junk, .junk, .junk, .junk, .junk, .junk, .junk, .junk, .junk, .junk, .junk, .junk, .junk, .junk, .junk, .junk, .junk, .junk, .junk, .junk, .junk, .junk, .junk, .junk, .junk, .junk, .junk, .junk, .junk, .junk, .junk, .junk, .junk, .junk, .junk, .junk, .junk, .junk],
      .box 24 [.sl false (elems a)] :: .box 24 [.sl false (elems b)] :: .box 24 [nilV] :: .box 24 [.ref 4 [] p.o.len p.o.len] :: .vec 88 2 p.o.len (elems p.o) :: p.X⟩)
    (fun p => a = p.d.app p.r ∧ b = p.d'.app p.r' ∧ p.o.app (mergeT p.r p.r') = mergeT a b ∧ p.o.len ≤ p.d.len + p.d'.len) (fun p => p.r.len + p.r'.len) ⟨.nil, a, .nil, b, .nil, []⟩ ⟨rfl, rfl, rfl, Nat.le_refl _⟩ ⟨by simp only [len, Int.natCast_zero]; repeat constructor, rfl⟩ ?_
  rintro ⟨d, r, d', r', o, X⟩ ⟨h1, h2, h3, h4⟩
  simp only at h1 h2 h3 h4
  refine W.sound hmix (E := []) ?_
  have hda : d.len + r.len = a.len := by rw [h1, len_app]
  have hdb : d'.len + r'.len = b.len := by rw [h2, len_app]
  have f3 : o.len ≤ 137438953471 := by omega
  have f4 : noOwn (elems o) = true := elems_noOwn o
  cases r with
  | nil =>
    have hda' : d.len = a.len := by simpa [len] using hda
    have p1 : ¬ ((d.len : Int) < (a.len : Int)) := by omega
    cases r' with
    | nil =>
      have hdb' : d'.len = b.len := by simpa [len] using hdb
      have p2 : ¬ ((d'.len : Int) < (b.len : Int)) := by omega
      simp only [run0, run1, run2, run3, run4, run5, run6, run7, run8, run9, run10, run11, run12, run13, run14, run15, run16, run17, run18, run19, run20, run21, run22, reduceCtorEq, Nat.reduceEqDiff, Nat.reduceAdd, Nat.reduceSub, Nat.reduceLeDiff, indexAddrA, indexRefA, appendA, strA, Nat.reduceMul, Nat.zero_mul, Nat.reduceMod, Int.reduceEq, Int.reduceLT, Int.reduceLE, Nat.reduceLT, Nat.lt_irrefl, Nat.reduceBEq, tys0, tys1, tys2, tys3, tys4, tys5, tys6, tys7, tys8, tys9, tys10, tys11, tys12, tys13, tys14, tys15, tys16, tys17, tys18, Try.ntmps113, Try.results113, elems_length, p1, p2]
      have h5 : mergeT a b = o := by rw [← h3, merge_nil, app_nil]
      rw [h5]
      exact Fin.value (Vw.agg (.cons (Vw_elems (T := 88) rfl rfl rfl) .nil))
    | cons e c q' =>
      obtain ⟨p2, p3, p4, _, hn', _⟩ := od_step h2 hb
      have bx := bnd_len (bnd_app.1 (h2 ▸ bb)).2
      have p5 : ((d'.len : Int) == (b.len : Int)) = false := by simp; omega
      have p6 : ((d.len : Int) == (a.len : Int)) = true := by simp; omega
      have p7 : IntKind.i64.wrap (0 + c) = c := by rw [Int.zero_add]; exact w64_id (by omega) (by omega)
      simp only [run0, run1, run2, run3, run4, run5, run6, run7, run8, run9, run10, run11, run12, run13, run14, run15, run16, run17, run18, run19, run20, run21, run22, reduceCtorEq, Nat.reduceEqDiff, Nat.reduceAdd, Nat.reduceSub, Nat.reduceLeDiff, indexAddrA, indexRefA, appendA, strA, Nat.reduceMul, Nat.zero_mul, Nat.reduceMod, Int.reduceEq, Int.reduceLT, Int.reduceLE, Nat.reduceLT, Nat.lt_irrefl, Nat.reduceBEq, tys0, tys1, tys2, tys3, tys4, tys5, tys6, tys7, tys8, tys9, tys10, tys11, tys12, tys13, tys14, tys15, tys16, tys17, tys18, Try.ntmps113, Try.results113, elems_length, p1, p2, p3, p4, p5, p6, p7, f3, f4, Int.toNat_natCast, Int.natCast_nonneg]
      refine ⟨by kernel_rfl, ⟨d, nil, d'.app (cons e c nil), q', o.app (cons e c nil), X ++ [.box 88 [.sl false (elems e), .int .i64 c]]⟩, ⟨h1, hn'.symm, ?_, by simp only [len_app, len]; omega⟩, by simp [len], by simp only [len_app, elems_app, elems, pay, len]; repeat constructor, by simp only [len_app, elems_app, elems, pay, len]⟩
      rw [← h3, app_assoc, nil_merge, nil_merge]; rfl
  | cons x k q =>
    obtain ⟨p1, q3, q4, _, hn, _⟩ := od_step h1 ha
    have by1 := bnd_len (bnd_app.1 (h1 ▸ ba)).2
    have q6 : ((d.len : Int) == (a.len : Int)) = false := by simp; omega
    cases r' with
    | nil =>
      have hdb' : d'.len = b.len := by simpa [len] using hdb
      have p5 : ((d'.len : Int) == (b.len : Int)) = true := by simp; omega
      simp only [run0, run1, run2, run3, run4, run5, run6, run7, run8, run9, run10, run11, run12, run13, run14, run15, run16, run17, run18, run19, run20, run21, run22, reduceCtorEq, Nat.reduceEqDiff, Nat.reduceAdd, Nat.reduceSub, Nat.reduceLeDiff, indexAddrA, indexRefA, appendA, strA, Nat.reduceMul, Nat.zero_mul, Nat.reduceMod, Int.reduceEq, Int.reduceLT, Int.reduceLE, Nat.reduceLT, Nat.lt_irrefl, Nat.reduceBEq, tys0, tys1, tys2, tys3, tys4, tys5, tys6, tys7, tys8, tys9, tys10, tys11, tys12, tys13, tys14, tys15, tys16, tys17, tys18, Try.ntmps113, Try.results113, elems_length, p1, q3, q4, p5, q6, f3, f4, Int.toNat_natCast, Int.natCast_nonneg]
      refine ⟨⟨d.app (cons x k nil), q, d', nil, o.app (cons x k nil), X ++ [.box 88 [.sl false (elems x), .int .i64 k]]⟩, ⟨hn.symm, h2, ?_, by simp only [len_app, len]; omega⟩, by simp [len], by simp only [len_app, elems_app, elems, pay, len]; repeat constructor, by simp only [len_app, elems_app, elems, pay, len]⟩
      rw [← h3, app_assoc, merge_nil, merge_nil]; rfl
    | cons e c q' =>
      obtain ⟨p2, p3, p4, _, hn', _⟩ := od_step h2 hb
      have bx := bnd_len (bnd_app.1 (h2 ▸ bb)).2
      have p5 : ((d'.len : Int) == (b.len : Int)) = false := by simp; omega
      have p7 : IntKind.i64.wrap (0 + c) = c := by rw [Int.zero_add]; exact w64_id (by omega) (by omega)
      have p8 : IntKind.i64.wrap (k + c) = k + c := w64_id (by omega) (by omega)
      simp only [run0, run1, run2, run3, run4, run5, run6, run7, run8, run9, run10, run11, run12, run13, run14, run15, run16, run17, run18, run19, run20, run21, run22, reduceCtorEq, Nat.reduceEqDiff, Nat.reduceAdd, Nat.reduceSub, Nat.reduceLeDiff, indexAddrA, indexRefA, appendA, strA, Nat.reduceMul, Nat.zero_mul, Nat.reduceMod, Int.reduceEq, Int.reduceLT, Int.reduceLE, Nat.reduceLT, Nat.lt_irrefl, Nat.reduceBEq, tys0, tys1, tys2, tys3, tys4, tys5, tys6, tys7, tys8, tys9, tys10, tys11, tys12, tys13, tys14, tys15, tys16, tys17, tys18, Try.ntmps113, Try.results113, elems_length, p1, p2, p3, p4, p5, q3, q4, q6, f3, f4, Int.toNat_natCast, Int.natCast_nonneg]
      refine ⟨by kernel_rfl, ?_⟩
      refine RunL.callp rfl rfl ok_f71 (cmp_ok x e by1.2.1 bx.2.1) (by first | rfl | simp only [pureL, pureB, Bool.and_self, Bool.and_true, Bool.true_and, Od.elems_pure, Od.pay_pure, Od.av_pure]) rfl ?_
      simp only [run0, run1, run2, run3, run4, run5, run6, run7, run8, run9, run10, run11, run12, run13, run14, run15, run16, run17, run18, run19, run20, run21, run22, reduceCtorEq, Nat.reduceEqDiff, Nat.reduceAdd, Nat.reduceSub, Nat.reduceLeDiff, indexAddrA, indexRefA, appendA, strA, Nat.reduceMul, Nat.zero_mul, Nat.reduceMod, Int.reduceEq, Int.reduceLT, Int.reduceLE, Nat.reduceLT, Nat.lt_irrefl, Nat.reduceBEq, tys0, tys1, tys2, tys3, tys4, tys5, tys6, tys7, tys8, tys9, tys10, tys11, tys12, tys13, tys14, tys15, tys16, tys17, tys18, Try.ntmps113, Try.results113, elems_length, p1, p2, p3, p4, p5, q3, q4, q6, f3, f4, Int.toNat_natCast, Int.natCast_nonneg]
      rw [merge_cons] at h3
      rcases Int.lt_trichotomy (cmpT x e) 0 with hc | hc | hc
      · rw [if_neg (by omega), if_neg (by omega)] at h3
        have g1 : ¬ (0 ≤ cmpT x e) := by omega
        have g2 : cmpT x e ≤ 0 := by omega
        simp only [run0, run1, run2, run3, run4, run5, run6, run7, run8, run9, run10, run11, run12, run13, run14, run15, run16, run17, run18, run19, run20, run21, run22, reduceCtorEq, Nat.reduceEqDiff, Nat.reduceAdd, Nat.reduceSub, Nat.reduceLeDiff, indexAddrA, indexRefA, appendA, strA, Nat.reduceMul, Nat.zero_mul, Nat.reduceMod, Int.reduceEq, Int.reduceLT, Int.reduceLE, Nat.reduceLT, Nat.lt_irrefl, Nat.reduceBEq, tys0, tys1, tys2, tys3, tys4, tys5, tys6, tys7, tys8, tys9, tys10, tys11, tys12, tys13, tys14, tys15, tys16, tys17, tys18, Try.ntmps113, Try.results113, g1, g2, elems_length, p1, p2, p3, p4, p5, p7, q3, q4, q6, f3, f4, Int.toNat_natCast, Int.natCast_nonneg]
        refine ⟨by kernel_rfl, ⟨d, cons x k q, d'.app (cons e c nil), q', o.app (cons e c nil), X ++ [.box 88 [.sl false (elems e), .int .i64 c]]⟩, ⟨h1, hn'.symm, ?_, by simp only [len_app, len]; omega⟩, by simp [len], by simp only [len_app, elems_app, elems, pay, len]; repeat constructor, by simp only [len_app, elems_app, elems, pay, len]⟩
        rw [← h3, app_assoc]; rfl
      · rw [if_neg (by omega), if_pos hc] at h3
        have g1 : 0 ≤ cmpT x e := by omega
        have g2 : cmpT x e ≤ 0 := by omega
        simp only [run0, run1, run2, run3, run4, run5, run6, run7, run8, run9, run10, run11, run12, run13, run14, run15, run16, run17, run18, run19, run20, run21, run22, reduceCtorEq, Nat.reduceEqDiff, Nat.reduceAdd, Nat.reduceSub, Nat.reduceLeDiff, indexAddrA, indexRefA, appendA, strA, Nat.reduceMul, Nat.zero_mul, Nat.reduceMod, Int.reduceEq, Int.reduceLT, Int.reduceLE, Nat.reduceLT, Nat.lt_irrefl, Nat.reduceBEq, tys0, tys1, tys2, tys3, tys4, tys5, tys6, tys7, tys8, tys9, tys10, tys11, tys12, tys13, tys14, tys15, tys16, tys17, tys18, Try.ntmps113, Try.results113, g1, g2, elems_length, p1, p2, p3, p4, p5, p8, q3, q4, q6, f3, f4, Int.toNat_natCast, Int.natCast_nonneg]
        refine ⟨by kernel_rfl, ⟨d.app (cons x k nil), q, d'.app (cons e c nil), q', o.app (cons e (k + c) nil), X ++ [.box 88 [.sl false (elems e), .int .i64 (k + c)]]⟩, ⟨hn.symm, hn'.symm, ?_, by simp only [len_app, len]; omega⟩, by simp [len]; omega, by simp only [len_app, elems_app, elems, pay, len]; repeat constructor, by simp only [len_app, elems_app, elems, pay, len]⟩
        rw [← h3, app_assoc]; rfl
      · rw [if_pos hc] at h3
        have g1 : 0 ≤ cmpT x e := by omega
        have g2 : ¬ (cmpT x e ≤ 0) := by omega
        simp only [run0, run1, run2, run3, run4, run5, run6, run7, run8, run9, run10, run11, run12, run13, run14, run15, run16, run17, run18, run19, run20, run21, run22, reduceCtorEq, Nat.reduceEqDiff, Nat.reduceAdd, Nat.reduceSub, Nat.reduceLeDiff, indexAddrA, indexRefA, appendA, strA, Nat.reduceMul, Nat.zero_mul, Nat.reduceMod, Int.reduceEq, Int.reduceLT, Int.reduceLE, Nat.reduceLT, Nat.lt_irrefl, Nat.reduceBEq, tys0, tys1, tys2, tys3, tys4, tys5, tys6, tys7, tys8, tys9, tys10, tys11, tys12, tys13, tys14, tys15, tys16, tys17, tys18, Try.ntmps113, Try.results113, g1, g2, elems_length, p1, p2, p3, p4, p5, q3, q4, q6, f3, f4, Int.toNat_natCast, Int.natCast_nonneg]
        refine ⟨⟨d.app (cons x k nil), q, d', cons e c q', o.app (cons x k nil), X ++ [.box 88 [.sl false (elems x), .int .i64 k]]⟩, ⟨hn.symm, h2, ?_, by simp only [len_app, len]; omega⟩, by simp [len], by simp only [len_app, elems_app, elems, pay, len]; repeat constructor, by simp only [len_app, elems_app, elems, pay, len]⟩
        rw [← h3, app_assoc]; rfl

theorem meetT_sz (e : Od) (c : Int) : ∀ a : Od, (meetT e c a).sz ≤ a.sz + (e.sz + 1)
  | .nil => by simp [meetT, sz]
  | .cons x k r => by
    have := meetT_sz e c r
    simp only [meetT]
    split
    · simp only [sz]; omega
    · split
      · simp only [sz]; omega
      · simp only [sz]; omega

structure MtS where
  d : Od
  r : Od
  o : Od
  t : Bool
  X : List AObj

theorem odMeet_ok (a e : Od) (c : Int) (ha : a.sz ≤ 1048576) {m : Int} (hm : m ≤ 2305843009213693952) (ba : bnd m a) (be : bnd m (.cons e c .nil)) : Ct Try.prog 111 [av a, .agg [.sl false (elems e), .int .i64 c]] [] (av (meetT e c a)) [] := by
  have hla := len_le a
  have bx := bnd_len be
  refine Ct.by_ hmix [] Try.func111 rfl ?_
  simp only [run0, run1, run2, run3, run4, run5, run6, run7, run8, run9, run10, run11, run12, run13, run14, run15, run16, run17, run18, run19, run20, run21, run22, reduceCtorEq, Nat.reduceEqDiff, Nat.reduceAdd, Nat.reduceSub, Nat.reduceLeDiff, indexAddrA, indexRefA, appendA, strA, Nat.reduceMul, Nat.zero_mul, Nat.reduceMod, Int.reduceEq, Int.reduceLT, Int.reduceLE, Nat.reduceLT, Nat.lt_irrefl, Nat.reduceBEq, tys0, tys1, tys2, tys3, tys4, tys5, tys6, tys7, tys8, tys9, tys10, tys11, tys12, tys13, tys14, tys15, tys16, tys17, tys18, Try.ntmps111, Try.results111, av, elems_length]
  refine AWp.nilB 3 0 88 2 rfl rfl ?_
  simp only [run0, run1, run2, run3, run4, run5, run6, run7, run8, run9, run10, run11, run12, run13, run14, run15, run16, run17, run18, run19, run20, run21, run22, reduceCtorEq, Nat.reduceEqDiff, Nat.reduceAdd, Nat.reduceSub, Nat.reduceLeDiff, indexAddrA, indexRefA, appendA, strA, Nat.reduceMul, Nat.zero_mul, Nat.reduceMod, Int.reduceEq, Int.reduceLT, Int.reduceLE, Nat.reduceLT, Nat.lt_irrefl, Nat.reduceBEq, tys0, tys1, tys2, tys3, tys4, tys5, tys6, tys7, tys8, tys9, tys10, tys11, tys12, tys13, tys14, tys15, tys16, tys17, tys18, Try.ntmps111, Try.results111]
  refine AWp.loop_inv (ι := MtS) (fun p => ⟨[.agg [.sl false (elems a)], .agg [.sl false (elems e), .int .i64 c], .ptr 0 0, .ptr 1 0, .ptr 2 0, .ptr 3 0, .bool p.t, .junk, .junk, .junk, .junk, .junk, .sl false (elems a), .int .i64 a.len, .int .i64 p.d.len, .junk, .junk, .junk, .junk, .junk, .junk, .junk, .junk, .junk, .junk, .junk, .junk, .junk, .junk, .junk, .junk, .junk, .junk, .junk, .junk, .junk, .junk, .junk, .junk, .junk, .junk, .junk, .junk, .junk, .junk, .junk, .junk, .junk, .junk, .junk, .junk, .junk, .junk, .junk, .junk, .junk, .junk, .junk, .junk, .junk, .junk, .junk, .junk, .junk, .junk, .junk],
      .box 24 [.sl false (elems a)] :: .box 88 [.sl false (elems e), .int .i64 c] :: .box 24 [nilV] :: .box 24 [.ref 4 [] p.o.len p.o.len] :: .vec 88 2 p.o.len (elems p.o) :: p.X⟩)
    (fun p => a = p.d.app p.r ∧ p.o.app (if p.t then p.r else meetT e c p.r) = meetT e c a ∧ p.o.len ≤ p.d.len + p.t.toNat) (fun p => p.r.len) ⟨.nil, a, .nil, false, []⟩ ⟨rfl, rfl, Nat.zero_le _⟩ ⟨by simp only [len, Int.natCast_zero]; repeat constructor, rfl⟩ ?_
  rintro ⟨d, r, o, t, X⟩ ⟨h1, h2, h3⟩
  simp only at h1 h2 h3
  refine W.sound hmix (E := []) ?_
  have hda : d.len + r.len = a.len := by rw [h1, len_app]
  have htn : t.toNat ≤ 1 := by cases t <;> simp
  have f3 : o.len ≤ 137438953471 := by omega
  have f5 : o.len ≤ 137438953470 := by omega
  have f6 : noOwn (elems o ++ [.agg [.sl false (elems e), .int .i64 c]]) = true := by
    have := elems_noOwn (o.app (cons e c nil)); rw [elems_app] at this; exact this
  have f4 : noOwn (elems o) = true := elems_noOwn o
  cases r with
  | nil =>
    obtain ⟨e1, rfl⟩ := od_end h1
    cases t
    · simp only [run0, run1, run2, run3, run4, run5, run6, run7, run8, run9, run10, run11, run12, run13, run14, run15, run16, run17, run18, run19, run20, run21, run22, reduceCtorEq, Nat.reduceEqDiff, Nat.reduceAdd, Nat.reduceSub, Nat.reduceLeDiff, indexAddrA, indexRefA, appendA, strA, Nat.reduceMul, Nat.zero_mul, Nat.reduceMod, Int.reduceEq, Int.reduceLT, Int.reduceLE, Nat.reduceLT, Nat.lt_irrefl, Nat.reduceBEq, tys0, tys1, tys2, tys3, tys4, tys5, tys6, tys7, tys8, tys9, tys10, tys11, tys12, tys13, tys14, tys15, tys16, tys17, tys18, Try.ntmps111, Try.results111, elems_length, e1, f3, f4]
      have h5 : meetT e c a = o.app (cons e c nil) := h2.symm
      rw [h5]
      exact Fin.value (Vw.agg (.cons (Vw_elems (T := 88) rfl (by rw [elems_app]; rfl) (by rw [len_app]; rfl)) .nil))
    · simp only [run0, run1, run2, run3, run4, run5, run6, run7, run8, run9, run10, run11, run12, run13, run14, run15, run16, run17, run18, run19, run20, run21, run22, reduceCtorEq, Nat.reduceEqDiff, Nat.reduceAdd, Nat.reduceSub, Nat.reduceLeDiff, indexAddrA, indexRefA, appendA, strA, Nat.reduceMul, Nat.zero_mul, Nat.reduceMod, Int.reduceEq, Int.reduceLT, Int.reduceLE, Nat.reduceLT, Nat.lt_irrefl, Nat.reduceBEq, tys0, tys1, tys2, tys3, tys4, tys5, tys6, tys7, tys8, tys9, tys10, tys11, tys12, tys13, tys14, tys15, tys16, tys17, tys18, Try.ntmps111, Try.results111, elems_length, e1]
      have h5 : meetT e c a = o := by rw [← h2]; exact app_nil o
      rw [h5]
      exact Fin.value (Vw.agg (.cons (Vw_elems (T := 88) rfl rfl rfl) .nil))
  | cons x k q =>
    obtain ⟨e1, e2, e5, _, hn, _⟩ := od_step h1 ha
    have by1 := bnd_len (bnd_app.1 (h1 ▸ ba)).2
    have w1 : IntKind.i64.wrap (c + k) = c + k := w64_id (by omega) (by omega)
    simp only [run0, run1, run2, run3, run4, run5, run6, run7, run8, run9, run10, run11, run12, run13, run14, run15, run16, run17, run18, run19, run20, run21, run22, reduceCtorEq, Nat.reduceEqDiff, Nat.reduceAdd, Nat.reduceSub, Nat.reduceLeDiff, indexAddrA, indexRefA, appendA, strA, Nat.reduceMul, Nat.zero_mul, Nat.reduceMod, Int.reduceEq, Int.reduceLT, Int.reduceLE, Nat.reduceLT, Nat.lt_irrefl, Nat.reduceBEq, tys0, tys1, tys2, tys3, tys4, tys5, tys6, tys7, tys8, tys9, tys10, tys11, tys12, tys13, tys14, tys15, tys16, tys17, tys18, Try.ntmps111, Try.results111, elems_length, e1, e2, Int.toNat_natCast, Int.natCast_nonneg]
    refine RunL.callp rfl rfl ok_f68 (odCmp_ok x e by1.2.1 bx.2.1 by1.1 bx.1) (by first | rfl | simp only [pureL, pureB, Bool.and_self, Bool.and_true, Bool.true_and, Od.elems_pure, Od.pay_pure, Od.av_pure]) rfl ?_
    cases t
    · simp only [Bool.false_eq_true, if_false, meetT] at h2
      rcases Int.lt_trichotomy (cmpT x e) 0 with hc | hc | hc
      · rw [if_neg (by omega), if_neg (by omega)] at h2
        have g1 : cmpT x e ≤ 0 := by omega
        have g2 : (cmpT x e == 0) = false := by simp; omega
        simp only [run0, run1, run2, run3, run4, run5, run6, run7, run8, run9, run10, run11, run12, run13, run14, run15, run16, run17, run18, run19, run20, run21, run22, reduceCtorEq, Nat.reduceEqDiff, Nat.reduceAdd, Nat.reduceSub, Nat.reduceLeDiff, indexAddrA, indexRefA, appendA, strA, Nat.reduceMul, Nat.zero_mul, Nat.reduceMod, Int.reduceEq, Int.reduceLT, Int.reduceLE, Nat.reduceLT, Nat.lt_irrefl, Nat.reduceBEq, tys0, tys1, tys2, tys3, tys4, tys5, tys6, tys7, tys8, tys9, tys10, tys11, tys12, tys13, tys14, tys15, tys16, tys17, tys18, Try.ntmps111, Try.results111, g1, g2, e5, f3, f4, f5, f6, elems_length]
        refine ⟨⟨d.app (cons x k nil), q, o.app (cons e c (cons x k nil)), true, X ++ [.box 88 [.sl false (elems x), .int .i64 k]]⟩, ⟨hn.symm, ?_, by simp only [len_app, len, Bool.toNat] at h3 ⊢; simp at h3; simp; omega⟩, by simp [len], by simp only [len_app, elems_app, elems, pay, len]; repeat constructor, by simp only [len_app, elems_app, elems, pay, len]⟩
        rw [← h2, app_assoc]; rfl
      · rw [if_neg (by omega), if_pos hc] at h2
        have g1 : cmpT x e ≤ 0 := by omega
        have g2 : (cmpT x e == 0) = true := by simp; omega
        simp only [run0, run1, run2, run3, run4, run5, run6, run7, run8, run9, run10, run11, run12, run13, run14, run15, run16, run17, run18, run19, run20, run21, run22, reduceCtorEq, Nat.reduceEqDiff, Nat.reduceAdd, Nat.reduceSub, Nat.reduceLeDiff, indexAddrA, indexRefA, appendA, strA, Nat.reduceMul, Nat.zero_mul, Nat.reduceMod, Int.reduceEq, Int.reduceLT, Int.reduceLE, Nat.reduceLT, Nat.lt_irrefl, Nat.reduceBEq, tys0, tys1, tys2, tys3, tys4, tys5, tys6, tys7, tys8, tys9, tys10, tys11, tys12, tys13, tys14, tys15, tys16, tys17, tys18, Try.ntmps111, Try.results111, g1, g2, w1, e5, f3, f4, f5, elems_length]
        refine ⟨⟨d.app (cons x k nil), q, o.app (cons e (c + k) nil), true, X ++ [.box 88 [.sl false (elems x), .int .i64 k]]⟩, ⟨hn.symm, ?_, by simp only [len_app, len, Bool.toNat] at h3 ⊢; simp at h3; simp; omega⟩, by simp [len], by simp only [len_app, elems_app, elems, pay, len]; repeat constructor, by simp only [len_app, elems_app, elems, pay, len]⟩
        rw [← h2, app_assoc]; rfl
      · rw [if_pos hc] at h2
        have g1 : ¬ (cmpT x e ≤ 0) := by omega
        simp only [run0, run1, run2, run3, run4, run5, run6, run7, run8, run9, run10, run11, run12, run13, run14, run15, run16, run17, run18, run19, run20, run21, run22, reduceCtorEq, Nat.reduceEqDiff, Nat.reduceAdd, Nat.reduceSub, Nat.reduceLeDiff, indexAddrA, indexRefA, appendA, strA, Nat.reduceMul, Nat.zero_mul, Nat.reduceMod, Int.reduceEq, Int.reduceLT, Int.reduceLE, Nat.reduceLT, Nat.lt_irrefl, Nat.reduceBEq, tys0, tys1, tys2, tys3, tys4, tys5, tys6, tys7, tys8, tys9, tys10, tys11, tys12, tys13, tys14, tys15, tys16, tys17, tys18, Try.ntmps111, Try.results111, g1, e5, f3, f4, f5, elems_length]
        refine ⟨⟨d.app (cons x k nil), q, o.app (cons x k nil), false, X ++ [.box 88 [.sl false (elems x), .int .i64 k]]⟩, ⟨hn.symm, ?_, by simp only [len_app, len, Bool.toNat] at h3 ⊢; simp at h3; simp; omega⟩, by simp [len], by simp only [len_app, elems_app, elems, pay, len]; repeat constructor, by simp only [len_app, elems_app, elems, pay, len]⟩
        rw [← h2, app_assoc]; rfl
    · simp only [run0, run1, run2, run3, run4, run5, run6, run7, run8, run9, run10, run11, run12, run13, run14, run15, run16, run17, run18, run19, run20, run21, run22, reduceCtorEq, Nat.reduceEqDiff, Nat.reduceAdd, Nat.reduceSub, Nat.reduceLeDiff, indexAddrA, indexRefA, appendA, strA, Nat.reduceMul, Nat.zero_mul, Nat.reduceMod, Int.reduceEq, Int.reduceLT, Int.reduceLE, Nat.reduceLT, Nat.lt_irrefl, Nat.reduceBEq, tys0, tys1, tys2, tys3, tys4, tys5, tys6, tys7, tys8, tys9, tys10, tys11, tys12, tys13, tys14, tys15, tys16, tys17, tys18, Try.ntmps111, Try.results111, e5, f3, f4, f5, elems_length]
      refine ⟨⟨d.app (cons x k nil), q, o.app (cons x k nil), true, X ++ [.box 88 [.sl false (elems x), .int .i64 k]]⟩, ⟨hn.symm, ?_, by simp only [len_app, len, Bool.toNat] at h3 ⊢; simp at h3; simp; omega⟩, by simp [len], by simp only [len_app, elems_app, elems, pay, len]; repeat constructor, by simp only [len_app, elems_app, elems, pay, len]⟩
      rw [← h2, app_assoc]; rfl

theorem meetT_bnd {M m : Int} {e : Od} {c : Int} (h0 : 0 ≤ m) (be : bnd m (.cons e c .nil)) (hM : 0 ≤ M) : ∀ {a : Od}, bnd M a → bnd (M + m) (meetT e c a)
  | .nil, _ => ⟨be.1, be.2.1, by have := be.2.2.1; omega, by have := be.2.2.2.1; omega, trivial⟩
  | .cons x k r, h => by
    have h1 := bnd_mono (m' := M + m) (by omega) h
    have h2 := meetT_bnd h0 be hM h.2.2.2.2
    have h3 := h.2.2.1
    have h4 := h.2.2.2.1
    have h5 := be.2.2.1
    have h6 := be.2.2.2.1
    simp only [meetT]
    split
    · exact ⟨h.1, h.2.1, by omega, by omega, h2⟩
    · split
      · exact ⟨be.1, be.2.1, by omega, by omega, h1.2.2.2.2⟩
      · exact ⟨be.1, be.2.1, by omega, by omega, h1⟩


end Go.Proofs.Ytphmkhaboghagaa
/-
  Ordinals: copies of the program's and of the reference's own.
-/
namespace Go.Proofs.Ytphmkhaboghagaa
open Go K Od
set_option linter.unusedSimpArgs false
set_option linter.unusedVariables false
set_option maxHeartbeats 400000

structure ClS where
  d : Od
  r : Od
  es : List AV
  X : List AObj
  S : List Nat

theorem cloneS_ok (a : Od) (hs : a.sz ≤ 1048576) : ∃ x M, Ct Try.prog 91 [av a] [] (.agg [x]) M ∧ Own M a x := by
  have hl := len_le a
  suffices h : ∃ r M, Ct Try.prog 91 [av a] [] r M ∧ (∃ x, r = .agg [x] ∧ Own M a x) by
    obtain ⟨r, M, h1, x, rfl, h2⟩ := h
    exact ⟨x, M, h1, h2⟩
  refine Ct.ex hmix [8000000, 2000000 + 91] Try.func91 rfl ?_
  simp only [run0, run1, run2, run3, run4, run5, run6, run7, run8, run9, run10, run11, run12, run13, run14, run15, run16, run17, run18, run19, run20, run21, run22, reduceCtorEq, Nat.reduceEqDiff, Nat.reduceAdd, Nat.reduceSub, Nat.reduceLeDiff, indexAddrA, indexRefA, appendA, strA, Nat.reduceMul, Nat.zero_mul, Nat.reduceMod, Int.reduceEq, Int.reduceLT, Int.reduceLE, Nat.reduceLT, Nat.lt_irrefl, Nat.reduceBEq, tys0, tys1, tys2, tys3, tys4, tys5, tys6, tys7, tys8, tys9, tys10, tys11, tys12, tys13, tys14, tys15, tys16, tys17, tys18, Try.ntmps91, Try.results91, av, elems_length]
  refine AWp.nilB_ex 2 0 88 2 rfl rfl ?_
  simp only [run0, run1, run2, run3, run4, run5, run6, run7, run8, run9, run10, run11, run12, run13, run14, run15, run16, run17, run18, run19, run20, run21, run22, reduceCtorEq, Nat.reduceEqDiff, Nat.reduceAdd, Nat.reduceSub, Nat.reduceLeDiff, indexAddrA, indexRefA, appendA, strA, Nat.reduceMul, Nat.zero_mul, Nat.reduceMod, Int.reduceEq, Int.reduceLT, Int.reduceLE, Nat.reduceLT, Nat.lt_irrefl, Nat.reduceBEq, tys0, tys1, tys2, tys3, tys4, tys5, tys6, tys7, tys8, tys9, tys10, tys11, tys12, tys13, tys14, tys15, tys16, tys17, tys18, Try.ntmps91, Try.results91]
  refine AWp.loop_exK (ι := ClS) (fun p => ⟨[.agg [.sl false (elems a)], .ptr 0 0, .ptr 1 0, .ptr 2 0, .junk, .junk, .junk, .junk, .sl false (elems a), .int .i64 a.len, .int .i64 p.d.len, .junk, .junk, .junk, .junk, .junk, .junk, .junk, .junk, .junk, .junk, .junk, .junk, .junk, .junk, .junk, .junk],
      .box 24 [.sl false (elems a)] :: .box 24 [.lit (.slice none 0 0)] :: .box 24 [.ref 3 [] p.d.len p.d.len] :: .vec 88 2 p.d.len p.es :: p.X⟩)
    (fun p => a = p.d.app p.r ∧ OwnE (.box 24 [.sl false (elems a)] :: .box 24 [.lit (.slice none 0 0)] :: .box 24 [.ref 3 [] p.d.len p.d.len] :: .vec 88 2 p.d.len p.es :: p.X) 88 2 p.d p.es p.S ∧ p.S.Nodup ∧ 3 ∉ p.S)
    (fun p => p.r.len) ⟨.nil, a, [], [], []⟩ ⟨rfl, ⟨rfl, rfl⟩, by simp, by simp⟩ ⟨by simp only [len, Int.natCast_zero]; repeat constructor, rfl⟩ ?_
  rintro ⟨d, r, es, X, S⟩ ⟨ha, ho, hn, h3⟩
  simp only at ha ho hn h3
  have hel := ho.length
  have hda : d.len + r.len = a.len := by rw [ha, len_app]
  cases r with
  | nil =>
    left
    obtain ⟨e1, e2⟩ := od_end ha
    subst e2
    refine ⟨.agg [.ref 3 [] a.len a.len], ?_⟩
    apply ex1
    · refine W.sound hmix (E := [8000000, 2000000 + 91]) ?_
      simp only [run0, run1, run2, run3, run4, run5, run6, run7, run8, run9, run10, run11, run12, run13, run14, run15, run16, run17, run18, run19, run20, run21, run22, reduceCtorEq, Nat.reduceEqDiff, Nat.reduceAdd, Nat.reduceSub, Nat.reduceLeDiff, indexAddrA, indexRefA, appendA, strA, Nat.reduceMul, Nat.zero_mul, Nat.reduceMod, Int.reduceEq, Int.reduceLT, Int.reduceLE, Nat.reduceLT, Nat.lt_irrefl, Nat.reduceBEq, tys0, tys1, tys2, tys3, tys4, tys5, tys6, tys7, tys8, tys9, tys10, tys11, tys12, tys13, tys14, tys15, tys16, tys17, tys18, Try.ntmps91, Try.results91, elems_length, e1]
      exact Fin.keep (3 :: S) rfl rfl
    · refine ⟨_, rfl, 3 :: S, OwnR.keep (.inr ⟨3, a.len, es, S, by rw [hel], rfl, rfl, ?_⟩) fun _ h => h, List.nodup_cons.2 ⟨h3, hn⟩, keepS_okSO _ _⟩
      refine ho.mono fun id hid g es1 hL => ?_
      rcases id with _ | _ | _ | _ | id
      · cases hL
      · cases hL
      · cases hL
      · exact absurd hid h3
      · exact hL
  | cons e c r =>
    right
    obtain ⟨e1, e2, e5, hlt, hnx, _⟩ := od_step ha hs
    simp only [len] at hda
    obtain ⟨x, M, hc, S1, hx, hn1, hM⟩ := cloneS_ok e (by omega)
    have f1 : (es.length + 1) ≤ 137438953472 := by omega
    have f2 : (d.len : Nat) + 1 ≤ 137438953472 := by omega
    have f3 := ho.form.2.1
    have hdl : (d.app (cons e c nil)).len = d.len + 1 := by rw [len_app]; rfl
    have hlt0 := ho.lt
    simp only [List.length_cons] at hlt0
    -- what the call leaves, by its shape
    have fin : ∀ x', x' = shA (X.length + 5) x → ∀ (t : List AV), 
        OwnE (.box 24 [.sl false (elems a)] :: .box 24 [.lit (.slice none 0 0)] :: .box 24 [.ref 3 [] (d.len + 1) (d.len + 1)] :: .vec 88 2 (d.len + 1) (es ++ [.agg [x', .int .i64 c]]) :: (X ++ (.box 88 [.sl false (elems e), .int .i64 c] :: M.map (shO (X.length + 5))))) 88 2 (d.app (cons e c nil)) (es ++ [.agg [x', .int .i64 c]]) (S ++ S1.map (· + (X.length + 5))) ∧
        (S ++ S1.map (· + (X.length + 5))).Nodup ∧ 3 ∉ (S ++ S1.map (· + (X.length + 5))) := by
      rintro x' rfl t
      refine ⟨OwnE.app (OwnE.one (OwnR.sh (fun id => ?_) hx) c) (ho.mono fun id hid g es1 hL => ?_), List.nodup_append.2 ⟨hn, nodup_add _ hn1, fun u hu v hv => ?_⟩, ?_⟩
      · rw [show id + (X.length + 5) = (id + X.length + 1) + 4 by omega]
        simp only [List.getElem?_cons_succ]
        rw [List.getElem?_append_right (by omega), show id + X.length + 1 - X.length = id + 1 by omega, List.getElem?_cons_succ, List.getElem?_map]
      · rcases id with _ | _ | _ | _ | id
        · cases hL
        · cases hL
        · cases hL
        · exact absurd hid h3
        · simp only [List.getElem?_cons_succ] at hL ⊢
          rw [List.getElem?_append_left (List.getElem?_eq_some_iff.1 hL).1]; exact hL
      · have := hlt0 u hu
        simp only [List.mem_map] at hv
        obtain ⟨q, _, rfl⟩ := hv
        omega
      · simp only [List.mem_append, not_or, List.mem_map]
        exact ⟨h3, fun ⟨q, _, hq⟩ => by omega⟩
    rcases hx.shape with rfl | ⟨id, g, n, rfl⟩
    · obtain ⟨q1, q2, q3⟩ := fin nilV rfl []
      refine ⟨⟨d.app (cons e c nil), r, es ++ [.agg [nilV, .int .i64 c]], X ++ (.box 88 [.sl false (elems e), .int .i64 c] :: M.map (shO (X.length + 5))), S ++ S1.map (· + (X.length + 5))⟩, ⟨hnx.symm, by rw [hdl]; exact q1, q2, q3⟩, by simp [len], ?_⟩
      refine W.sound hmix (E := [8000000, 2000000 + 91]) ?_
      simp only [run0, run1, run2, run3, run4, run5, run6, run7, run8, run9, run10, run11, run12, run13, run14, run15, run16, run17, run18, run19, run20, run21, run22, reduceCtorEq, Nat.reduceEqDiff, Nat.reduceAdd, Nat.reduceSub, Nat.reduceLeDiff, indexAddrA, indexRefA, appendA, strA, Nat.reduceMul, Nat.zero_mul, Nat.reduceMod, Int.reduceEq, Int.reduceLT, Int.reduceLE, Nat.reduceLT, Nat.lt_irrefl, Nat.reduceBEq, tys0, tys1, tys2, tys3, tys4, tys5, tys6, tys7, tys8, tys9, tys10, tys11, tys12, tys13, tys14, tys15, tys16, tys17, tys18, Try.ntmps91, Try.results91, elems_length, e1, e2, Int.toNat_natCast, Int.natCast_nonneg]
      refine ⟨[0,1,2,3,5,6,4,7,8,9,10,11], by kernel_rfl, ?_⟩
      simp only [run0, run1, run2, run3, run4, run5, run6, run7, run8, run9, run10, run11, run12, run13, run14, run15, run16, run17, run18, run19, run20, run21, run22, reduceCtorEq, Nat.reduceEqDiff, Nat.reduceAdd, Nat.reduceSub, Nat.reduceLeDiff, indexAddrA, indexRefA, appendA, strA, Nat.reduceMul, Nat.zero_mul, Nat.reduceMod, Int.reduceEq, Int.reduceLT, Int.reduceLE, Nat.reduceLT, Nat.lt_irrefl, Nat.reduceBEq, tys0, tys1, tys2, tys3, tys4, tys5, tys6, tys7, tys8, tys9, tys10, tys11, tys12, tys13, tys14, tys15, tys16, tys17, tys18, Try.ntmps91, Try.results91]
      refine RunL.callgp rfl rfl ok_f91 rfl hc (by simp only [pureL, pureB, av_pure, Bool.and_self]) rfl ?_
      simp only [run0, run1, run2, run3, run4, run5, run6, run7, run8, run9, run10, run11, run12, run13, run14, run15, run16, run17, run18, run19, run20, run21, run22, reduceCtorEq, Nat.reduceEqDiff, Nat.reduceAdd, Nat.reduceSub, Nat.reduceLeDiff, indexAddrA, indexRefA, appendA, strA, Nat.reduceMul, Nat.zero_mul, Nat.reduceMod, Int.reduceEq, Int.reduceLT, Int.reduceLE, Nat.reduceLT, Nat.lt_irrefl, Nat.reduceBEq, tys0, tys1, tys2, tys3, tys4, tys5, tys6, tys7, tys8, tys9, tys10, tys11, tys12, tys13, tys14, tys15, tys16, tys17, tys18, Try.ntmps91, Try.results91, nilV, shA, shL, hel, f2, f3, e5, hdl, eq_self]
      repeat constructor
    · obtain ⟨q1, q2, q3⟩ := fin (.ref (id + (X.length + 5)) [] g n) (by simp [shA]) []
      refine ⟨⟨d.app (cons e c nil), r, es ++ [.agg [.ref (id + (X.length + 5)) [] g n, .int .i64 c]], X ++ (.box 88 [.sl false (elems e), .int .i64 c] :: M.map (shO (X.length + 5))), S ++ S1.map (· + (X.length + 5))⟩, ⟨hnx.symm, by rw [hdl]; exact q1, q2, q3⟩, by simp [len], ?_⟩
      refine W.sound hmix (E := [8000000, 2000000 + 91]) ?_
      simp only [run0, run1, run2, run3, run4, run5, run6, run7, run8, run9, run10, run11, run12, run13, run14, run15, run16, run17, run18, run19, run20, run21, run22, reduceCtorEq, Nat.reduceEqDiff, Nat.reduceAdd, Nat.reduceSub, Nat.reduceLeDiff, indexAddrA, indexRefA, appendA, strA, Nat.reduceMul, Nat.zero_mul, Nat.reduceMod, Int.reduceEq, Int.reduceLT, Int.reduceLE, Nat.reduceLT, Nat.lt_irrefl, Nat.reduceBEq, tys0, tys1, tys2, tys3, tys4, tys5, tys6, tys7, tys8, tys9, tys10, tys11, tys12, tys13, tys14, tys15, tys16, tys17, tys18, Try.ntmps91, Try.results91, elems_length, e1, e2, Int.toNat_natCast, Int.natCast_nonneg]
      refine ⟨[0,1,2,3,5,6,4,7,8,9,10,11], by kernel_rfl, ?_⟩
      simp only [run0, run1, run2, run3, run4, run5, run6, run7, run8, run9, run10, run11, run12, run13, run14, run15, run16, run17, run18, run19, run20, run21, run22, reduceCtorEq, Nat.reduceEqDiff, Nat.reduceAdd, Nat.reduceSub, Nat.reduceLeDiff, indexAddrA, indexRefA, appendA, strA, Nat.reduceMul, Nat.zero_mul, Nat.reduceMod, Int.reduceEq, Int.reduceLT, Int.reduceLE, Nat.reduceLT, Nat.lt_irrefl, Nat.reduceBEq, tys0, tys1, tys2, tys3, tys4, tys5, tys6, tys7, tys8, tys9, tys10, tys11, tys12, tys13, tys14, tys15, tys16, tys17, tys18, Try.ntmps91, Try.results91]
      refine RunL.callgp rfl rfl ok_f91 rfl hc (by simp only [pureL, pureB, av_pure, Bool.and_self]) rfl ?_
      simp only [run0, run1, run2, run3, run4, run5, run6, run7, run8, run9, run10, run11, run12, run13, run14, run15, run16, run17, run18, run19, run20, run21, run22, reduceCtorEq, Nat.reduceEqDiff, Nat.reduceAdd, Nat.reduceSub, Nat.reduceLeDiff, indexAddrA, indexRefA, appendA, strA, Nat.reduceMul, Nat.zero_mul, Nat.reduceMod, Int.reduceEq, Int.reduceLT, Int.reduceLE, Nat.reduceLT, Nat.lt_irrefl, Nat.reduceBEq, tys0, tys1, tys2, tys3, tys4, tys5, tys6, tys7, tys8, tys9, tys10, tys11, tys12, tys13, tys14, tys15, tys16, tys17, tys18, Try.ntmps91, Try.results91, nilV, shA, shL, hel, f2, f3, e5, hdl, eq_self]
      repeat constructor
termination_by a.sz

structure ClS2 where
  d : Od
  r : Od
  es : List AV
  X : List AObj
  S : List Nat

theorem ownS_ok (a : Od) (hs : a.sz ≤ 1048576) : ∃ x M, Ct Try.prog 90 [av a] [] (.agg [x]) M ∧ Own M a x := by
  have hl := len_le a
  suffices h : ∃ r M, Ct Try.prog 90 [av a] [] r M ∧ (∃ x, r = .agg [x] ∧ Own M a x) by
    obtain ⟨r, M, h1, x, rfl, h2⟩ := h
    exact ⟨x, M, h1, h2⟩
  refine Ct.ex hmix [8000000, 2000000 + 90] Try.func90 rfl ?_
  simp only [run0, run1, run2, run3, run4, run5, run6, run7, run8, run9, run10, run11, run12, run13, run14, run15, run16, run17, run18, run19, run20, run21, run22, reduceCtorEq, Nat.reduceEqDiff, Nat.reduceAdd, Nat.reduceSub, Nat.reduceLeDiff, indexAddrA, indexRefA, appendA, strA, Nat.reduceMul, Nat.zero_mul, Nat.reduceMod, Int.reduceEq, Int.reduceLT, Int.reduceLE, Nat.reduceLT, Nat.lt_irrefl, Nat.reduceBEq, tys0, tys1, tys2, tys3, tys4, tys5, tys6, tys7, tys8, tys9, tys10, tys11, tys12, tys13, tys14, tys15, tys16, tys17, tys18, Try.ntmps90, Try.results90, av, elems_length]
  refine AWp.nilB_ex 2 0 88 2 rfl rfl ?_
  simp only [run0, run1, run2, run3, run4, run5, run6, run7, run8, run9, run10, run11, run12, run13, run14, run15, run16, run17, run18, run19, run20, run21, run22, reduceCtorEq, Nat.reduceEqDiff, Nat.reduceAdd, Nat.reduceSub, Nat.reduceLeDiff, indexAddrA, indexRefA, appendA, strA, Nat.reduceMul, Nat.zero_mul, Nat.reduceMod, Int.reduceEq, Int.reduceLT, Int.reduceLE, Nat.reduceLT, Nat.lt_irrefl, Nat.reduceBEq, tys0, tys1, tys2, tys3, tys4, tys5, tys6, tys7, tys8, tys9, tys10, tys11, tys12, tys13, tys14, tys15, tys16, tys17, tys18, Try.ntmps90, Try.results90]
  refine AWp.loop_exK (ι := ClS2) (fun p => ⟨[.agg [.sl false (elems a)], .ptr 0 0, .ptr 1 0, .ptr 2 0, .junk, .junk, .junk, .junk, .sl false (elems a), .int .i64 a.len, .int .i64 p.d.len, .junk, .junk, .junk, .junk, .junk, .junk, .junk, .junk, .junk, .junk, .junk, .junk, .junk, .junk, .junk, .junk],
      .box 24 [.sl false (elems a)] :: .box 24 [.lit (.slice none 0 0)] :: .box 24 [.ref 3 [] p.d.len p.d.len] :: .vec 88 2 p.d.len p.es :: p.X⟩)
    (fun p => a = p.d.app p.r ∧ OwnE (.box 24 [.sl false (elems a)] :: .box 24 [.lit (.slice none 0 0)] :: .box 24 [.ref 3 [] p.d.len p.d.len] :: .vec 88 2 p.d.len p.es :: p.X) 88 2 p.d p.es p.S ∧ p.S.Nodup ∧ 3 ∉ p.S)
    (fun p => p.r.len) ⟨.nil, a, [], [], []⟩ ⟨rfl, ⟨rfl, rfl⟩, by simp, by simp⟩ ⟨by simp only [len, Int.natCast_zero]; repeat constructor, rfl⟩ ?_
  rintro ⟨d, r, es, X, S⟩ ⟨ha, ho, hn, h3⟩
  simp only at ha ho hn h3
  have hel := ho.length
  have hda : d.len + r.len = a.len := by rw [ha, len_app]
  cases r with
  | nil =>
    left
    obtain ⟨e1, e2⟩ := od_end ha
    subst e2
    refine ⟨.agg [.ref 3 [] a.len a.len], ?_⟩
    apply ex1
    · refine W.sound hmix (E := [8000000, 2000000 + 90]) ?_
      simp only [run0, run1, run2, run3, run4, run5, run6, run7, run8, run9, run10, run11, run12, run13, run14, run15, run16, run17, run18, run19, run20, run21, run22, reduceCtorEq, Nat.reduceEqDiff, Nat.reduceAdd, Nat.reduceSub, Nat.reduceLeDiff, indexAddrA, indexRefA, appendA, strA, Nat.reduceMul, Nat.zero_mul, Nat.reduceMod, Int.reduceEq, Int.reduceLT, Int.reduceLE, Nat.reduceLT, Nat.lt_irrefl, Nat.reduceBEq, tys0, tys1, tys2, tys3, tys4, tys5, tys6, tys7, tys8, tys9, tys10, tys11, tys12, tys13, tys14, tys15, tys16, tys17, tys18, Try.ntmps90, Try.results90, elems_length, e1]
      exact Fin.keep (3 :: S) rfl rfl
    · refine ⟨_, rfl, 3 :: S, OwnR.keep (.inr ⟨3, a.len, es, S, by rw [hel], rfl, rfl, ?_⟩) fun _ h => h, List.nodup_cons.2 ⟨h3, hn⟩, keepS_okSO _ _⟩
      refine ho.mono fun id hid g es1 hL => ?_
      rcases id with _ | _ | _ | _ | id
      · cases hL
      · cases hL
      · cases hL
      · exact absurd hid h3
      · exact hL
  | cons e c r =>
    right
    obtain ⟨e1, e2, e5, hlt, hnx, _⟩ := od_step ha hs
    simp only [len] at hda
    obtain ⟨x, M, hc, S1, hx, hn1, hM⟩ := ownS_ok e (by omega)
    have f1 : (es.length + 1) ≤ 137438953472 := by omega
    have f2 : (d.len : Nat) + 1 ≤ 137438953472 := by omega
    have f3 := ho.form.2.1
    have hdl : (d.app (cons e c nil)).len = d.len + 1 := by rw [len_app]; rfl
    have hlt0 := ho.lt
    simp only [List.length_cons] at hlt0
    -- what the call leaves, by its shape
    have fin : ∀ x', x' = shA (X.length + 5) x → ∀ (t : List AV), 
        OwnE (.box 24 [.sl false (elems a)] :: .box 24 [.lit (.slice none 0 0)] :: .box 24 [.ref 3 [] (d.len + 1) (d.len + 1)] :: .vec 88 2 (d.len + 1) (es ++ [.agg [x', .int .i64 c]]) :: (X ++ (.box 88 [.sl false (elems e), .int .i64 c] :: M.map (shO (X.length + 5))))) 88 2 (d.app (cons e c nil)) (es ++ [.agg [x', .int .i64 c]]) (S ++ S1.map (· + (X.length + 5))) ∧
        (S ++ S1.map (· + (X.length + 5))).Nodup ∧ 3 ∉ (S ++ S1.map (· + (X.length + 5))) := by
      rintro x' rfl t
      refine ⟨OwnE.app (OwnE.one (OwnR.sh (fun id => ?_) hx) c) (ho.mono fun id hid g es1 hL => ?_), List.nodup_append.2 ⟨hn, nodup_add _ hn1, fun u hu v hv => ?_⟩, ?_⟩
      · rw [show id + (X.length + 5) = (id + X.length + 1) + 4 by omega]
        simp only [List.getElem?_cons_succ]
        rw [List.getElem?_append_right (by omega), show id + X.length + 1 - X.length = id + 1 by omega, List.getElem?_cons_succ, List.getElem?_map]
      · rcases id with _ | _ | _ | _ | id
        · cases hL
        · cases hL
        · cases hL
        · exact absurd hid h3
        · simp only [List.getElem?_cons_succ] at hL ⊢
          rw [List.getElem?_append_left (List.getElem?_eq_some_iff.1 hL).1]; exact hL
      · have := hlt0 u hu
        simp only [List.mem_map] at hv
        obtain ⟨q, _, rfl⟩ := hv
        omega
      · simp only [List.mem_append, not_or, List.mem_map]
        exact ⟨h3, fun ⟨q, _, hq⟩ => by omega⟩
    rcases hx.shape with rfl | ⟨id, g, n, rfl⟩
    · obtain ⟨q1, q2, q3⟩ := fin nilV rfl []
      refine ⟨⟨d.app (cons e c nil), r, es ++ [.agg [nilV, .int .i64 c]], X ++ (.box 88 [.sl false (elems e), .int .i64 c] :: M.map (shO (X.length + 5))), S ++ S1.map (· + (X.length + 5))⟩, ⟨hnx.symm, by rw [hdl]; exact q1, q2, q3⟩, by simp [len], ?_⟩
      refine W.sound hmix (E := [8000000, 2000000 + 90]) ?_
      simp only [run0, run1, run2, run3, run4, run5, run6, run7, run8, run9, run10, run11, run12, run13, run14, run15, run16, run17, run18, run19, run20, run21, run22, reduceCtorEq, Nat.reduceEqDiff, Nat.reduceAdd, Nat.reduceSub, Nat.reduceLeDiff, indexAddrA, indexRefA, appendA, strA, Nat.reduceMul, Nat.zero_mul, Nat.reduceMod, Int.reduceEq, Int.reduceLT, Int.reduceLE, Nat.reduceLT, Nat.lt_irrefl, Nat.reduceBEq, tys0, tys1, tys2, tys3, tys4, tys5, tys6, tys7, tys8, tys9, tys10, tys11, tys12, tys13, tys14, tys15, tys16, tys17, tys18, Try.ntmps90, Try.results90, elems_length, e1, e2, Int.toNat_natCast, Int.natCast_nonneg]
      refine ⟨[0,1,2,3,5,6,4,7,8,9,10,11], by kernel_rfl, ?_⟩
      simp only [run0, run1, run2, run3, run4, run5, run6, run7, run8, run9, run10, run11, run12, run13, run14, run15, run16, run17, run18, run19, run20, run21, run22, reduceCtorEq, Nat.reduceEqDiff, Nat.reduceAdd, Nat.reduceSub, Nat.reduceLeDiff, indexAddrA, indexRefA, appendA, strA, Nat.reduceMul, Nat.zero_mul, Nat.reduceMod, Int.reduceEq, Int.reduceLT, Int.reduceLE, Nat.reduceLT, Nat.lt_irrefl, Nat.reduceBEq, tys0, tys1, tys2, tys3, tys4, tys5, tys6, tys7, tys8, tys9, tys10, tys11, tys12, tys13, tys14, tys15, tys16, tys17, tys18, Try.ntmps90, Try.results90]
      refine RunL.callgp rfl rfl ok_f90 rfl hc (by simp only [pureL, pureB, av_pure, Bool.and_self]) rfl ?_
      simp only [run0, run1, run2, run3, run4, run5, run6, run7, run8, run9, run10, run11, run12, run13, run14, run15, run16, run17, run18, run19, run20, run21, run22, reduceCtorEq, Nat.reduceEqDiff, Nat.reduceAdd, Nat.reduceSub, Nat.reduceLeDiff, indexAddrA, indexRefA, appendA, strA, Nat.reduceMul, Nat.zero_mul, Nat.reduceMod, Int.reduceEq, Int.reduceLT, Int.reduceLE, Nat.reduceLT, Nat.lt_irrefl, Nat.reduceBEq, tys0, tys1, tys2, tys3, tys4, tys5, tys6, tys7, tys8, tys9, tys10, tys11, tys12, tys13, tys14, tys15, tys16, tys17, tys18, Try.ntmps90, Try.results90, nilV, shA, shL, hel, f2, f3, e5, hdl, eq_self]
      repeat constructor
    · obtain ⟨q1, q2, q3⟩ := fin (.ref (id + (X.length + 5)) [] g n) (by simp [shA]) []
      refine ⟨⟨d.app (cons e c nil), r, es ++ [.agg [.ref (id + (X.length + 5)) [] g n, .int .i64 c]], X ++ (.box 88 [.sl false (elems e), .int .i64 c] :: M.map (shO (X.length + 5))), S ++ S1.map (· + (X.length + 5))⟩, ⟨hnx.symm, by rw [hdl]; exact q1, q2, q3⟩, by simp [len], ?_⟩
      refine W.sound hmix (E := [8000000, 2000000 + 90]) ?_
      simp only [run0, run1, run2, run3, run4, run5, run6, run7, run8, run9, run10, run11, run12, run13, run14, run15, run16, run17, run18, run19, run20, run21, run22, reduceCtorEq, Nat.reduceEqDiff, Nat.reduceAdd, Nat.reduceSub, Nat.reduceLeDiff, indexAddrA, indexRefA, appendA, strA, Nat.reduceMul, Nat.zero_mul, Nat.reduceMod, Int.reduceEq, Int.reduceLT, Int.reduceLE, Nat.reduceLT, Nat.lt_irrefl, Nat.reduceBEq, tys0, tys1, tys2, tys3, tys4, tys5, tys6, tys7, tys8, tys9, tys10, tys11, tys12, tys13, tys14, tys15, tys16, tys17, tys18, Try.ntmps90, Try.results90, elems_length, e1, e2, Int.toNat_natCast, Int.natCast_nonneg]
      refine ⟨[0,1,2,3,5,6,4,7,8,9,10,11], by kernel_rfl, ?_⟩
      simp only [run0, run1, run2, run3, run4, run5, run6, run7, run8, run9, run10, run11, run12, run13, run14, run15, run16, run17, run18, run19, run20, run21, run22, reduceCtorEq, Nat.reduceEqDiff, Nat.reduceAdd, Nat.reduceSub, Nat.reduceLeDiff, indexAddrA, indexRefA, appendA, strA, Nat.reduceMul, Nat.zero_mul, Nat.reduceMod, Int.reduceEq, Int.reduceLT, Int.reduceLE, Nat.reduceLT, Nat.lt_irrefl, Nat.reduceBEq, tys0, tys1, tys2, tys3, tys4, tys5, tys6, tys7, tys8, tys9, tys10, tys11, tys12, tys13, tys14, tys15, tys16, tys17, tys18, Try.ntmps90, Try.results90]
      refine RunL.callgp rfl rfl ok_f90 rfl hc (by simp only [pureL, pureB, av_pure, Bool.and_self]) rfl ?_
      simp only [run0, run1, run2, run3, run4, run5, run6, run7, run8, run9, run10, run11, run12, run13, run14, run15, run16, run17, run18, run19, run20, run21, run22, reduceCtorEq, Nat.reduceEqDiff, Nat.reduceAdd, Nat.reduceSub, Nat.reduceLeDiff, indexAddrA, indexRefA, appendA, strA, Nat.reduceMul, Nat.zero_mul, Nat.reduceMod, Int.reduceEq, Int.reduceLT, Int.reduceLE, Nat.reduceLT, Nat.lt_irrefl, Nat.reduceBEq, tys0, tys1, tys2, tys3, tys4, tys5, tys6, tys7, tys8, tys9, tys10, tys11, tys12, tys13, tys14, tys15, tys16, tys17, tys18, Try.ntmps90, Try.results90, nilV, shA, shL, hel, f2, f3, e5, hdl, eq_self]
      repeat constructor
termination_by a.sz

end Go.Proofs.Ytphmkhaboghagaa
/-
  Ordinals: what is told as an ordinal of its own; degrees; powers.
-/
namespace Go.Proofs.Ytphmkhaboghagaa
open Go K Od
set_option linter.unusedSimpArgs false
set_option linter.unusedVariables false
set_option maxHeartbeats 400000

theorem Own.shape {M : List AObj} {a : Od} {x : AV} (h : Own M a x) : okT x = true ∧ M.all okSO = true ∧ x.cells = [x] := by
  obtain ⟨S, h1, h2, h3⟩ := h
  exact ⟨h1.form.1, h3, h1.form.2.1⟩
theorem Own.nil : Own [] .nil nilV := ⟨[], .inl ⟨rfl, rfl, rfl⟩, List.nodup_nil, rfl⟩

/-- The end of a function that gives a tree of its own, got by one call that gave one. -/
theorem Own.end {M L1 : List AObj} {a : Od} {x : AV} {k : Nat} (hg : ∀ id, L1[id + k]? = (M[id]?).map (shO k)) {S : List Nat} (h : OwnR M 88 2 a x S) (hn : S.Nodup) : Own (keepS (S.map (· + k)) L1) a (shA k x) :=
  ⟨S.map (· + k), (OwnR.sh hg h).keep fun _ h => h, nodup_add k hn, keepS_okSO _ _⟩
theorem okT_sh {L : List AObj} {a : Od} {x : AV} {k : Nat} {S : List Nat} {T : TypeId} {z : Nat} (h : OwnR L T z a x S) : okT (shA k x) = true := by
  rcases h.shape with rfl | ⟨id, g, n, rfl⟩ <;> rfl

theorem told_ok (a : Od) (hs : a.sz ≤ 1048576) : ∃ x M, Ct Try.prog 52 [av a] [] (.tup [.agg [x], .bool (goodT a)]) M ∧ Own M (if goodT a then a else .nil) x := by
  cases hg : goodT a
  · refine ⟨nilV, ?_⟩
    apply ex1
    · apply Ct.by_ hmix [] Try.func52 rfl
      simp only [run0, run1, run2, run3, run4, run5, run6, run7, run8, run9, run10, run11, run12, run13, run14, run15, run16, run17, run18, run19, run20, run21, run22, reduceCtorEq, Nat.reduceEqDiff, Nat.reduceAdd, Nat.reduceSub, Nat.reduceLeDiff, indexAddrA, indexRefA, appendA, strA, Nat.reduceMul, Nat.zero_mul, Nat.reduceMod, Int.reduceEq, Int.reduceLT, Int.reduceLE, Nat.reduceLT, Nat.lt_irrefl, Nat.reduceBEq, tys0, tys1, tys2, tys3, tys4, tys5, tys6, tys7, tys8, tys9, tys10, tys11, tys12, tys13, tys14, tys15, tys16, tys17, tys18, Try.ntmps52, Try.results52, av]
      refine RunL.callp rfl rfl ok_f63 (IsOrdinal_ok a hs) (by first | rfl | simp only [pureL, pureB, Bool.and_self, Bool.and_true, Bool.true_and, Od.elems_pure, Od.pay_pure, Od.av_pure]) rfl ?_
      simp only [run0, run1, run2, run3, run4, run5, run6, run7, run8, run9, run10, run11, run12, run13, run14, run15, run16, run17, run18, run19, run20, run21, run22, reduceCtorEq, Nat.reduceEqDiff, Nat.reduceAdd, Nat.reduceSub, Nat.reduceLeDiff, indexAddrA, indexRefA, appendA, strA, Nat.reduceMul, Nat.zero_mul, Nat.reduceMod, Int.reduceEq, Int.reduceLT, Int.reduceLE, Nat.reduceLT, Nat.lt_irrefl, Nat.reduceBEq, tys0, tys1, tys2, tys3, tys4, tys5, tys6, tys7, tys8, tys9, tys10, tys11, tys12, tys13, tys14, tys15, tys16, tys17, tys18, Try.ntmps52, Try.results52, hg]
      exact Fin.keep [] rfl rfl
    · exact ⟨[], .inl ⟨rfl, rfl, rfl⟩, List.nodup_nil, keepS_okSO _ _⟩
  · obtain ⟨x, M, hc, S, ho, hn, hM⟩ := cloneS_ok a hs
    refine ⟨shA 2 x, ?_⟩
    apply ex1
    · apply Ct.by_ hmix [] Try.func52 rfl
      simp only [run0, run1, run2, run3, run4, run5, run6, run7, run8, run9, run10, run11, run12, run13, run14, run15, run16, run17, run18, run19, run20, run21, run22, reduceCtorEq, Nat.reduceEqDiff, Nat.reduceAdd, Nat.reduceSub, Nat.reduceLeDiff, indexAddrA, indexRefA, appendA, strA, Nat.reduceMul, Nat.zero_mul, Nat.reduceMod, Int.reduceEq, Int.reduceLT, Int.reduceLE, Nat.reduceLT, Nat.lt_irrefl, Nat.reduceBEq, tys0, tys1, tys2, tys3, tys4, tys5, tys6, tys7, tys8, tys9, tys10, tys11, tys12, tys13, tys14, tys15, tys16, tys17, tys18, Try.ntmps52, Try.results52, av]
      refine RunL.callp rfl rfl ok_f63 (IsOrdinal_ok a hs) (by first | rfl | simp only [pureL, pureB, Bool.and_self, Bool.and_true, Bool.true_and, Od.elems_pure, Od.pay_pure, Od.av_pure]) rfl ?_
      simp only [run0, run1, run2, run3, run4, run5, run6, run7, run8, run9, run10, run11, run12, run13, run14, run15, run16, run17, run18, run19, run20, run21, run22, reduceCtorEq, Nat.reduceEqDiff, Nat.reduceAdd, Nat.reduceSub, Nat.reduceLeDiff, indexAddrA, indexRefA, appendA, strA, Nat.reduceMul, Nat.zero_mul, Nat.reduceMod, Int.reduceEq, Int.reduceLT, Int.reduceLE, Nat.reduceLT, Nat.lt_irrefl, Nat.reduceBEq, tys0, tys1, tys2, tys3, tys4, tys5, tys6, tys7, tys8, tys9, tys10, tys11, tys12, tys13, tys14, tys15, tys16, tys17, tys18, Try.ntmps52, Try.results52, hg]
      refine RunL.callgp rfl rfl ok_f91 rfl hc (by simp only [pureL, pureB, av_pure, Bool.and_self]) rfl ?_
      simp only [run0, run1, run2, run3, run4, run5, run6, run7, run8, run9, run10, run11, run12, run13, run14, run15, run16, run17, run18, run19, run20, run21, run22, reduceCtorEq, Nat.reduceEqDiff, Nat.reduceAdd, Nat.reduceSub, Nat.reduceLeDiff, indexAddrA, indexRefA, appendA, strA, Nat.reduceMul, Nat.zero_mul, Nat.reduceMod, Int.reduceEq, Int.reduceLT, Int.reduceLE, Nat.reduceLT, Nat.lt_irrefl, Nat.reduceBEq, tys0, tys1, tys2, tys3, tys4, tys5, tys6, tys7, tys8, tys9, tys10, tys11, tys12, tys13, tys14, tys15, tys16, tys17, tys18, Try.ntmps52, Try.results52, shA, shL]
      exact Fin.keep (S.map (· + 2)) (by simp [okT, okTL, okT_sh ho]) rfl
    · exact Own.end (k := 2) (fun id => by simp) ho hn
theorem odIf_ok (a : Od) (hs : a.sz ≤ 1048576) : Ct Try.prog 48 [av a] [] (.tup [av (if goodT a then a else .nil), .bool (goodT a)]) [] := by
  refine Ct.by_ hmix [] Try.func48 rfl ?_
  simp only [run0, run1, run2, run3, run4, run5, run6, run7, run8, run9, run10, run11, run12, run13, run14, run15, run16, run17, run18, run19, run20, run21, run22, reduceCtorEq, Nat.reduceEqDiff, Nat.reduceAdd, Nat.reduceSub, Nat.reduceLeDiff, indexAddrA, indexRefA, appendA, strA, Nat.reduceMul, Nat.zero_mul, Nat.reduceMod, Int.reduceEq, Int.reduceLT, Int.reduceLE, Nat.reduceLT, Nat.lt_irrefl, Nat.reduceBEq, tys0, tys1, tys2, tys3, tys4, tys5, tys6, tys7, tys8, tys9, tys10, tys11, tys12, tys13, tys14, tys15, tys16, tys17, tys18, Try.ntmps48, Try.results48, av]
  refine RunL.callp rfl rfl ok_f58 (odGood_ok a hs) (by first | rfl | simp only [pureL, pureB, Bool.and_self, Bool.and_true, Bool.true_and, Od.elems_pure, Od.pay_pure, Od.av_pure]) rfl ?_
  cases hg : goodT a
  · simp only [run0, run1, run2, run3, run4, run5, run6, run7, run8, run9, run10, run11, run12, run13, run14, run15, run16, run17, run18, run19, run20, run21, run22, reduceCtorEq, Nat.reduceEqDiff, Nat.reduceAdd, Nat.reduceSub, Nat.reduceLeDiff, indexAddrA, indexRefA, appendA, strA, Nat.reduceMul, Nat.zero_mul, Nat.reduceMod, Int.reduceEq, Int.reduceLT, Int.reduceLE, Nat.reduceLT, Nat.lt_irrefl, Nat.reduceBEq, tys0, tys1, tys2, tys3, tys4, tys5, tys6, tys7, tys8, tys9, tys10, tys11, tys12, tys13, tys14, tys15, tys16, tys17, tys18, Try.ntmps48, Try.results48]
    exact Fin.value (Vw.tup (.cons (Vw.agg (.cons (Vw.nil false) .nil)) (.cons (Vw.pur (Pur.bool _)) .nil)))
  · obtain ⟨x, M, hc, S, ho, hn, hM⟩ := ownS_ok a hs
    have hv : Ct Try.prog 90 [av a] [] (av a) [] := hc.toV (Vw.agg (.cons (ho.view false) .nil))
    simp only [run0, run1, run2, run3, run4, run5, run6, run7, run8, run9, run10, run11, run12, run13, run14, run15, run16, run17, run18, run19, run20, run21, run22, reduceCtorEq, Nat.reduceEqDiff, Nat.reduceAdd, Nat.reduceSub, Nat.reduceLeDiff, indexAddrA, indexRefA, appendA, strA, Nat.reduceMul, Nat.zero_mul, Nat.reduceMod, Int.reduceEq, Int.reduceLT, Int.reduceLE, Nat.reduceLT, Nat.lt_irrefl, Nat.reduceBEq, tys0, tys1, tys2, tys3, tys4, tys5, tys6, tys7, tys8, tys9, tys10, tys11, tys12, tys13, tys14, tys15, tys16, tys17, tys18, Try.ntmps48, Try.results48]
    refine RunL.callp rfl rfl ok_f90 (hv) (by first | rfl | simp only [pureL, pureB, Bool.and_self, Bool.and_true, Bool.true_and, Od.elems_pure, Od.pay_pure, Od.av_pure]) rfl ?_
    simp only [run0, run1, run2, run3, run4, run5, run6, run7, run8, run9, run10, run11, run12, run13, run14, run15, run16, run17, run18, run19, run20, run21, run22, reduceCtorEq, Nat.reduceEqDiff, Nat.reduceAdd, Nat.reduceSub, Nat.reduceLeDiff, indexAddrA, indexRefA, appendA, strA, Nat.reduceMul, Nat.zero_mul, Nat.reduceMod, Int.reduceEq, Int.reduceLT, Int.reduceLE, Nat.reduceLT, Nat.lt_irrefl, Nat.reduceBEq, tys0, tys1, tys2, tys3, tys4, tys5, tys6, tys7, tys8, tys9, tys10, tys11, tys12, tys13, tys14, tys15, tys16, tys17, tys18, Try.ntmps48, Try.results48, av]
    exact Fin.eq rfl (by simp only [pureB, pureL, elems_pure, Bool.and_self])

/-! ### degrees -/
def degT : Od → Od
  | .nil => .nil
  | .cons e _ _ => e
def degOk (a : Od) : Bool := goodT a && !isZ a
def degR (a : Od) : Od := if degOk a then degT a else .nil
theorem degT_sz (a : Od) : (degT a).sz ≤ a.sz := by cases a <;> simp [degT, sz]; omega

theorem degR_sz (a : Od) (h : a.sz ≤ 1048576) : (degR a).sz ≤ 1048576 := by
  have := degT_sz a
  unfold degR
  split
  · omega
  · simp [sz]
end Go.Proofs.Ytphmkhaboghagaa
/-
  Hereditary forms of numbers: the plain word for both, and how both are made.
-/
namespace Go.Proofs.Ytphmkhaboghagaa
open Go K Od
set_option linter.unusedSimpArgs false
set_option linter.unusedVariables false
set_option maxHeartbeats 1600000
set_option maxRecDepth 8000

theorem setXn {α : Type} (X ys : List α) (n : Nat) (y : α) : (X ++ ys).set (X.length + n) y = X ++ ys.set n y := by rw [List.set_append_right _ _ (by omega)]; congr 2; omega

/-- The digits of a number, the least first; the first number is fuel. -/
def digs (b : Nat) : Nat → Nat → List Nat
  | 0, _ => []
  | f + 1, n => if n = 0 then [] else n % b :: digs b f (n / b)
theorem digs_len (b : Nat) : ∀ f n, (digs b f n).length ≤ f
  | 0, n => by simp [digs]
  | f + 1, n => by
    unfold digs
    split
    · simp
    · have := digs_len b f (n / b); simp; omega
theorem div_lt {b n : Nat} (hb : 2 ≤ b) (hn : n ≠ 0) : n / b < n := Nat.div_lt_self (by omega) (by omega)
theorem digs_fuel {b : Nat} (hb : 2 ≤ b) : ∀ (f g n : Nat), n ≤ f → n ≤ g → digs b f n = digs b g n
  | 0, 0, n, _, _ => rfl
  | 0, g + 1, n, h, _ => by have : n = 0 := by omega
                            subst this; simp [digs]
  | f + 1, 0, n, _, h => by have : n = 0 := by omega
                            subst this; simp [digs]
  | f + 1, g + 1, n, h1, h2 => by
    unfold digs
    split
    · rfl
    · rename_i hn
      have := div_lt hb hn
      rw [digs_fuel hb f g (n / b) (by omega) (by omega)]
def dg (b n : Nat) : List Nat := digs b n n
theorem dg_zero (b : Nat) : dg b 0 = [] := rfl
theorem dg_pos {b n : Nat} (hb : 2 ≤ b) (hn : 0 < n) : dg b n = n % b :: dg b (n / b) := by
  obtain ⟨m, rfl⟩ : ∃ m, n = m + 1 := ⟨n - 1, by omega⟩
  have := div_lt hb (n := m + 1) (by omega)
  unfold dg
  rw [digs, if_neg (by omega), digs_fuel hb m ((m + 1) / b) _ (by omega) (by omega)]
theorem dg_len (b n : Nat) : (dg b n).length ≤ n := digs_len b n n
theorem dg_lt {b : Nat} (hb : 2 ≤ b) : ∀ f n, ∀ d ∈ digs b f n, d < b
  | 0, n, d, h => by simp [digs] at h
  | f + 1, n, d, h => by
    unfold digs at h
    split at h
    · simp at h
    · rcases List.mem_cons.1 h with rfl | h
      · exact Nat.mod_lt _ (by omega)
      · exact dg_lt hb f _ d h

/-- The terms of digits from the e-th on, ahead of 'acc'. -/
def herL (rec : Nat → Od) : List Nat → Nat → Od → Od
  | [], _, acc => acc
  | d :: ds, e, acc => herL rec ds (e + 1) (if d = 0 then acc else .cons (rec e) d acc)
/-- The hereditary form; the first number is fuel. -/
def her (b : Nat) : Nat → Nat → Od
  | 0, _ => .nil
  | f + 1, n => herL (her b f) (dg b n) 0 .nil
theorem her_succ (b f n : Nat) : her b (f + 1) n = herL (her b f) (dg b n) 0 .nil := rfl

theorem herL_app (rec : Nat → Od) : ∀ (ds : List Nat) (e : Nat) (acc : Od), herL rec ds e acc = (herL rec ds e .nil).app acc
  | [], e, acc => rfl
  | d :: ds, e, acc => by
    simp only [herL]
    rw [herL_app rec ds (e + 1) (if d = 0 then acc else _), herL_app rec ds (e + 1) (if d = 0 then .nil else _)]
    split
    · rw [app_nil]
    · rw [app_assoc]; rfl
/-- The terms of the digits from the i-th on. -/
def herQ (rec : Nat → Od) (ds : List Nat) (i : Nat) : Od := herL rec (ds.drop i) i .nil
theorem herQ_end (rec : Nat → Od) (ds : List Nat) : herQ rec ds ds.length = .nil := by simp [herQ, herL]
theorem herQ_step (rec : Nat → Od) (ds : List Nat) {i : Nat} (hi : i < ds.length) : herQ rec ds i = (herQ rec ds (i + 1)).app (if ds[i] = 0 then .nil else .cons (rec i) ds[i] .nil) := by
  unfold herQ
  rw [List.drop_eq_getElem_cons hi]
  simp only [herL]
  rw [herL_app]
theorem herL_len (rec : Nat → Od) : ∀ (ds : List Nat) (e : Nat) (acc : Od), (herL rec ds e acc).len ≤ ds.length + acc.len
  | [], e, acc => by simp [herL]
  | d :: ds, e, acc => by
    by_cases hd : d = 0
    · have := herL_len rec ds (e + 1) acc
      simp only [herL, if_pos hd, List.length_cons]; omega
    · have := herL_len rec ds (e + 1) (.cons (rec e) d acc)
      simp only [len] at this
      simp only [herL, if_neg hd, List.length_cons]; omega
theorem herQ_len (rec : Nat → Od) (ds : List Nat) (i : Nat) : (herQ rec ds i).len ≤ ds.length := by
  have := herL_len rec (ds.drop i) i .nil
  simp only [len, List.length_drop] at this
  unfold herQ; omega

abbrev nats (l : List Nat) : List Int := l.map Int.ofNat
theorem nats_get (l : List Nat) (i : Nat) (h : i < l.length) : (nats l)[i]?.getD 0 = (l[i] : Int) := by simp [h]

/-! ### slices.Backward -/
theorem back_ok (es : List Int) : Ct Try.prog 92 [.sl false (ints es)] [] (.fn 119 [.rptr (.agg [.sl false (ints es)]) 0]) [] := by
  refine Ct.by_ hmix [] Try.func92 rfl ?_
  simp only [run0, run1, run2, run3, run4, run5, run6, run7, run8, run9, run10, run11, run12, run13, run14, run15, run16, run17, run18, run19, run20, run21, run22, reduceCtorEq, Nat.reduceEqDiff, Nat.reduceAdd, Nat.reduceSub, Nat.reduceLeDiff, indexAddrA, indexRefA, appendA, strA, Nat.reduceMul, Nat.zero_mul, Nat.reduceMod, Int.reduceEq, Int.reduceLT, Int.reduceLE, Nat.reduceLT, Nat.lt_irrefl, Nat.reduceBEq, tys0, tys1, tys2, tys3, tys4, tys5, tys6, tys7, tys8, tys9, tys10, tys11, tys12, tys13, tys14, tys15, tys16, tys17, tys18, Try.ntmps92, Try.results92]
  exact Fin.value (Vw.fn (.cons (Vw.ptr rfl (by simp only [pureL, pureB, ints_pure, Bool.and_self])) .nil))

theorem backI_ok (es : List Int) (hes : es.length ≤ 1048576) (l : Nat) (r : Loop) (ts : List AV) (Ls : Nat → List AObj)
    (h : ∀ k, k < es.length → YC Try.prog l r ts [.int .i64 ((es.length - 1 - k : Nat) : Int), .int .i64 (es[es.length - 1 - k]?.getD 0)] (Ls k) (Ls (k + 1))) :
    Ct Try.prog 119 [.yld l r ts, .rptr (.agg [.sl false (ints es)]) 0] (Ls 0) (.tup []) (Ls es.length) := by
  refine Ct.by_ hmix [] Try.func119 rfl ?_
  have w0 : IntKind.i64.wrap ((es.length : Int) - 1) = (es.length : Int) - 1 - ((0 : Nat) : Int) := by rw [w64_id (by omega) (by omega)]; omega
  simp only [run0, run1, run2, run3, run4, run5, run6, run7, run8, run9, run10, run11, run12, run13, run14, run15, run16, run17, run18, run19, run20, run21, run22, reduceCtorEq, Nat.reduceEqDiff, Nat.reduceAdd, Nat.reduceSub, Nat.reduceLeDiff, indexAddrA, indexRefA, appendA, strA, Nat.reduceMul, Nat.zero_mul, Nat.reduceMod, Int.reduceEq, Int.reduceLT, Int.reduceLE, Nat.reduceLT, Nat.lt_irrefl, Nat.reduceBEq, tys0, tys1, tys2, tys3, tys4, tys5, tys6, tys7, tys8, tys9, tys10, tys11, tys12, tys13, tys14, tys15, tys16, tys17, tys18, Try.ntmps119, Try.results119, w0]
  refine AWp.loop_inv (ι := Nat) (fun k => ⟨[.yld l r ts, .rptr (.agg [.sl false (ints es)]) 0, .junk, .int .i64 ((es.length : Int) - 1 - (k : Int)), .junk, .junk, .junk, .junk, .junk, .junk, .junk, .junk, .junk, .junk, .junk, .junk, .junk, .junk, .junk], Ls k⟩)
    (fun k => k ≤ es.length) (fun k => es.length - k) 0 (Nat.zero_le _) ⟨by repeat constructor, rfl⟩ ?_
  intro k hk
  refine W.sound hmix (E := []) ?_
  by_cases hlt : k < es.length
  · have e1 : (0 : Int) ≤ (es.length : Int) - 1 - (k : Int) := by omega
    have e2 : (es.length : Int) - 1 - (k : Int) = ((es.length - 1 - k : Nat) : Int) := by omega
    have e3 : (ints es)[es.length - 1 - k]? = some (.int .i64 (es[es.length - 1 - k]?.getD 0)) := by
      have : es.length - 1 - k < es.length := by omega
      simp [this]
    have e4 : IntKind.i64.wrap (((es.length - 1 - k : Nat) : Int) - 1) = (es.length : Int) - 1 - ((k + 1 : Nat) : Int) := by rw [w64_id (by omega) (by omega)]; omega
    rw [e2] at e1
    rw [e2]
    simp only [run0, run1, run2, run3, run4, run5, run6, run7, run8, run9, run10, run11, run12, run13, run14, run15, run16, run17, run18, run19, run20, run21, run22, reduceCtorEq, Nat.reduceEqDiff, Nat.reduceAdd, Nat.reduceSub, Nat.reduceLeDiff, indexAddrA, indexRefA, appendA, strA, Nat.reduceMul, Nat.zero_mul, Nat.reduceMod, Int.reduceEq, Int.reduceLT, Int.reduceLE, Nat.reduceLT, Nat.lt_irrefl, Nat.reduceBEq, tys0, tys1, tys2, tys3, tys4, tys5, tys6, tys7, tys8, tys9, tys10, tys11, tys12, tys13, tys14, tys15, tys16, tys17, tys18, Try.ntmps119, Try.results119, e1, e3, Int.toNat_natCast, Int.natCast_nonneg]
    refine RunL.cally rfl rfl rfl rfl (.inl rfl) (h k hlt) ?_
    simp only [run0, run1, run2, run3, run4, run5, run6, run7, run8, run9, run10, run11, run12, run13, run14, run15, run16, run17, run18, run19, run20, run21, run22, reduceCtorEq, Nat.reduceEqDiff, Nat.reduceAdd, Nat.reduceSub, Nat.reduceLeDiff, indexAddrA, indexRefA, appendA, strA, Nat.reduceMul, Nat.zero_mul, Nat.reduceMod, Int.reduceEq, Int.reduceLT, Int.reduceLE, Nat.reduceLT, Nat.lt_irrefl, Nat.reduceBEq, tys0, tys1, tys2, tys3, tys4, tys5, tys6, tys7, tys8, tys9, tys10, tys11, tys12, tys13, tys14, tys15, tys16, tys17, tys18, Try.ntmps119, Try.results119, e4]
    exact ⟨k + 1, by omega, by omega, by repeat constructor, rfl⟩
  · have hk2 : k = es.length := by omega
    subst hk2
    have e1 : ¬ ((0 : Int) ≤ (es.length : Int) - 1 - (es.length : Int)) := by omega
    simp only [run0, run1, run2, run3, run4, run5, run6, run7, run8, run9, run10, run11, run12, run13, run14, run15, run16, run17, run18, run19, run20, run21, run22, reduceCtorEq, Nat.reduceEqDiff, Nat.reduceAdd, Nat.reduceSub, Nat.reduceLeDiff, indexAddrA, indexRefA, appendA, strA, Nat.reduceMul, Nat.zero_mul, Nat.reduceMod, Int.reduceEq, Int.reduceLT, Int.reduceLE, Nat.reduceLT, Nat.lt_irrefl, Nat.reduceBEq, tys0, tys1, tys2, tys3, tys4, tys5, tys6, tys7, tys8, tys9, tys10, tys11, tys12, tys13, tys14, tys15, tys16, tys17, tys18, Try.ntmps119, Try.results119, e1]
    exact Fin.own rfl rfl

end Go.Proofs.Ytphmkhaboghagaa
/-
  Hereditary forms of numbers: impl.hereditary, spec.deForm.
-/
namespace Go.Proofs.Ytphmkhaboghagaa
open Go K Od
set_option linter.unusedSimpArgs false
set_option linter.unusedVariables false
set_option maxHeartbeats 1600000
set_option maxRecDepth 8000

theorem VwF_ints {L : List AObj} {id g n : Nat} {T : TypeId} {l : List Int} (hL : L[id]? = some (.vec T 1 g (ints l))) (hn : n = l.length) : VwF id L (.ref id [] g n) (.sl false (ints l)) := by
  have := VwF.ref (o := false) (n := n) hL (by rw [hn]; simp) (fun e he c hc => by
    obtain ⟨x, _, rfl⟩ := List.mem_map.1 he
    simp only [AV.cells, List.mem_singleton] at hc
    subst hc
    exact ⟨Pur.int _ _, fun xs h => by cases h⟩)
  rwa [List.take_of_length_le (by rw [hn]; simp)] at this

theorem end_get (a : Od) (y : AV) : (elems a ++ [y])[a.len]? = some y := by rw [List.getElem?_append_right (by rw [elems_length]; exact Nat.le_refl _), elems_length, Nat.sub_self]; rfl
theorem end_set (a : Od) (y z : AV) : (elems a ++ [y]).set a.len z = elems a ++ [z] := by rw [List.set_append_right _ _ (by rw [elems_length]; exact Nat.le_refl _), elems_length, Nat.sub_self]; rfl
theorem end_noOwn (a : Od) : noOwn (elems a ++ [.agg [.lit (.slice none 0 0), .int .i64 0]]) = true := by
  have := elems_noOwn a
  simp only [noOwn, List.all_append, List.all_cons, List.all_nil, Bool.and_true] at this ⊢
  rw [this]; rfl
theorem hereditary_ok (b : Nat) (hb : 2 ≤ b) (hb2 : b ≤ 2000) : ∀ f n : Nat, n ≤ 1000000 → n < f → Ct Try.prog 53 [.int .i64 (n : Int), .int .i64 (b : Int)] [] (av (her b f n)) [] := by
  intro f
  induction f with
  | zero => intro n _ h; omega
  | succ f ih =>
  intro n hn hf
  have hdl := dg_len b n
  have hb0 : ¬ ((b : Int) = 0) := by omega
  refine Ct.by_ hmix [ 1000000 + 9] Try.func53 rfl ?_
  simp only [run0, run1, run2, run3, run4, run5, run6, run7, run8, run9, run10, run11, run12, run13, run14, run15, run16, run17, run18, run19, run20, run21, run22, reduceCtorEq, Nat.reduceEqDiff, Nat.reduceAdd, Nat.reduceSub, Nat.reduceLeDiff, indexAddrA, indexRefA, appendA, strA, Nat.reduceMul, Nat.zero_mul, Nat.reduceMod, Int.reduceEq, Int.reduceLT, Int.reduceLE, Nat.reduceLT, Nat.lt_irrefl, Nat.reduceBEq, tys0, tys1, tys2, tys3, tys4, tys5, tys6, tys7, tys8, tys9, tys10, tys11, tys12, tys13, tys14, tys15, tys16, tys17, tys18, Try.ntmps53, Try.results53]
  refine AWp.loop_inv (ι := List Nat × Nat) (fun p => ⟨[.int .i64 p.2, .int .i64 b, .junk, .ptr 0 0, .ptr 1 0, .ref 2 [] p.1.length p.1.length, .junk, .junk, .junk, .junk, .junk, .junk, .junk, .junk, .junk, .junk, .junk, .junk, .junk, .junk, .junk, .junk, .junk, .junk, .junk, .junk, .junk, .junk, .junk, .junk, .junk, .junk, .junk, .junk, .junk, .junk, .junk, .junk, .junk, .junk, .junk], [.box 3 [.int .i64 b], .box 24 [nilV], .vec 3 1 p.1.length (ints (nats p.1))]⟩)
    (fun p => dg b n = p.1 ++ dg b p.2 ∧ p.2 ≤ n) (fun p => p.2) ([], n) ⟨rfl, Nat.le_refl _⟩ ⟨by repeat constructor, rfl⟩ ?_
  rintro ⟨ds, m⟩ ⟨hd, hm⟩
  simp only at hd hm
  have hdd : ds.length + (dg b m).length = (dg b n).length := by rw [hd, List.length_append]
  by_cases h0 : m = 0
  · subst h0
    rw [dg_zero, List.append_nil] at hd
    refine W.sound hmix (E := []) ?_
    have e1 : ¬ ((0 : Int) < ((0 : Nat) : Int)) := by omega
    simp only [run0, run1, run2, run3, run4, run5, run6, run7, run8, run9, run10, run11, run12, run13, run14, run15, run16, run17, run18, run19, run20, run21, run22, reduceCtorEq, Nat.reduceEqDiff, Nat.reduceAdd, Nat.reduceSub, Nat.reduceLeDiff, indexAddrA, indexRefA, appendA, strA, Nat.reduceMul, Nat.zero_mul, Nat.reduceMod, Int.reduceEq, Int.reduceLT, Int.reduceLE, Nat.reduceLT, Nat.lt_irrefl, Nat.reduceBEq, tys0, tys1, tys2, tys3, tys4, tys5, tys6, tys7, tys8, tys9, tys10, tys11, tys12, tys13, tys14, tys15, tys16, tys17, tys18, Try.ntmps53, Try.results53, e1]
    refine RunL.give rfl rfl ok_f92 rfl rfl (back_ok (nats ds)) ⟨_, _, _, _, rfl⟩ (.cons (VwF_ints rfl (by simp)) .nil) rfl ?_
    simp only [run0, run1, run2, run3, run4, run5, run6, run7, run8, run9, run10, run11, run12, run13, run14, run15, run16, run17, run18, run19, run20, run21, run22, reduceCtorEq, Nat.reduceEqDiff, Nat.reduceAdd, Nat.reduceSub, Nat.reduceLeDiff, indexAddrA, indexRefA, appendA, strA, Nat.reduceMul, Nat.zero_mul, Nat.reduceMod, Int.reduceEq, Int.reduceLT, Int.reduceLE, Nat.reduceLT, Nat.lt_irrefl, Nat.reduceBEq, tys0, tys1, tys2, tys3, tys4, tys5, tys6, tys7, tys8, tys9, tys10, tys11, tys12, tys13, tys14, tys15, tys16, tys17, tys18, Try.ntmps53, Try.results53]
    refine AWp.nilB 3 0 88 2 rfl rfl ?_
    have hdl2 : ds.length ≤ n := by omega
    have hnl : (nats ds).length = ds.length := by simp
    refine AWp.range (F := 119) (z := .tup []) rfl ok_f119 ⟨by kernel_rfl, by kernel_rfl⟩ ds.length
      (fun k => [.box 3 [.int .i64 b], .box 24 [nilV], .dead, .box 24 [.ref 4 [] (herQ (her b f) ds (ds.length - k)).len (herQ (her b f) ds (ds.length - k)).len], .vec 88 2 (herQ (her b f) ds (ds.length - k)).len (elems (herQ (her b f) ds (ds.length - k)))])
      (fun k => [.int .i64 ((ds.length - 1 - k : Nat) : Int), .int .i64 ((nats ds)[ds.length - 1 - k]?.getD 0)]) ?h0 (fun _ _ => rfl) ?hny ?hnt (fun _ _ => rfl) ?hit ?hround ?hQ
    case h0 => simp only [Nat.sub_zero, herQ_end, len, elems]; rfl
    case hny =>
      intro k _
      simp only [List.all_cons, List.all_nil, noYO, noYL_of (elems_pure _), Bool.and_true]
      rfl
    case hnt =>
      simp only [noYL, noY, noYL_of (ints_pure _), Bool.and_true, Bool.and_self]
    case hit =>
      intro l r ts h
      have := backI_ok (nats ds) (by omega) l r ts
      rw [hnl] at this
      exact this _ h
    case hQ =>
      simp only [run0, run1, run2, run3, run4, run5, run6, run7, run8, run9, run10, run11, run12, run13, run14, run15, run16, run17, run18, run19, run20, run21, run22, reduceCtorEq, Nat.reduceEqDiff, Nat.reduceAdd, Nat.reduceSub, Nat.reduceLeDiff, indexAddrA, indexRefA, appendA, strA, Nat.reduceMul, Nat.zero_mul, Nat.reduceMod, Int.reduceEq, Int.reduceLT, Int.reduceLE, Nat.reduceLT, Nat.lt_irrefl, Nat.reduceBEq, tys0, tys1, tys2, tys3, tys4, tys5, tys6, tys7, tys8, tys9, tys10, tys11, tys12, tys13, tys14, tys15, tys16, tys17, tys18, Try.ntmps53, Try.results53]
      rw [show her b (f + 1) n = herQ (her b f) ds (ds.length - ds.length) by rw [her_succ, hd, Nat.sub_self]; rfl]
      exact Fin.value (Vw.agg (.cons (Vw_elems (T := 88) rfl rfl rfl) .nil))
    case hround =>
      intro k hk
      have hi : ds.length - 1 - k < ds.length := by omega
      have hstep := herQ_step (her b f) ds hi
      rw [show ds.length - 1 - k + 1 = ds.length - k by omega] at hstep
      have hlt : ds[ds.length - 1 - k] < b := dg_lt hb n n _ (by show _ ∈ dg b n; rw [hd]; exact List.getElem_mem hi)
      rw [nats_get ds _ hi]
      refine W.sound hmix (E := []) ?_
      simp only [setP, List.zip_cons_cons, List.zip_nil_left, List.foldl_cons, List.foldl_nil]
      simp only [run0, run1, run2, run3, run4, run5, run6, run7, run8, run9, run10, run11, run12, run13, run14, run15, run16, run17, run18, run19, run20, run21, run22, reduceCtorEq, Nat.reduceEqDiff, Nat.reduceAdd, Nat.reduceSub, Nat.reduceLeDiff, indexAddrA, indexRefA, appendA, strA, Nat.reduceMul, Nat.zero_mul, Nat.reduceMod, Int.reduceEq, Int.reduceLT, Int.reduceLE, Nat.reduceLT, Nat.lt_irrefl, Nat.reduceBEq, tys0, tys1, tys2, tys3, tys4, tys5, tys6, tys7, tys8, tys9, tys10, tys11, tys12, tys13, tys14, tys15, tys16, tys17, tys18, Try.ntmps53, Try.results53]
      refine W.sound hmix (E := [8000002, 1000000 + 32, 1000000 + 39, 5999999, 6000003, 7000000 + 39, 9000000 + 29]) ?_
      rw [show ds.length - (k + 1) = ds.length - 1 - k by omega, hstep]
      have hol := herQ_len (her b f) ds (ds.length - k)
      generalize herQ (her b f) ds (ds.length - k) = o at *
      generalize hD : ds[ds.length - 1 - k] = d at *
      by_cases hd0 : d = 0
      · subst hd0
        have e2 : ¬ ((0 : Int) < ((0 : Nat) : Int)) := by omega
        rw [if_pos rfl, app_nil]
        simp only [run0, run1, run2, run3, run4, run5, run6, run7, run8, run9, run10, run11, run12, run13, run14, run15, run16, run17, run18, run19, run20, run21, run22, reduceCtorEq, Nat.reduceEqDiff, Nat.reduceAdd, Nat.reduceSub, Nat.reduceLeDiff, indexAddrA, indexRefA, appendA, strA, Nat.reduceMul, Nat.zero_mul, Nat.reduceMod, Int.reduceEq, Int.reduceLT, Int.reduceLE, Nat.reduceLT, Nat.lt_irrefl, Nat.reduceBEq, tys0, tys1, tys2, tys3, tys4, tys5, tys6, tys7, tys8, tys9, tys10, tys11, tys12, tys13, tys14, tys15, tys16, tys17, tys18, Try.ntmps53, Try.results53, e2]
      · have e2 : (0 : Int) < (d : Int) := by omega
        have f3 : o.len ≤ 137438953471 := by omega
        have f4 : noOwn (elems o) = true := elems_noOwn o
        have g1 : ((o.len : Nat) : Int) < ((o.len + 1 : Nat) : Int) := by omega
        have hc := ih (ds.length - 1 - k) (by omega) (by omega)
        rw [if_neg hd0]
        simp only [run0, run1, run2, run3, run4, run5, run6, run7, run8, run9, run10, run11, run12, run13, run14, run15, run16, run17, run18, run19, run20, run21, run22, reduceCtorEq, Nat.reduceEqDiff, Nat.reduceAdd, Nat.reduceSub, Nat.reduceLeDiff, indexAddrA, indexRefA, appendA, strA, Nat.reduceMul, Nat.zero_mul, Nat.reduceMod, Int.reduceEq, Int.reduceLT, Int.reduceLE, Nat.reduceLT, Nat.lt_irrefl, Nat.reduceBEq, tys0, tys1, tys2, tys3, tys4, tys5, tys6, tys7, tys8, tys9, tys10, tys11, tys12, tys13, tys14, tys15, tys16, tys17, tys18, Try.ntmps53, Try.results53, e2]
        refine ⟨[0,1,2,3,4,5,6,7,8,9], [10,11,12,13], [10,12,13,11], 11, 13, by kernel_rfl, ?_⟩
        simp only [run0, run1, run2, run3, run4, run5, run6, run7, run8, run9, run10, run11, run12, run13, run14, run15, run16, run17, run18, run19, run20, run21, run22, reduceCtorEq, Nat.reduceEqDiff, Nat.reduceAdd, Nat.reduceSub, Nat.reduceLeDiff, indexAddrA, indexRefA, appendA, strA, Nat.reduceMul, Nat.zero_mul, Nat.reduceMod, Int.reduceEq, Int.reduceLT, Int.reduceLE, Nat.reduceLT, Nat.lt_irrefl, Nat.reduceBEq, tys0, tys1, tys2, tys3, tys4, tys5, tys6, tys7, tys8, tys9, tys10, tys11, tys12, tys13, tys14, tys15, tys16, tys17, tys18, Try.ntmps53, Try.results53]
        refine RunL.loadX (x := .ref 4 [] o.len o.len) rfl rfl ?_ ?_
        · rfl
        simp only [run0, run1, run2, run3, run4, run5, run6, run7, run8, run9, run10, run11, run12, run13, run14, run15, run16, run17, run18, run19, run20, run21, run22, reduceCtorEq, Nat.reduceEqDiff, Nat.reduceAdd, Nat.reduceSub, Nat.reduceLeDiff, indexAddrA, indexRefA, appendA, strA, Nat.reduceMul, Nat.zero_mul, Nat.reduceMod, Int.reduceEq, Int.reduceLT, Int.reduceLE, Nat.reduceLT, Nat.lt_irrefl, Nat.reduceBEq, tys0, tys1, tys2, tys3, tys4, tys5, tys6, tys7, tys8, tys9, tys10, tys11, tys12, tys13, tys14, tys15, tys16, tys17, tys18, Try.ntmps53, Try.results53]
        refine RunL.callp rfl rfl ok_f53 (hc) (by first | rfl | simp only [pureL, pureB, Bool.and_self, Bool.and_true, Bool.true_and, Od.elems_pure, Od.pay_pure, Od.av_pure]) rfl ?_
        simp only [run0, run1, run2, run3, run4, run5, run6, run7, run8, run9, run10, run11, run12, run13, run14, run15, run16, run17, run18, run19, run20, run21, run22, reduceCtorEq, Nat.reduceEqDiff, Nat.reduceAdd, Nat.reduceSub, Nat.reduceLeDiff, indexAddrA, indexRefA, appendA, strA, Nat.reduceMul, Nat.zero_mul, Nat.reduceMod, Int.reduceEq, Int.reduceLT, Int.reduceLE, Nat.reduceLT, Nat.lt_irrefl, Nat.reduceBEq, tys0, tys1, tys2, tys3, tys4, tys5, tys6, tys7, tys8, tys9, tys10, tys11, tys12, tys13, tys14, tys15, tys16, tys17, tys18, Try.ntmps53, Try.results53, av, f3, f4, elems_length, Int.toNat_natCast, Int.natCast_nonneg, len_app, elems_app, elems, pay, len, end_get, end_set, end_noOwn, g1, absG, absA, List.toList_toArray, List.all_cons, List.all_nil, List.map_cons, List.map_nil, Value.oneCell']
  · have e1 : (0 : Int) < (m : Int) := by omega
    have hp := dg_pos hb (n := m) (by omega)
    have hlt := div_lt hb h0
    have e3 : (0 : Int) ≤ (m : Int) := by omega
    have w1 : ((m : Int).tmod (b : Int)) = ((m % b : Nat) : Int) := by rw [Int.tmod_eq_emod_of_nonneg e3]; rfl
    have w2 : ((m : Int).tdiv (b : Int)) = ((m / b : Nat) : Int) := by rw [Int.tdiv_eq_ediv_of_nonneg e3]; rfl
    have w3 : IntKind.i64.wrap (((m / b : Nat) : Int)) = ((m / b : Nat) : Int) := by
      have := Nat.div_le_self m b
      generalize m / b = q at *
      exact w64_id (by omega) (by omega)
    have w4 : IntKind.i64.wrap (((m % b : Nat) : Int)) = ((m % b : Nat) : Int) := by
      have := Nat.mod_lt m (show b > 0 by omega)
      generalize m % b = q at *
      exact w64_id (by omega) (by omega)
    have f3 : ds.length + 1 ≤ 137438953472 := by omega
    have f4 : noOwn (ints (nats ds)) = true := ints_noOwn _
    refine W.sound hmix (E := []) ?_
    simp only [run0, run1, run2, run3, run4, run5, run6, run7, run8, run9, run10, run11, run12, run13, run14, run15, run16, run17, run18, run19, run20, run21, run22, reduceCtorEq, Nat.reduceEqDiff, Nat.reduceAdd, Nat.reduceSub, Nat.reduceLeDiff, indexAddrA, indexRefA, appendA, strA, Nat.reduceMul, Nat.zero_mul, Nat.reduceMod, Int.reduceEq, Int.reduceLT, Int.reduceLE, Nat.reduceLT, Nat.lt_irrefl, Nat.reduceBEq, tys0, tys1, tys2, tys3, tys4, tys5, tys6, tys7, tys8, tys9, tys10, tys11, tys12, tys13, tys14, tys15, tys16, tys17, tys18, Try.ntmps53, Try.results53, e1, hb0, w1, w2, w3, w4, f3, f4, List.length_map]
    exact ⟨(ds ++ [m % b], m / b), ⟨by simp only [List.append_assoc, List.singleton_append]; rw [hd, hp], by simp only; omega⟩, hlt, by simp only [List.length_append, List.length_cons, List.length_nil]; repeat constructor, by simp⟩

end Go.Proofs.Ytphmkhaboghagaa
/-
  Hereditary forms of numbers: spec.deForm.
-/
namespace Go.Proofs.Ytphmkhaboghagaa
open Go K Od
set_option linter.unusedSimpArgs false
set_option linter.unusedVariables false
set_option maxHeartbeats 1600000
set_option maxRecDepth 8000

theorem elemsA (a : Od) : ((elems a).all fun z => z.cells.length == 2) = true := by
  rw [List.all_eq_true]
  intro x hx
  simp [elems_cells a x hx]
structure DfS where
  e : Nat
  m : Nat
  acc : Od
  y : AV
  X : List AObj
/-- Where the terms so far lie. -/
def DfR (acc : Od) (y : AV) (X : List AObj) : Prop := (y = nilV ∧ acc = .nil) ∨ ∃ i g, y = .ref (i + 2) [] g acc.len ∧ X[i]? = some (.vec 88 2 g (elems acc))

theorem deForm_ok (b : Nat) (hb : 2 ≤ b) (hb2 : b ≤ 2000) : ∀ f n : Nat, n ≤ 1000000 → n < f → Ct Try.prog 49 [.int .i64 (n : Int), .int .i64 (b : Int)] [] (av (her b f n)) [] := by
  intro f
  induction f with
  | zero => intro n _ h; omega
  | succ f ih =>
  intro n hn hf
  have hdl := dg_len b n
  have hb0 : ¬ ((b : Int) = 0) := by omega
  refine Ct.by_ hmix [] Try.func49 rfl ?_
  simp only [run0, run1, run2, run3, run4, run5, run6, run7, run8, run9, run10, run11, run12, run13, run14, run15, run16, run17, run18, run19, run20, run21, run22, reduceCtorEq, Nat.reduceEqDiff, Nat.reduceAdd, Nat.reduceSub, Nat.reduceLeDiff, indexAddrA, indexRefA, appendA, strA, Nat.reduceMul, Nat.zero_mul, Nat.reduceMod, Int.reduceEq, Int.reduceLT, Int.reduceLE, Nat.reduceLT, Nat.lt_irrefl, Nat.reduceBEq, tys0, tys1, tys2, tys3, tys4, tys5, tys6, tys7, tys8, tys9, tys10, tys11, tys12, tys13, tys14, tys15, tys16, tys17, tys18, Try.ntmps49, Try.results49]
  refine AWp.loop_inv (ι := DfS) (fun p => ⟨[.int .i64 p.m, .int .i64 b, .junk, .junk, .ptr 0 0, .ptr 1 0, .int .i64 p.e, .junk, .junk, .junk, .junk, .junk, .junk, .junk, .junk, .junk, .junk, .junk, .junk, .junk, .junk, .junk, .junk, .junk, .junk, .junk, .junk, .junk, .junk, .junk, .junk, .junk, .junk, .junk], .box 24 [nilV] :: .box 24 [p.y] :: p.X⟩)
    (fun p => herL (her b f) (dg b p.m) p.e p.acc = her b (f + 1) n ∧ p.m ≤ n ∧ p.e + (dg b p.m).length = (dg b n).length ∧ p.acc.len ≤ p.e ∧ DfR p.acc p.y p.X) (fun p => p.m) ⟨0, n, .nil, nilV, []⟩
    ⟨rfl, Nat.le_refl _, by simp, Nat.le_refl _, .inl ⟨rfl, rfl⟩⟩ ⟨by repeat constructor, rfl⟩ ?_
  rintro ⟨e, m, acc, y, X⟩ ⟨h1, h2, h3, h4, h5⟩
  simp only at h1 h2 h3 h4 h5
  by_cases h0 : m = 0
  · subst h0
    have e1 : ¬ ((0 : Int) < ((0 : Nat) : Int)) := by omega
    rw [dg_zero] at h1
    have h1 : acc = her b (f + 1) n := h1
    refine W.sound hmix (E := []) ?_
    simp only [run0, run1, run2, run3, run4, run5, run6, run7, run8, run9, run10, run11, run12, run13, run14, run15, run16, run17, run18, run19, run20, run21, run22, reduceCtorEq, Nat.reduceEqDiff, Nat.reduceAdd, Nat.reduceSub, Nat.reduceLeDiff, indexAddrA, indexRefA, appendA, strA, Nat.reduceMul, Nat.zero_mul, Nat.reduceMod, Int.reduceEq, Int.reduceLT, Int.reduceLE, Nat.reduceLT, Nat.lt_irrefl, Nat.reduceBEq, tys0, tys1, tys2, tys3, tys4, tys5, tys6, tys7, tys8, tys9, tys10, tys11, tys12, tys13, tys14, tys15, tys16, tys17, tys18, Try.ntmps49, Try.results49, e1]
    rw [← h1]
    rcases h5 with ⟨rfl, rfl⟩ | ⟨i, g, rfl, hX⟩
    · exact Fin.value (Vw.agg (.cons (Vw.nil false) .nil))
    · exact Fin.value (Vw.agg (.cons (Vw_elems (T := 88) (by simpa using hX) rfl rfl) .nil))
  · have e1 : (0 : Int) < (m : Int) := by omega
    have hp := dg_pos hb (n := m) (by omega)
    have hlt := div_lt hb h0
    rw [hp] at h1 h3
    simp only [List.length_cons] at h3
    simp only [herL] at h1
    have e3 : (0 : Int) ≤ (m : Int) := by omega
    have w1 : ((m : Int).tmod (b : Int)) = ((m % b : Nat) : Int) := by rw [Int.tmod_eq_emod_of_nonneg e3]; rfl
    have w2 : ((m : Int).tdiv (b : Int)) = ((m / b : Nat) : Int) := by rw [Int.tdiv_eq_ediv_of_nonneg e3]; rfl
    have w3 : IntKind.i64.wrap (((m / b : Nat) : Int)) = ((m / b : Nat) : Int) := by
      have := Nat.div_le_self m b
      generalize m / b = q at *
      exact w64_id (by omega) (by omega)
    have w4 : IntKind.i64.wrap (((m % b : Nat) : Int)) = ((m % b : Nat) : Int) := by
      have := Nat.mod_lt m (show b > 0 by omega)
      generalize m % b = q at *
      exact w64_id (by omega) (by omega)
    have w5 : IntKind.i64.wrap ((e : Int) + 1) = ((e + 1 : Nat) : Int) := by rw [w64_id (by omega) (by omega)]; omega
    by_cases hd0 : m % b = 0
    · have e2 : ¬ ((0 : Int) < ((m % b : Nat) : Int)) := by omega
      rw [if_pos hd0] at h1
      refine W.sound hmix (E := []) ?_
      simp only [run0, run1, run2, run3, run4, run5, run6, run7, run8, run9, run10, run11, run12, run13, run14, run15, run16, run17, run18, run19, run20, run21, run22, reduceCtorEq, Nat.reduceEqDiff, Nat.reduceAdd, Nat.reduceSub, Nat.reduceLeDiff, indexAddrA, indexRefA, appendA, strA, Nat.reduceMul, Nat.zero_mul, Nat.reduceMod, Int.reduceEq, Int.reduceLT, Int.reduceLE, Nat.reduceLT, Nat.lt_irrefl, Nat.reduceBEq, tys0, tys1, tys2, tys3, tys4, tys5, tys6, tys7, tys8, tys9, tys10, tys11, tys12, tys13, tys14, tys15, tys16, tys17, tys18, Try.ntmps49, Try.results49, e1, e2, hb0, w1, w2, w3, w4, w5]
      exact ⟨⟨e + 1, m / b, acc, y, X⟩, ⟨h1, by simp only; omega, by simp only; omega, by simp only; omega, h5⟩, hlt, by repeat constructor, rfl⟩
    · have e2 : (0 : Int) < ((m % b : Nat) : Int) := by omega
      rw [if_neg hd0] at h1
      have hc := ih e (by omega) (by omega)
      have f3 : 1 + acc.len ≤ 137438953472 := by omega
      refine W.sound hmix (E := [8000000, 1000000 + 25]) ?_
      simp only [run0, run1, run2, run3, run4, run5, run6, run7, run8, run9, run10, run11, run12, run13, run14, run15, run16, run17, run18, run19, run20, run21, run22, reduceCtorEq, Nat.reduceEqDiff, Nat.reduceAdd, Nat.reduceSub, Nat.reduceLeDiff, indexAddrA, indexRefA, appendA, strA, Nat.reduceMul, Nat.zero_mul, Nat.reduceMod, Int.reduceEq, Int.reduceLT, Int.reduceLE, Nat.reduceLT, Nat.lt_irrefl, Nat.reduceBEq, tys0, tys1, tys2, tys3, tys4, tys5, tys6, tys7, tys8, tys9, tys10, tys11, tys12, tys13, tys14, tys15, tys16, tys17, tys18, Try.ntmps49, Try.results49, e1, e2, hb0, w1, w2, w3, w4, w5]
      refine ⟨[0,1,2,3,4,5,6,7,8], by kernel_rfl, ?_⟩
      simp only [run0, run1, run2, run3, run4, run5, run6, run7, run8, run9, run10, run11, run12, run13, run14, run15, run16, run17, run18, run19, run20, run21, run22, reduceCtorEq, Nat.reduceEqDiff, Nat.reduceAdd, Nat.reduceSub, Nat.reduceLeDiff, indexAddrA, indexRefA, appendA, strA, Nat.reduceMul, Nat.zero_mul, Nat.reduceMod, Int.reduceEq, Int.reduceLT, Int.reduceLE, Nat.reduceLT, Nat.lt_irrefl, Nat.reduceBEq, tys0, tys1, tys2, tys3, tys4, tys5, tys6, tys7, tys8, tys9, tys10, tys11, tys12, tys13, tys14, tys15, tys16, tys17, tys18, Try.ntmps49, Try.results49]
      refine RunL.callp rfl rfl ok_f49 (hc) (by first | rfl | simp only [pureL, pureB, Bool.and_self, Bool.and_true, Bool.true_and, Od.elems_pure, Od.pay_pure, Od.av_pure]) rfl ?_
      rcases h5 with ⟨rfl, rfl⟩ | ⟨i, g, rfl, hX⟩
      · simp only [run0, run1, run2, run3, run4, run5, run6, run7, run8, run9, run10, run11, run12, run13, run14, run15, run16, run17, run18, run19, run20, run21, run22, reduceCtorEq, Nat.reduceEqDiff, Nat.reduceAdd, Nat.reduceSub, Nat.reduceLeDiff, indexAddrA, indexRefA, appendA, strA, Nat.reduceMul, Nat.zero_mul, Nat.reduceMod, Int.reduceEq, Int.reduceLT, Int.reduceLE, Nat.reduceLT, Nat.lt_irrefl, Nat.reduceBEq, tys0, tys1, tys2, tys3, tys4, tys5, tys6, tys7, tys8, tys9, tys10, tys11, tys12, tys13, tys14, tys15, tys16, tys17, tys18, Try.ntmps49, Try.results49, av, f3, hb0, w1, w2, w3, w4, w5, nilV]
        refine ⟨⟨e + 1, m / b, .cons (her b f e) (m % b : Nat) .nil, .ref (X.length + 1 + 2) [] 1 1, X ++ [.box 88 [.sl false (elems (her b f e)), .int .i64 (m % b : Nat)], .vec 88 2 1 (elems (.cons (her b f e) (m % b : Nat) .nil))]⟩, ⟨h1, by simp only; omega, by simp only; omega, by simp only [len]; omega, .inr ⟨X.length + 1, 1, rfl, by rw [getX1]; rfl⟩⟩, hlt, by repeat constructor, rfl⟩
      · have hX' : ∀ Y, (X ++ Y)[i]? = some (.vec 88 2 g (elems acc)) := fun Y => by rw [List.getElem?_append_left (List.getElem?_eq_some_iff.1 hX).1]; exact hX
        have f4 : noOwn (elems acc) = true := elems_noOwn acc
        simp only [run0, run1, run2, run3, run4, run5, run6, run7, run8, run9, run10, run11, run12, run13, run14, run15, run16, run17, run18, run19, run20, run21, run22, reduceCtorEq, Nat.reduceEqDiff, Nat.reduceAdd, Nat.reduceSub, Nat.reduceLeDiff, indexAddrA, indexRefA, appendA, strA, Nat.reduceMul, Nat.zero_mul, Nat.reduceMod, Int.reduceEq, Int.reduceLT, Int.reduceLE, Nat.reduceLT, Nat.lt_irrefl, Nat.reduceBEq, tys0, tys1, tys2, tys3, tys4, tys5, tys6, tys7, tys8, tys9, tys10, tys11, tys12, tys13, tys14, tys15, tys16, tys17, tys18, Try.ntmps49, Try.results49, av, f3, f4, hX', hb0, w1, w2, w3, w4, w5, elemsA, elems_length, Nat.le_refl, take_all]
        have hle : (Od.cons (her b f e) (m % b : Nat) acc).len = 1 + acc.len := by simp only [len]; omega
        refine ⟨⟨e + 1, m / b, .cons (her b f e) (m % b : Nat) acc, .ref (X.length + 1 + 2) [] 1 (1 + acc.len), X ++ [.box 88 [.sl false (elems (her b f e)), .int .i64 (m % b : Nat)], .vec 88 2 1 (elems (.cons (her b f e) (m % b : Nat) acc))]⟩, ⟨h1, by simp only; omega, by simp only; omega, by simp only [hle]; omega, .inr ⟨X.length + 1, 1, by rw [hle], by rw [getX1]; rfl⟩⟩, hlt, by repeat constructor, rfl⟩

end Go.Proofs.Ytphmkhaboghagaa
/-
  Hereditary forms of numbers: their sizes, and what the program and the reference answer.
-/
namespace Go.Proofs.Ytphmkhaboghagaa
open Go K Od
set_option linter.unusedSimpArgs false
set_option linter.unusedVariables false
set_option maxHeartbeats 1600000
set_option maxRecDepth 8000

/-- The number of digits. -/
def numD (b : Nat) : List Nat → Nat → Nat
  | [], _ => 0
  | d :: ds, e => d * b ^ e + numD b ds (e + 1)
theorem numD_dg {b : Nat} (hb : 2 ≤ b) : ∀ (k m e : Nat), m ≤ k → numD b (dg b m) e = m * b ^ e
  | 0, m, e, h => by have : m = 0 := by omega
                     subst this; simp [dg_zero, numD]
  | k + 1, m, e, h => by
    by_cases h0 : m = 0
    · subst h0; simp [dg_zero, numD]
    · have := div_lt hb h0
      rw [dg_pos hb (by omega), numD, numD_dg hb k (m / b) (e + 1) (by omega), Nat.pow_succ, Nat.mul_comm (b ^ e) b, ← Nat.mul_assoc, ← Nat.add_mul]
      congr 1
      rw [Nat.mul_comm (m / b) b]
      exact Nat.mod_add_div m b

theorem herL_sz {b : Nat} (hb : 2 ≤ b) (rec : Nat → Od) (hr : ∀ i, (rec i).sz ≤ i) : ∀ (ds : List Nat) (e : Nat) (acc : Od), (herL rec ds e acc).sz ≤ acc.sz + numD b ds e
  | [], e, acc => by simp [herL, numD]
  | d :: ds, e, acc => by
    simp only [herL, numD]
    by_cases hd : d = 0
    · rw [if_pos hd]
      have := herL_sz hb rec hr ds (e + 1) acc
      omega
    · rw [if_neg hd]
      have h1 := herL_sz hb rec hr ds (e + 1) (.cons (rec e) d acc)
      have h2 := hr e
      have h3 : e < b ^ e := Nat.lt_pow_self (by omega)
      have h4 : 1 * b ^ e ≤ d * b ^ e := Nat.mul_le_mul_right _ (by omega)
      simp only [sz] at h1
      omega
theorem her_sz {b : Nat} (hb : 2 ≤ b) : ∀ f n, (her b f n).sz ≤ n
  | 0, n => by simp [her, sz]
  | f + 1, n => by
    have := herL_sz hb (her b f) (her_sz hb f) (dg b n) 0 .nil
    rw [numD_dg hb n n 0 (Nat.le_refl _)] at this
    simp only [sz, Nat.zero_add, Nat.pow_zero, Nat.mul_one] at this
    rw [her_succ]; exact this

/-- The hereditary form of a number. -/
def hoT (n b : Int) : Od := her b.toNat 1000001 n.toNat
def hoIn (n b : Int) : Bool := inB n 0 1000000 && inB b 2 1000
def hoOk (n b : Int) : Bool := hoIn n b && goodT (hoT n b)
def hoR (n b : Int) : Od := if hoOk n b then hoT n b else .nil
theorem hoIn_spec {n b : Int} (h : hoIn n b = true) : ∃ m c : Nat, n = m ∧ b = c ∧ m ≤ 1000000 ∧ 2 ≤ c ∧ c ≤ 1000 := by
  simp only [hoIn, inB, Bool.and_eq_true, decide_eq_true_eq] at h
  exact ⟨n.toNat, b.toNat, by omega, by omega, by omega, by omega, by omega⟩
theorem hoT_sz {m c : Nat} (h1 : m ≤ 1000000) (hc : 2 ≤ c) : (hoT m c).sz ≤ 1000000 := by
  have := her_sz hc 1000001 m
  simp only [hoT, Int.toNat_natCast]; omega
theorem hoR_sz {n b : Int} : (hoR n b).sz ≤ 1000000 := by
  unfold hoR
  split
  · rename_i h
    simp only [hoOk, Bool.and_eq_true] at h
    obtain ⟨m, c, rfl, rfl, h1, h2, _⟩ := hoIn_spec h.1
    exact hoT_sz h1 h2
  · simp [sz]

theorem baseOk_ok (b : Int) : Ct Try.prog 51 [.int .i64 b] [] (.bool (inB b 2 1000)) [] := by
  refine Ct.by_ hmix [] Try.func51 rfl ?_
  simp only [run0, run1, run2, run3, run4, run5, run6, run7, run8, run9, run10, run11, run12, run13, run14, run15, run16, run17, run18, run19, run20, run21, run22, reduceCtorEq, Nat.reduceEqDiff, Nat.reduceAdd, Nat.reduceSub, Nat.reduceLeDiff, indexAddrA, indexRefA, appendA, strA, Nat.reduceMul, Nat.zero_mul, Nat.reduceMod, Int.reduceEq, Int.reduceLT, Int.reduceLE, Nat.reduceLT, Nat.lt_irrefl, Nat.reduceBEq, tys0, tys1, tys2, tys3, tys4, tys5, tys6, tys7, tys8, tys9, tys10, tys11, tys12, tys13, tys14, tys15, tys16, tys17, tys18, Try.ntmps51, Try.results51]
  refine RunL.callp rfl rfl ok_f50 (in_ok b 2 1000) (by first | rfl | simp only [pureL, pureB, Bool.and_self, Bool.and_true, Bool.true_and, Od.elems_pure, Od.pay_pure, Od.av_pure]) rfl ?_
  simp only [run0, run1, run2, run3, run4, run5, run6, run7, run8, run9, run10, run11, run12, run13, run14, run15, run16, run17, run18, run19, run20, run21, run22, reduceCtorEq, Nat.reduceEqDiff, Nat.reduceAdd, Nat.reduceSub, Nat.reduceLeDiff, indexAddrA, indexRefA, appendA, strA, Nat.reduceMul, Nat.zero_mul, Nat.reduceMod, Int.reduceEq, Int.reduceLT, Int.reduceLE, Nat.reduceLT, Nat.lt_irrefl, Nat.reduceBEq, tys0, tys1, tys2, tys3, tys4, tys5, tys6, tys7, tys8, tys9, tys10, tys11, tys12, tys13, tys14, tys15, tys16, tys17, tys18, Try.ntmps51, Try.results51]
  exact Fin.eq rfl rfl
theorem deBase_ok (n b : Int) : Ct Try.prog 47 [.int .i64 n, .int .i64 b] [] (.bool (hoIn n b)) [] := by
  refine Ct.by_ hmix [] Try.func47 rfl ?_
  simp only [run0, run1, run2, run3, run4, run5, run6, run7, run8, run9, run10, run11, run12, run13, run14, run15, run16, run17, run18, run19, run20, run21, run22, reduceCtorEq, Nat.reduceEqDiff, Nat.reduceAdd, Nat.reduceSub, Nat.reduceLeDiff, indexAddrA, indexRefA, appendA, strA, Nat.reduceMul, Nat.zero_mul, Nat.reduceMod, Int.reduceEq, Int.reduceLT, Int.reduceLE, Nat.reduceLT, Nat.lt_irrefl, Nat.reduceBEq, tys0, tys1, tys2, tys3, tys4, tys5, tys6, tys7, tys8, tys9, tys10, tys11, tys12, tys13, tys14, tys15, tys16, tys17, tys18, Try.ntmps47, Try.results47]
  refine RunL.callp rfl rfl ok_f59 (l1In_ok n 0 1000000) (by first | rfl | simp only [pureL, pureB, Bool.and_self, Bool.and_true, Bool.true_and, Od.elems_pure, Od.pay_pure, Od.av_pure]) rfl ?_
  unfold hoIn
  cases h1 : inB n 0 1000000
  · simp only [run0, run1, run2, run3, run4, run5, run6, run7, run8, run9, run10, run11, run12, run13, run14, run15, run16, run17, run18, run19, run20, run21, run22, reduceCtorEq, Nat.reduceEqDiff, Nat.reduceAdd, Nat.reduceSub, Nat.reduceLeDiff, indexAddrA, indexRefA, appendA, strA, Nat.reduceMul, Nat.zero_mul, Nat.reduceMod, Int.reduceEq, Int.reduceLT, Int.reduceLE, Nat.reduceLT, Nat.lt_irrefl, Nat.reduceBEq, tys0, tys1, tys2, tys3, tys4, tys5, tys6, tys7, tys8, tys9, tys10, tys11, tys12, tys13, tys14, tys15, tys16, tys17, tys18, Try.ntmps47, Try.results47, h1]
    exact Fin.eq rfl rfl
  · simp only [run0, run1, run2, run3, run4, run5, run6, run7, run8, run9, run10, run11, run12, run13, run14, run15, run16, run17, run18, run19, run20, run21, run22, reduceCtorEq, Nat.reduceEqDiff, Nat.reduceAdd, Nat.reduceSub, Nat.reduceLeDiff, indexAddrA, indexRefA, appendA, strA, Nat.reduceMul, Nat.zero_mul, Nat.reduceMod, Int.reduceEq, Int.reduceLT, Int.reduceLE, Nat.reduceLT, Nat.lt_irrefl, Nat.reduceBEq, tys0, tys1, tys2, tys3, tys4, tys5, tys6, tys7, tys8, tys9, tys10, tys11, tys12, tys13, tys14, tys15, tys16, tys17, tys18, Try.ntmps47, Try.results47, h1]
    refine RunL.callp rfl rfl ok_f59 (l1In_ok b 2 1000) (by first | rfl | simp only [pureL, pureB, Bool.and_self, Bool.and_true, Bool.true_and, Od.elems_pure, Od.pay_pure, Od.av_pure]) rfl ?_
    simp only [run0, run1, run2, run3, run4, run5, run6, run7, run8, run9, run10, run11, run12, run13, run14, run15, run16, run17, run18, run19, run20, run21, run22, reduceCtorEq, Nat.reduceEqDiff, Nat.reduceAdd, Nat.reduceSub, Nat.reduceLeDiff, indexAddrA, indexRefA, appendA, strA, Nat.reduceMul, Nat.zero_mul, Nat.reduceMod, Int.reduceEq, Int.reduceLT, Int.reduceLE, Nat.reduceLT, Nat.lt_irrefl, Nat.reduceBEq, tys0, tys1, tys2, tys3, tys4, tys5, tys6, tys7, tys8, tys9, tys10, tys11, tys12, tys13, tys14, tys15, tys16, tys17, tys18, Try.ntmps47, Try.results47]
    exact Fin.eq rfl rfl

theorem specHO_ok (n b : Int) : Ct Try.prog 12 [.int .i64 n, .int .i64 b] [] (.tup [av (hoR n b), .bool (hoOk n b)]) [] := by
  refine Ct.by_ hmix [] Try.func12 rfl ?_
  simp only [run0, run1, run2, run3, run4, run5, run6, run7, run8, run9, run10, run11, run12, run13, run14, run15, run16, run17, run18, run19, run20, run21, run22, reduceCtorEq, Nat.reduceEqDiff, Nat.reduceAdd, Nat.reduceSub, Nat.reduceLeDiff, indexAddrA, indexRefA, appendA, strA, Nat.reduceMul, Nat.zero_mul, Nat.reduceMod, Int.reduceEq, Int.reduceLT, Int.reduceLE, Nat.reduceLT, Nat.lt_irrefl, Nat.reduceBEq, tys0, tys1, tys2, tys3, tys4, tys5, tys6, tys7, tys8, tys9, tys10, tys11, tys12, tys13, tys14, tys15, tys16, tys17, tys18, Try.ntmps12, Try.results12]
  refine RunL.callp rfl rfl ok_f47 (deBase_ok n b) (by first | rfl | simp only [pureL, pureB, Bool.and_self, Bool.and_true, Bool.true_and, Od.elems_pure, Od.pay_pure, Od.av_pure]) rfl ?_
  cases h1 : hoIn n b
  · have e2 : hoOk n b = false := by simp [hoOk, h1]
    simp only [run0, run1, run2, run3, run4, run5, run6, run7, run8, run9, run10, run11, run12, run13, run14, run15, run16, run17, run18, run19, run20, run21, run22, reduceCtorEq, Nat.reduceEqDiff, Nat.reduceAdd, Nat.reduceSub, Nat.reduceLeDiff, indexAddrA, indexRefA, appendA, strA, Nat.reduceMul, Nat.zero_mul, Nat.reduceMod, Int.reduceEq, Int.reduceLT, Int.reduceLE, Nat.reduceLT, Nat.lt_irrefl, Nat.reduceBEq, tys0, tys1, tys2, tys3, tys4, tys5, tys6, tys7, tys8, tys9, tys10, tys11, tys12, tys13, tys14, tys15, tys16, tys17, tys18, Try.ntmps12, Try.results12, h1]
    rw [show hoR n b = .nil by simp [hoR, e2], e2]
    exact Fin.value (Vw.tup (.cons (Vw.agg (.cons (Vw.nil false) .nil)) (.cons (Vw.pur (Pur.bool _)) .nil)))
  · obtain ⟨m, c, rfl, rfl, q1, q2, q3⟩ := hoIn_spec h1
    have hz := hoT_sz q1 q2
    have hc := deForm_ok c q2 (by omega) 1000001 m q1 (by omega)
    have hT : her c 1000001 m = hoT m c := rfl
    rw [hT] at hc
    have e2 : hoOk m c = goodT (hoT m c) := by simp [hoOk, h1]
    simp only [run0, run1, run2, run3, run4, run5, run6, run7, run8, run9, run10, run11, run12, run13, run14, run15, run16, run17, run18, run19, run20, run21, run22, reduceCtorEq, Nat.reduceEqDiff, Nat.reduceAdd, Nat.reduceSub, Nat.reduceLeDiff, indexAddrA, indexRefA, appendA, strA, Nat.reduceMul, Nat.zero_mul, Nat.reduceMod, Int.reduceEq, Int.reduceLT, Int.reduceLE, Nat.reduceLT, Nat.lt_irrefl, Nat.reduceBEq, tys0, tys1, tys2, tys3, tys4, tys5, tys6, tys7, tys8, tys9, tys10, tys11, tys12, tys13, tys14, tys15, tys16, tys17, tys18, Try.ntmps12, Try.results12, h1]
    refine RunL.callp rfl rfl ok_f49 (hc) (by first | rfl | simp only [pureL, pureB, Bool.and_self, Bool.and_true, Bool.true_and, Od.elems_pure, Od.pay_pure, Od.av_pure]) rfl ?_
    simp only [run0, run1, run2, run3, run4, run5, run6, run7, run8, run9, run10, run11, run12, run13, run14, run15, run16, run17, run18, run19, run20, run21, run22, reduceCtorEq, Nat.reduceEqDiff, Nat.reduceAdd, Nat.reduceSub, Nat.reduceLeDiff, indexAddrA, indexRefA, appendA, strA, Nat.reduceMul, Nat.zero_mul, Nat.reduceMod, Int.reduceEq, Int.reduceLT, Int.reduceLE, Nat.reduceLT, Nat.lt_irrefl, Nat.reduceBEq, tys0, tys1, tys2, tys3, tys4, tys5, tys6, tys7, tys8, tys9, tys10, tys11, tys12, tys13, tys14, tys15, tys16, tys17, tys18, Try.ntmps12, Try.results12]
    refine RunL.callp rfl rfl ok_f48 (odIf_ok (hoT m c) (by omega)) (by first | rfl | simp only [pureL, pureB, Bool.and_self, Bool.and_true, Bool.true_and, Od.elems_pure, Od.pay_pure, Od.av_pure]) rfl ?_
    simp only [run0, run1, run2, run3, run4, run5, run6, run7, run8, run9, run10, run11, run12, run13, run14, run15, run16, run17, run18, run19, run20, run21, run22, reduceCtorEq, Nat.reduceEqDiff, Nat.reduceAdd, Nat.reduceSub, Nat.reduceLeDiff, indexAddrA, indexRefA, appendA, strA, Nat.reduceMul, Nat.zero_mul, Nat.reduceMod, Int.reduceEq, Int.reduceLT, Int.reduceLE, Nat.reduceLT, Nat.lt_irrefl, Nat.reduceBEq, tys0, tys1, tys2, tys3, tys4, tys5, tys6, tys7, tys8, tys9, tys10, tys11, tys12, tys13, tys14, tys15, tys16, tys17, tys18, Try.ntmps12, Try.results12, av]
    rw [show hoR m c = if goodT (hoT m c) then hoT m c else .nil by simp only [hoR, e2], e2]
    exact Fin.eq rfl (by simp only [pureB, pureL, elems_pure, Bool.and_self])

theorem implHO_ok (n b : Int) : ∃ x M, Ct Try.prog 13 [.int .i64 n, .int .i64 b] [] (.tup [.agg [x], .bool (hoOk n b)]) M ∧ Own M (hoR n b) x := by
  cases h0 : inB n 0 1000000
  · have e2 : hoOk n b = false := by simp [hoOk, hoIn, h0]
    rw [show hoR n b = .nil by simp [hoR, e2], e2]
    refine ⟨nilV, ?_⟩
    apply ex1
    · apply Ct.by_ hmix [] Try.func13 rfl
      simp only [run0, run1, run2, run3, run4, run5, run6, run7, run8, run9, run10, run11, run12, run13, run14, run15, run16, run17, run18, run19, run20, run21, run22, reduceCtorEq, Nat.reduceEqDiff, Nat.reduceAdd, Nat.reduceSub, Nat.reduceLeDiff, indexAddrA, indexRefA, appendA, strA, Nat.reduceMul, Nat.zero_mul, Nat.reduceMod, Int.reduceEq, Int.reduceLT, Int.reduceLE, Nat.reduceLT, Nat.lt_irrefl, Nat.reduceBEq, tys0, tys1, tys2, tys3, tys4, tys5, tys6, tys7, tys8, tys9, tys10, tys11, tys12, tys13, tys14, tys15, tys16, tys17, tys18, Try.ntmps13, Try.results13]
      refine RunL.callp rfl rfl ok_f50 (in_ok n 0 1000000) (by first | rfl | simp only [pureL, pureB, Bool.and_self, Bool.and_true, Bool.true_and, Od.elems_pure, Od.pay_pure, Od.av_pure]) rfl ?_
      simp only [run0, run1, run2, run3, run4, run5, run6, run7, run8, run9, run10, run11, run12, run13, run14, run15, run16, run17, run18, run19, run20, run21, run22, reduceCtorEq, Nat.reduceEqDiff, Nat.reduceAdd, Nat.reduceSub, Nat.reduceLeDiff, indexAddrA, indexRefA, appendA, strA, Nat.reduceMul, Nat.zero_mul, Nat.reduceMod, Int.reduceEq, Int.reduceLT, Int.reduceLE, Nat.reduceLT, Nat.lt_irrefl, Nat.reduceBEq, tys0, tys1, tys2, tys3, tys4, tys5, tys6, tys7, tys8, tys9, tys10, tys11, tys12, tys13, tys14, tys15, tys16, tys17, tys18, Try.ntmps13, Try.results13, h0]
      exact Fin.keep [] rfl rfl
    · exact ⟨[], .inl ⟨rfl, rfl, rfl⟩, List.nodup_nil, keepS_okSO _ _⟩
  cases h1 : inB b 2 1000
  · have e2 : hoOk n b = false := by simp [hoOk, hoIn, h1]
    rw [show hoR n b = .nil by simp [hoR, e2], e2]
    refine ⟨nilV, ?_⟩
    apply ex1
    · apply Ct.by_ hmix [] Try.func13 rfl
      simp only [run0, run1, run2, run3, run4, run5, run6, run7, run8, run9, run10, run11, run12, run13, run14, run15, run16, run17, run18, run19, run20, run21, run22, reduceCtorEq, Nat.reduceEqDiff, Nat.reduceAdd, Nat.reduceSub, Nat.reduceLeDiff, indexAddrA, indexRefA, appendA, strA, Nat.reduceMul, Nat.zero_mul, Nat.reduceMod, Int.reduceEq, Int.reduceLT, Int.reduceLE, Nat.reduceLT, Nat.lt_irrefl, Nat.reduceBEq, tys0, tys1, tys2, tys3, tys4, tys5, tys6, tys7, tys8, tys9, tys10, tys11, tys12, tys13, tys14, tys15, tys16, tys17, tys18, Try.ntmps13, Try.results13]
      refine RunL.callp rfl rfl ok_f50 (in_ok n 0 1000000) (by first | rfl | simp only [pureL, pureB, Bool.and_self, Bool.and_true, Bool.true_and, Od.elems_pure, Od.pay_pure, Od.av_pure]) rfl ?_
      simp only [run0, run1, run2, run3, run4, run5, run6, run7, run8, run9, run10, run11, run12, run13, run14, run15, run16, run17, run18, run19, run20, run21, run22, reduceCtorEq, Nat.reduceEqDiff, Nat.reduceAdd, Nat.reduceSub, Nat.reduceLeDiff, indexAddrA, indexRefA, appendA, strA, Nat.reduceMul, Nat.zero_mul, Nat.reduceMod, Int.reduceEq, Int.reduceLT, Int.reduceLE, Nat.reduceLT, Nat.lt_irrefl, Nat.reduceBEq, tys0, tys1, tys2, tys3, tys4, tys5, tys6, tys7, tys8, tys9, tys10, tys11, tys12, tys13, tys14, tys15, tys16, tys17, tys18, Try.ntmps13, Try.results13, h0]
      refine RunL.callp rfl rfl ok_f51 (baseOk_ok b) (by first | rfl | simp only [pureL, pureB, Bool.and_self, Bool.and_true, Bool.true_and, Od.elems_pure, Od.pay_pure, Od.av_pure]) rfl ?_
      simp only [run0, run1, run2, run3, run4, run5, run6, run7, run8, run9, run10, run11, run12, run13, run14, run15, run16, run17, run18, run19, run20, run21, run22, reduceCtorEq, Nat.reduceEqDiff, Nat.reduceAdd, Nat.reduceSub, Nat.reduceLeDiff, indexAddrA, indexRefA, appendA, strA, Nat.reduceMul, Nat.zero_mul, Nat.reduceMod, Int.reduceEq, Int.reduceLT, Int.reduceLE, Nat.reduceLT, Nat.lt_irrefl, Nat.reduceBEq, tys0, tys1, tys2, tys3, tys4, tys5, tys6, tys7, tys8, tys9, tys10, tys11, tys12, tys13, tys14, tys15, tys16, tys17, tys18, Try.ntmps13, Try.results13, h1]
      exact Fin.keep [] rfl rfl
    · exact ⟨[], .inl ⟨rfl, rfl, rfl⟩, List.nodup_nil, keepS_okSO _ _⟩
  have h2 : hoIn n b = true := by simp [hoIn, h0, h1]
  obtain ⟨m, c, rfl, rfl, q1, q2, q3⟩ := hoIn_spec h2
  have hz := hoT_sz q1 q2
  have hc := hereditary_ok c q2 (by omega) 1000001 m q1 (by omega)
  have hT : her c 1000001 m = hoT m c := rfl
  rw [hT] at hc
  have e2 : hoOk m c = goodT (hoT m c) := by simp [hoOk, h2]
  obtain ⟨x, M, ht, S, ho, hn, hM⟩ := told_ok (hoT m c) (by omega)
  rw [show hoR m c = if goodT (hoT m c) then hoT m c else .nil by simp only [hoR, e2], e2]
  refine ⟨shA 1 x, ?_⟩
  apply ex1
  · apply Ct.by_ hmix [] Try.func13 rfl
    simp only [run0, run1, run2, run3, run4, run5, run6, run7, run8, run9, run10, run11, run12, run13, run14, run15, run16, run17, run18, run19, run20, run21, run22, reduceCtorEq, Nat.reduceEqDiff, Nat.reduceAdd, Nat.reduceSub, Nat.reduceLeDiff, indexAddrA, indexRefA, appendA, strA, Nat.reduceMul, Nat.zero_mul, Nat.reduceMod, Int.reduceEq, Int.reduceLT, Int.reduceLE, Nat.reduceLT, Nat.lt_irrefl, Nat.reduceBEq, tys0, tys1, tys2, tys3, tys4, tys5, tys6, tys7, tys8, tys9, tys10, tys11, tys12, tys13, tys14, tys15, tys16, tys17, tys18, Try.ntmps13, Try.results13]
    refine RunL.callp rfl rfl ok_f50 (in_ok (m : Int) 0 1000000) (by first | rfl | simp only [pureL, pureB, Bool.and_self, Bool.and_true, Bool.true_and, Od.elems_pure, Od.pay_pure, Od.av_pure]) rfl ?_
    simp only [run0, run1, run2, run3, run4, run5, run6, run7, run8, run9, run10, run11, run12, run13, run14, run15, run16, run17, run18, run19, run20, run21, run22, reduceCtorEq, Nat.reduceEqDiff, Nat.reduceAdd, Nat.reduceSub, Nat.reduceLeDiff, indexAddrA, indexRefA, appendA, strA, Nat.reduceMul, Nat.zero_mul, Nat.reduceMod, Int.reduceEq, Int.reduceLT, Int.reduceLE, Nat.reduceLT, Nat.lt_irrefl, Nat.reduceBEq, tys0, tys1, tys2, tys3, tys4, tys5, tys6, tys7, tys8, tys9, tys10, tys11, tys12, tys13, tys14, tys15, tys16, tys17, tys18, Try.ntmps13, Try.results13, h0]
    refine RunL.callp rfl rfl ok_f51 (baseOk_ok c) (by first | rfl | simp only [pureL, pureB, Bool.and_self, Bool.and_true, Bool.true_and, Od.elems_pure, Od.pay_pure, Od.av_pure]) rfl ?_
    simp only [run0, run1, run2, run3, run4, run5, run6, run7, run8, run9, run10, run11, run12, run13, run14, run15, run16, run17, run18, run19, run20, run21, run22, reduceCtorEq, Nat.reduceEqDiff, Nat.reduceAdd, Nat.reduceSub, Nat.reduceLeDiff, indexAddrA, indexRefA, appendA, strA, Nat.reduceMul, Nat.zero_mul, Nat.reduceMod, Int.reduceEq, Int.reduceLT, Int.reduceLE, Nat.reduceLT, Nat.lt_irrefl, Nat.reduceBEq, tys0, tys1, tys2, tys3, tys4, tys5, tys6, tys7, tys8, tys9, tys10, tys11, tys12, tys13, tys14, tys15, tys16, tys17, tys18, Try.ntmps13, Try.results13, h1]
    refine RunL.callp rfl rfl ok_f53 (hc) (by first | rfl | simp only [pureL, pureB, Bool.and_self, Bool.and_true, Bool.true_and, Od.elems_pure, Od.pay_pure, Od.av_pure]) rfl ?_
    simp only [run0, run1, run2, run3, run4, run5, run6, run7, run8, run9, run10, run11, run12, run13, run14, run15, run16, run17, run18, run19, run20, run21, run22, reduceCtorEq, Nat.reduceEqDiff, Nat.reduceAdd, Nat.reduceSub, Nat.reduceLeDiff, indexAddrA, indexRefA, appendA, strA, Nat.reduceMul, Nat.zero_mul, Nat.reduceMod, Int.reduceEq, Int.reduceLT, Int.reduceLE, Nat.reduceLT, Nat.lt_irrefl, Nat.reduceBEq, tys0, tys1, tys2, tys3, tys4, tys5, tys6, tys7, tys8, tys9, tys10, tys11, tys12, tys13, tys14, tys15, tys16, tys17, tys18, Try.ntmps13, Try.results13]
    refine RunL.callgp rfl rfl ok_f52 rfl ht (by simp only [pureL, pureB, av_pure, Bool.and_self]) rfl ?_
    simp only [run0, run1, run2, run3, run4, run5, run6, run7, run8, run9, run10, run11, run12, run13, run14, run15, run16, run17, run18, run19, run20, run21, run22, reduceCtorEq, Nat.reduceEqDiff, Nat.reduceAdd, Nat.reduceSub, Nat.reduceLeDiff, indexAddrA, indexRefA, appendA, strA, Nat.reduceMul, Nat.zero_mul, Nat.reduceMod, Int.reduceEq, Int.reduceLT, Int.reduceLE, Nat.reduceLT, Nat.lt_irrefl, Nat.reduceBEq, tys0, tys1, tys2, tys3, tys4, tys5, tys6, tys7, tys8, tys9, tys10, tys11, tys12, tys13, tys14, tys15, tys16, tys17, tys18, Try.ntmps13, Try.results13, shA, shL]
    exact Fin.keep (S.map (· + 1)) (by simp [okT, okTL, okT_sh ho]) rfl
  · exact Own.end (k := 1) (fun id => by simp) ho hn

end Go.Proofs.Ytphmkhaboghagaa
/-
  Hereditary forms of numbers: the law.
-/
namespace Go.Proofs.Ytphmkhaboghagaa
open Go K Od
set_option linter.unusedSimpArgs false
set_option linter.unusedVariables false
set_option maxHeartbeats 1600000
set_option maxRecDepth 8000

theorem vwh1 {L : List AObj} {a : Od} {x : AV} {S : List Nat} (h : OwnR L 88 2 a x S) : Vw L (.agg [x]) (av a) := Vw.agg (.cons (h.view false) .nil)
theorem vwh2 {L : List AObj} {a b : Od} {x : AV} {S : List Nat} (h : OwnR L 88 2 a x S) : VwL L [.agg [x], .agg [.sl false (elems b)]] [av a, av b] :=
  .cons (vwh1 h) (.cons (.pur (.of (by simp only [pureB, pureL, elems_pure, Bool.and_self]))) .nil)
theorem vwh3 {L : List AObj} {a : Od} {k : Int} {x : AV} {S : List Nat} (h : OwnR L 88 2 a x S) : VwL L [.agg [x], .int .i64 k] [av a, .int .i64 k] :=
  .cons (vwh1 h) (.cons (.pur (.int _ _)) .nil)
theorem okS_r {x : AV} {b : Bool} (h : okT x = true) : okS (.tup [.agg [x], .bool b]) = true := by
  simp only [okS, okSL, okT_okS h, Bool.and_self]

theorem FnExactHereditaryOrdinal_ok {a0 a1 : AV} (h0 : IsOf Try.prog 3 a0) (h1 : IsOf Try.prog 3 a1) : Ct Try.prog 3 [a0, a1] [] (.bool true) [] := by
  obtain ⟨_, h0⟩ := h0.one ty_a3
  obtain ⟨n, e, _⟩ := h0.int Try.underlying3
  simp only [List.cons.injEq, and_true] at e
  subst e
  obtain ⟨_, h1⟩ := h1.one ty_a3
  obtain ⟨b, e, _⟩ := h1.int Try.underlying3
  simp only [List.cons.injEq, and_true] at e
  subst e
  have hRs := hoR_sz (n := n) (b := b)
  have hsp := specHO_ok n b
  obtain ⟨g, M1, hi, S1, ho1, hn1, hM1⟩ := implHO_ok n b
  generalize hoR n b = R at *
  generalize hoOk n b = ok at *
  generalize hM1' : M1.map (shO 1) = N1 at *
  have og : ∀ X, OwnR (.box 24 [.sl false (elems R)] :: (N1 ++ X)) 88 2 R (shA 1 g) (S1.map (· + 1)) := fun X =>
    (OwnR.sh (L' := .box 24 [.sl false (elems R)] :: N1) (fun id => by simp [← hM1']) ho1).more X
  have n1 := nodup_add 1 hn1
  generalize hG : shA 1 g = G0 at *
  generalize hS1 : S1.map (· + 1) = T1 at *
  have nbox : ∀ {L : List AObj} {b : Od} {y : AV} {S : List Nat} {id : Nat} {T : TypeId} {cs : List AV}, OwnR L 88 2 b y S → L[id]? = some (.box T cs) → id ∉ S := fun h hb hid => by
    obtain ⟨_, _, h2, _⟩ := h.objs _ hid
    rw [hb] at h2; cases h2
  obtain ⟨L2, hc2, og2, hf2, hl2⟩ := markOrdinal_ok R G0 T1 (.box 24 [.sl false (elems R)] :: (N1 ++ [.box 24 [G0]])) 1 (og _) n1 (by omega) (by omega)
  have keepB2 : ∀ {id : Nat} {T : TypeId} {cs : List AV}, (.box 24 [.sl false (elems R)] :: (N1 ++ [.box 24 [G0]]) : List AObj)[id]? = some (.box T cs) → L2[id]? = some (.box T cs) := fun h => by
    rw [hf2 _ (nbox (og _) h) (List.getElem?_eq_some_iff.1 h).1]; exact h
  have p0 : L2[0]? = some (.box 24 [.sl false (elems R)]) := keepB2 rfl
  have p7 : L2[N1.length + 1]? = some (.box 24 [G0]) := keepB2 (by simp only [List.getElem?_cons_succ, getX0, List.getElem?_cons_zero])
  have r0 : ∀ X, (L2 ++ X)[0]? = some (.box 24 [.sl false (elems R)]) := fun X => by rw [List.getElem?_append_left (List.getElem?_eq_some_iff.1 p0).1]; exact p0
  have r7 : ∀ X, (L2 ++ X)[N1.length + 1]? = some (.box 24 [G0]) := fun X => by rw [List.getElem?_append_left (List.getElem?_eq_some_iff.1 p7).1]; exact p7
  have oh : ∀ X, OwnR (L2 ++ (M1.map (shO L2.length) ++ X)) 88 2 R (shA L2.length g) (S1.map (· + L2.length)) := fun X => by
    rw [← List.append_assoc]; exact (OwnR.sh (more_get L2 M1) ho1).more X
  have e4 : ¬ (1 + (R.sz : Int) < 0) := by omega
  refine Ct.by_ hmix [] Try.func3 rfl ?_
  simp only [run0, run1, run2, run3, run4, run5, run6, run7, run8, run9, run10, run11, run12, run13, run14, run15, run16, run17, run18, run19, run20, run21, run22, reduceCtorEq, Nat.reduceEqDiff, Nat.reduceAdd, Nat.reduceSub, Nat.reduceLeDiff, indexAddrA, indexRefA, appendA, strA, Nat.reduceMul, Nat.zero_mul, Nat.reduceMod, Int.reduceEq, Int.reduceLT, Int.reduceLE, Nat.reduceLT, Nat.lt_irrefl, Nat.reduceBEq, tys0, tys1, tys2, tys3, tys4, tys5, tys6, tys7, tys8, tys9, tys10, tys11, tys12, tys13, tys14, tys15, tys16, tys17, tys18, Try.ntmps3, Try.results3]
  refine RunL.callp rfl rfl ok_f12 (hsp) (by first | rfl | simp only [pureL, pureB, Bool.and_self, Bool.and_true, Bool.true_and, Od.elems_pure, Od.pay_pure, Od.av_pure]) rfl ?_
  simp only [run0, run1, run2, run3, run4, run5, run6, run7, run8, run9, run10, run11, run12, run13, run14, run15, run16, run17, run18, run19, run20, run21, run22, reduceCtorEq, Nat.reduceEqDiff, Nat.reduceAdd, Nat.reduceSub, Nat.reduceLeDiff, indexAddrA, indexRefA, appendA, strA, Nat.reduceMul, Nat.zero_mul, Nat.reduceMod, Int.reduceEq, Int.reduceLT, Int.reduceLE, Nat.reduceLT, Nat.lt_irrefl, Nat.reduceBEq, tys0, tys1, tys2, tys3, tys4, tys5, tys6, tys7, tys8, tys9, tys10, tys11, tys12, tys13, tys14, tys15, tys16, tys17, tys18, Try.ntmps3, Try.results3, av]
  refine RunL.callgp rfl rfl ok_f13 rfl hi (by simp only [pureL, pureB, Bool.and_self]) rfl ?_
  simp only [run0, run1, run2, run3, run4, run5, run6, run7, run8, run9, run10, run11, run12, run13, run14, run15, run16, run17, run18, run19, run20, run21, run22, reduceCtorEq, Nat.reduceEqDiff, Nat.reduceAdd, Nat.reduceSub, Nat.reduceLeDiff, indexAddrA, indexRefA, appendA, strA, Nat.reduceMul, Nat.zero_mul, Nat.reduceMod, Int.reduceEq, Int.reduceLT, Int.reduceLE, Nat.reduceLT, Nat.lt_irrefl, Nat.reduceBEq, tys0, tys1, tys2, tys3, tys4, tys5, tys6, tys7, tys8, tys9, tys10, tys11, tys12, tys13, tys14, tys15, tys16, tys17, tys18, Try.ntmps3, Try.results3, shA, shL, hM1', hG, setXn]
  refine RunL.lendV rfl rfl ok_f14 rfl (eqOrdinal_ok R R (by omega)) (vwh2 (og _)) rfl rfl ?_
  simp only [run0, run1, run2, run3, run4, run5, run6, run7, run8, run9, run10, run11, run12, run13, run14, run15, run16, run17, run18, run19, run20, run21, run22, reduceCtorEq, Nat.reduceEqDiff, Nat.reduceAdd, Nat.reduceSub, Nat.reduceLeDiff, indexAddrA, indexRefA, appendA, strA, Nat.reduceMul, Nat.zero_mul, Nat.reduceMod, Int.reduceEq, Int.reduceLT, Int.reduceLE, Nat.reduceLT, Nat.lt_irrefl, Nat.reduceBEq, tys0, tys1, tys2, tys3, tys4, tys5, tys6, tys7, tys8, tys9, tys10, tys11, tys12, tys13, tys14, tys15, tys16, tys17, tys18, Try.ntmps3, Try.results3, eqT_refl, bne_self_eq_false]
  refine RunL.callM rfl rfl ok_f15 rfl rfl hc2 rfl ?_
  simp only [run0, run1, run2, run3, run4, run5, run6, run7, run8, run9, run10, run11, run12, run13, run14, run15, run16, run17, run18, run19, run20, run21, run22, reduceCtorEq, Nat.reduceEqDiff, Nat.reduceAdd, Nat.reduceSub, Nat.reduceLeDiff, indexAddrA, indexRefA, appendA, strA, Nat.reduceMul, Nat.zero_mul, Nat.reduceMod, Int.reduceEq, Int.reduceLT, Int.reduceLE, Nat.reduceLT, Nat.lt_irrefl, Nat.reduceBEq, tys0, tys1, tys2, tys3, tys4, tys5, tys6, tys7, tys8, tys9, tys10, tys11, tys12, tys13, tys14, tys15, tys16, tys17, tys18, Try.ntmps3, Try.results3, p0, p7]
  refine RunL.lendV rfl rfl ok_f16 rfl (heldOrdinal_ok R 1 (by omega) (by omega)) (vwh3 og2) rfl rfl ?_
  simp only [run0, run1, run2, run3, run4, run5, run6, run7, run8, run9, run10, run11, run12, run13, run14, run15, run16, run17, run18, run19, run20, run21, run22, reduceCtorEq, Nat.reduceEqDiff, Nat.reduceAdd, Nat.reduceSub, Nat.reduceLeDiff, indexAddrA, indexRefA, appendA, strA, Nat.reduceMul, Nat.zero_mul, Nat.reduceMod, Int.reduceEq, Int.reduceLT, Int.reduceLE, Nat.reduceLT, Nat.lt_irrefl, Nat.reduceBEq, tys0, tys1, tys2, tys3, tys4, tys5, tys6, tys7, tys8, tys9, tys10, tys11, tys12, tys13, tys14, tys15, tys16, tys17, tys18, Try.ntmps3, Try.results3, e4, p0, p7, bne_self_eq_false]
  refine RunL.callgp rfl rfl ok_f13 rfl hi (by simp only [pureL, pureB, Bool.and_self]) rfl ?_
  generalize hM2' : M1.map (shO L2.length) = N2 at *
  simp only [run0, run1, run2, run3, run4, run5, run6, run7, run8, run9, run10, run11, run12, run13, run14, run15, run16, run17, run18, run19, run20, run21, run22, reduceCtorEq, Nat.reduceEqDiff, Nat.reduceAdd, Nat.reduceSub, Nat.reduceLeDiff, indexAddrA, indexRefA, appendA, strA, Nat.reduceMul, Nat.zero_mul, Nat.reduceMod, Int.reduceEq, Int.reduceLT, Int.reduceLE, Nat.reduceLT, Nat.lt_irrefl, Nat.reduceBEq, tys0, tys1, tys2, tys3, tys4, tys5, tys6, tys7, tys8, tys9, tys10, tys11, tys12, tys13, tys14, tys15, tys16, tys17, tys18, Try.ntmps3, Try.results3, shA, shL, hM2', r0, r7, setXn]
  refine RunL.lendV rfl rfl ok_f14 rfl (eqOrdinal_ok R R (by omega)) (vwh2 (oh _)) rfl rfl ?_
  simp only [run0, run1, run2, run3, run4, run5, run6, run7, run8, run9, run10, run11, run12, run13, run14, run15, run16, run17, run18, run19, run20, run21, run22, reduceCtorEq, Nat.reduceEqDiff, Nat.reduceAdd, Nat.reduceSub, Nat.reduceLeDiff, indexAddrA, indexRefA, appendA, strA, Nat.reduceMul, Nat.zero_mul, Nat.reduceMod, Int.reduceEq, Int.reduceLT, Int.reduceLE, Nat.reduceLT, Nat.lt_irrefl, Nat.reduceBEq, tys0, tys1, tys2, tys3, tys4, tys5, tys6, tys7, tys8, tys9, tys10, tys11, tys12, tys13, tys14, tys15, tys16, tys17, tys18, Try.ntmps3, Try.results3, eqT_refl, bne_self_eq_false, r0, r7]
  refine RunL.lendV rfl rfl ok_f16 rfl (heldOrdinal_ok R 1 (by omega) (by omega)) (vwh3 (og2.more _)) rfl rfl ?_
  simp only [run0, run1, run2, run3, run4, run5, run6, run7, run8, run9, run10, run11, run12, run13, run14, run15, run16, run17, run18, run19, run20, run21, run22, reduceCtorEq, Nat.reduceEqDiff, Nat.reduceAdd, Nat.reduceSub, Nat.reduceLeDiff, indexAddrA, indexRefA, appendA, strA, Nat.reduceMul, Nat.zero_mul, Nat.reduceMod, Int.reduceEq, Int.reduceLT, Int.reduceLE, Nat.reduceLT, Nat.lt_irrefl, Nat.reduceBEq, tys0, tys1, tys2, tys3, tys4, tys5, tys6, tys7, tys8, tys9, tys10, tys11, tys12, tys13, tys14, tys15, tys16, tys17, tys18, Try.ntmps3, Try.results3, e4, bne_self_eq_false]
  exact Fin.eq rfl rfl

end Go.Proofs.Ytphmkhaboghagaa
