/-
  A logic of values for Go's functions (part 9): control, calls, and what a function's contract says.
-/
import Derived.Test.YtolfjeedgedblaaK8
namespace Go.Proofs.Ytolfjeedgedblaa.K
set_option linter.unusedVariables false
set_option linter.unusedSimpArgs false
open Go Go.RowKit

/-- What the code 'c' does from the state 's'. -/
def AWp (P : Program) (c : Code) (Q : Exit → St → Prop) (s : St) : Prop :=
  ∀ γ a w, Rel γ s a w → c.wp P (fun e a' w' => ∃ γ' s', Rel γ' s' a' w' ∧ Ext γ s.L γ' s'.L ∧ Stp γ w γ' w' ∧ Q e s') a w

def ExThen (next : St → Prop) (Q : Exit → St → Prop) : Exit → St → Prop
  | .normal, s => next s
  | e, s => Q e s

def ExBlock (id : Nat) (Q : Exit → St → Prop) : Exit → St → Prop
  | .exit id', s => if id' = id then Q .normal s else Q (.exit id') s
  | e, s => Q e s

theorem AWp.mono {P : Program} {c : Code} {Q Q' : Exit → St → Prop} {s : St} (h : AWp P c Q s) (hq : ∀ e s, Q e s → Q' e s) : AWp P c Q' s :=
  fun γ a w hr => wp_mono (h γ a w hr) fun e a' w' ⟨γ', s', h1, h2, h3, h4⟩ => ⟨γ', s', h1, h2, h3, hq _ _ h4⟩

theorem AWp.skip {P : Program} {Q : Exit → St → Prop} {s : St} (h : Q .normal s) : AWp P .skip Q s := fun γ a w hr => wp_skip ⟨γ, s, hr, .refl _ _, .refl _ _, h⟩
theorem AWp.ret {P : Program} {Q : Exit → St → Prop} {s : St} (h : Q .ret s) : AWp P .ret Q s := fun γ a w hr => wp_ret ⟨γ, s, hr, .refl _ _, .refl _ _, h⟩
theorem AWp.exit {P : Program} {Q : Exit → St → Prop} {s : St} {id : Nat} (h : Q (.exit id) s) : AWp P (.exit id) Q s := fun γ a w hr => wp_exit ⟨γ, s, hr, .refl _ _, .refl _ _, h⟩

theorem AWp.seq {P : Program} {x y : Code} {Q : Exit → St → Prop} {s : St} (h : AWp P x (ExThen (AWp P y Q) Q) s) : AWp P (.seq x y) Q s := by
  intro γ a w hr
  refine wp_seq (wp_mono (h γ a w hr) ?_)
  rintro e a' w' ⟨γ', s', h1, h2, h3, h4⟩
  cases e with
  | normal => exact wp_mono (h4 γ' a' w' h1) fun e a2 w2 ⟨γ2, s2, k1, k2, k3, k4⟩ => ⟨γ2, s2, k1, h2.trans k2, h3.trans k3, k4⟩
  | _ => exact ⟨γ', s', h1, h2, h3, h4⟩

theorem AWp.cond {P : Program} {c : Operand} {x y : Code} {Q : Exit → St → Prop} {s : St} {b : Bool} (hc : s.ev c = .bool b)
    (ht : b = true → AWp P x Q s) (hf : b = false → AWp P y Q s) : AWp P (.cond c x y) Q s := by
  intro γ a w hr
  have hv := hr.ev c
  rw [hc] at hv
  generalize hcv : a.eval c = v at hv
  cases hv
  cases b with
  | true => exact wp_cond_true hcv (ht rfl γ a w hr)
  | false => exact wp_cond_false hcv (hf rfl γ a w hr)

theorem AWp.block {P : Program} {id : Nat} {c : Code} {Q : Exit → St → Prop} {s : St} (h : AWp P c (ExBlock id Q) s) : AWp P (.block id c) Q s := by
  intro γ a w hr
  refine wp_block (wp_mono (h γ a w hr) ?_)
  rintro e a' w' ⟨γ', s', h1, h2, h3, h4⟩
  cases e with
  | exit id' =>
    simp only [Exit.inBlock, ExBlock] at h4 ⊢
    split
    · rename_i he; rw [if_pos he] at h4; exact ⟨γ', s', h1, h2, h3, h4⟩
    · rename_i he; rw [if_neg he] at h4; exact ⟨γ', s', h1, h2, h3, h4⟩
  | _ => exact ⟨γ', s', h1, h2, h3, h4⟩

def ARounds (P : Program) (c : Code) (Q : Exit → St → Prop) : Nat → St → Prop
  | 0, _ => False
  | n + 1, s => AWp P c (ExThen (ARounds P c Q n) Q) s

theorem AWp.loop {P : Program} {c : Code} {Q : Exit → St → Prop} {s : St} (n : Nat) (h : ARounds P c Q n s) : AWp P (.loop c) Q s := by
  intro γ0 a0 w0 hr0
  refine wp_loop_rounds n ?_
  have key : ∀ n s1 γ a w, Rel γ s1 a w → Ext γ0 s.L γ s1.L → Stp γ0 w0 γ w → ARounds P c Q n s1 →
      Code.rounds P c (fun e a' w' => ∃ γ' s', Rel γ' s' a' w' ∧ Ext γ0 s.L γ' s'.L ∧ Stp γ0 w0 γ' w' ∧ Q e s') n a w := by
    intro n
    induction n with
    | zero => intro s1 γ a w _ _ _ h; exact h.elim
    | succ n ih =>
      intro s1 γ a w hr hE hS h
      refine wp_mono (h γ a w hr) ?_
      rintro e a' w' ⟨γ', s', h1, h2, h3, h4⟩
      cases e with
      | normal => exact ih s' γ' a' w' h1 (hE.trans h2) (hS.trans h3) h4
      | _ => exact ⟨γ', s', h1, hE.trans h2, hS.trans h3, h4⟩
  exact key n s γ0 a0 w0 hr0 (.refl _ _) (.refl _ _) h

theorem rv_undef {γ : Nat → Gh} {L : List AObj} : RV γ L (.tup []) undef := .tup [] #[] rfl (fun i x h => by simp at h)

/-! ### regions in the text's order -/
def guardA (ops : Array Oper) (s : St) (o : Oper) : Option Bool :=
  match o.guard with
  | none => some true
  | some (j, want) =>
    match (ops[j]?).bind (·.dst) with
    | some d => match s.t[d]? with | some (.bool b) => some (b == want) | some (.tup []) => some false | _ => none
    | none => none

theorem guardA_wanted {γ : Nat → Gh} {ops : Array Oper} {s : St} {a : Act} {w : World} {o : Oper} {b : Bool} (hr : Rel γ s a w) (h : guardA ops s o = some b) : Region.wanted o (yielded ops a.tmps) = b := by
  unfold guardA at h
  unfold Region.wanted
  split at h
  · rename_i hg; rw [hg]; exact Option.some.inj h
  · rename_i j want hg
    rw [hg]
    split at h
    · rename_i d hd
      split at h
      · rename_i b' hb
        cases h
        have hv := hr.tmps d _ hb
        generalize hvv : a.tmps.getD d undef = v at hv
        cases hv
        have hy : yielded ops a.tmps j = some b' := by
          unfold yielded
          simp only [hd, Option.bind_some]
          have hlt : d < a.tmps.size := by rw [hr.size]; exact (List.getElem?_eq_some_iff.1 hb).1
          have e : a.tmps[d] = .bool b' := by simpa [Array.getD, hlt] using hvv
          rw [Array.getElem?_eq_getElem hlt, e]
        simp only [hy]
        cases b' <;> cases want <;> rfl
      · rename_i hb
        cases h
        have hv := hr.tmps d _ hb
        generalize hvv : a.tmps.getD d undef = v at hv
        cases hv with
        | tup _ vs hn _ =>
          have hy : yielded ops a.tmps j = none := by
            unfold yielded
            simp only [hd, Option.bind_some]
            have hlt : d < a.tmps.size := by rw [hr.size]; exact (List.getElem?_eq_some_iff.1 hb).1
            have e : a.tmps[d] = .tuple vs := by simpa [Array.getD, hlt] using hvv
            rw [Array.getElem?_eq_getElem hlt, e]
          simp only [hy]
          rfl
      · cases h
    · cases h

/-- What a step hangs on: the slots that it reads; what the call owns, too; it changes what the call owns. -/
inductive Knd where
  | A | B | C | W
  deriving DecidableEq

def Knd.le : Knd → Knd → Bool
  | .A, _ => true
  | .B, .B => true
  | .B, .C => true
  | .C, .C => true
  | .W, .W => true
  | .W, .C => true
  | _, _ => false

/-- Does it change what is owned, or add to it? -/
def Knd.mod : Knd → Bool
  | .C => true
  | .W => true
  | _ => false

/-- Is 'id' a variable that only results go to? (Asked of 'k' by an operation that no code here has.) -/
def isW (k : Oper → Knd) (id : Nat) : Bool :=
  (k { dst := none, op := .ready 3999999, type := 0, pos := "", after := #[], guard := none } == .A) && (k { dst := none, op := .ready (4000000 + id), type := 0, pos := "", after := #[], guard := none } == .A)

/-- A step: its kind, what it lays into its slot, and what the call owns behind it. -/
structure Sd where
  kind : Knd
  x : AV
  L' : List AObj

def Sd.app (d : Sd) (o : Oper) (s : St) : St :=
  match d.kind with
  | .C => { s with L := d.L' }.put o.dst d.x
  | .W => { s with L := d.L' }.put o.dst d.x
  | _ => s.put o.dst d.x

def agree (l : List Tmp) (s s1 : St) : Prop := ∀ t ∈ l, s1.t[t]? = s.t[t]?

/-- Is it a row? -/
def isRow (o : Option AObj) : Prop := ∃ T sz g es, o = some (.vec T sz g es)
/-- Do only such operations change rows that change nothing else? (Asked of 'k' by an operation that no code here has.) -/
def rowsW (k : Oper → Knd) : Bool := k { dst := none, op := .ready 3999998, type := 0, pos := "", after := #[], guard := none } == .A
def SameAt (k : Oper → Knd) (L L0 : List AObj) (i : Nat) : Prop := L0[i]? = L[i]? ∨ (rowsW k = true ∧ isRow L[i]? ∧ isRow L0[i]?)
theorem SameAt.trans {k : Oper → Knd} {L L0 L1 : List AObj} {i : Nat} (h : SameAt k L L0 i) (h2 : SameAt k L0 L1 i) : SameAt k L L1 i := by
  rcases h with h | ⟨a, b, c⟩ <;> rcases h2 with h2 | ⟨d, e, f⟩
  · exact .inl (h2.trans h)
  · exact .inr ⟨d, by rw [← h]; exact e, f⟩
  · exact .inr ⟨a, b, by rw [h2]; exact c⟩
  · exact .inr ⟨a, b, f⟩
/-- What a step may find of what the call owns: a reading step may find more than it was told with, and other contents in variables that only results go to. -/
def Lok (k : Oper → Knd) : Knd → List AObj → List AObj → Prop
  | .A, _, _ => True
  | .B, L, L1 => ∃ L0 X, L1 = L0 ++ X ∧ L0.length = L.length ∧ ∀ i, isW k i = false → SameAt k L L0 i
  | .C, L, L1 => L1 = L
  | .W, L, L1 => L1 = L
theorem Lok.refl {k : Oper → Knd} (q : Knd) (L : List AObj) : Lok k q L L := by
  cases q
  · trivial
  · exact ⟨L, [], by simp, rfl, fun _ _ => .inl rfl⟩
  · rfl
  · rfl
theorem Lok.trans {k : Oper → Knd} {q : Knd} {L L1 L2 : List AObj} (h : Lok k q L L1) (h2 : Lok k q L1 L2) : Lok k q L L2 := by
  cases q
  · trivial
  · obtain ⟨L0, X, rfl, h3, h4⟩ := h
    obtain ⟨M0, Y, rfl, h5, h6⟩ := h2
    refine ⟨M0.take L.length, M0.drop L.length ++ Y, by rw [← List.append_assoc, List.take_append_drop], ?_, fun i hi => ?_⟩
    · rw [List.length_take]; simp at h5; omega
    · by_cases hlt : i < L.length
      · refine (h4 i hi).trans ?_
        have h7 := h6 i hi
        unfold SameAt at h7 ⊢
        rw [List.getElem?_append_left (by omega)] at h7
        rw [List.getElem?_take, if_pos hlt]
        exact h7
      · left
        rw [List.getElem?_eq_none (by simp only [List.length_take]; omega), List.getElem?_eq_none (by omega)]
  · exact Eq.trans h2 h
  · exact Eq.trans h2 h
theorem Lok.of {k : Oper → Knd} {q : Knd} {L L1 : List AObj} (h : q ≠ .A → L1 = L) : Lok k q L L1 := by
  cases q
  · trivial
  · rw [h (by simp)]; exact Lok.refl .B L
  · exact h (by simp)
  · exact h (by simp)
/-- Operations that only add to what is owned; of calls, 'k' tells (asked by an operation that no code here has). -/
def isAlloc (k : Oper → Knd) (o : Oper) : Bool :=
  match o.op with
  | .alloc _ => true
  | .box _ _ => true
  | .buildSlice _ _ _ => true
  | .makeSlice _ _ _ => true
  | .call c => match c.callee with | .value (.func f) => k { o with op := .ready f } == .A | _ => false
  | _ => false

def Valid (P : Program) (k : Oper → Knd) (ops : Array Oper) (o : Oper) (d : Sd) (s : St) : Prop :=
  ((isAlloc k o = true → d.kind = .C → ∃ X, d.L' = s.L ++ X) ∧ (d.kind = .W → ∃ id o', (isW k id = true ∨ (rowsW k = true ∧ isRow s.L[id]? ∧ isRow (some o'))) ∧ d.L' = s.L.set id o')) ∧
  ∀ s1, agree (o.looksAt ops) s s1 → Lok k d.kind s.L s1.L → guardA ops s1 o = some true ∧ OpS P o s1 (d.app o s1)

/-- The operations of a region, in the text's order. -/
inductive RunL (P : Program) (k : Oper → Knd) (ops : Array Oper) : List Oper → St → (St → Prop) → Prop where
  | nil {s : St} {K : St → Prop} (h : K s) : RunL P k ops [] s K
  | op {o : Oper} {rest : List Oper} {s : St} {K : St → Prop} (d : Sd) (hk : d.kind.le (k o) = true) (h : Valid P k ops o d s) (hr : RunL P k ops rest (d.app o s) K) : RunL P k ops (o :: rest) s K
  | off {o : Oper} {rest : List Oper} {s : St} {K : St → Prop} (hg : guardA ops s o = some false) (hr : RunL P k ops rest (s.put o.dst (.tup [])) K) : RunL P k ops (o :: rest) s K

theorem RunL.sound {P : Program} {k : Oper → Knd} {ops : Array Oper} {Q : Exit → St → Prop} {γ0 : Nat → Gh} {L0 : List AObj} {w0 : World} : ∀ (rest : List Oper) (pre : List Oper) (s : St) (γ : Nat → Gh) (a : Act) (w : World),
    ops.toList = pre ++ rest → Rel γ s a w → Ext γ0 L0 γ s.L → Stp γ0 w0 γ w → RunL P k ops rest s (Q .normal) →
    wpOps P ops (fun e a' w' => ∃ γ' s', Rel γ' s' a' w' ∧ Ext γ0 L0 γ' s'.L ∧ Stp γ0 w0 γ' w' ∧ Q e s') (List.range' pre.length rest.length) a w
  | [], pre, s, γ, a, w, hl, hr, hE, hS, h => by
    cases h with
    | nil h => exact ⟨γ, s, hr, hE, hS, h⟩
  | o :: rest, pre, s, γ, a, w, hl, hr, hE, hS, h => by
    have hi : ops[pre.length]? = some o := by
      rw [← Array.getElem?_toList, hl, List.getElem?_append_right (Nat.le_refl _)]; simp
    simp only [List.length_cons, List.range'_succ, wpOps, hi]
    have hl' : ops.toList = (pre ++ [o]) ++ rest := by rw [hl]; simp
    cases h with
    | op d hkk h hk =>
      obtain ⟨hg, h⟩ := h.2 s (fun _ _ => rfl) (Lok.refl _ _)
      rw [guardA_wanted hr hg, if_pos rfl]
      refine .inl (h γ a w _ _ hr fun γ' a' w' hr' hE' hS' => ?_)
      have := RunL.sound rest (pre ++ [o]) _ γ' a' w' hl' hr' (hE.trans hE') (hS.trans hS') hk
      simpa using this
    | off hg hk =>
      rw [guardA_wanted hr hg, if_neg (by decide)]
      have := RunL.sound rest (pre ++ [o]) _ γ (a.put o.dst undef) w hl' (hr.put o.dst rv_undef) (by rw [St.put_L]; exact hE) hS hk
      simpa using this

theorem AWp.region {P : Program} {k : Oper → Knd} {id : Nat} {ops : Array Oper} {Q : Exit → St → Prop} {s : St} (h : RunL P k ops ops.toList s (Q .normal)) : AWp P (.region id ops false) Q s := by
  intro γ a w hr
  refine wp_region ?_
  have := RunL.sound (Q := Q) (γ0 := γ) (L0 := s.L) (w0 := w) ops.toList [] s γ a w rfl hr (.refl _ _) (.refl _ _) h
  rw [List.range_eq_range']
  simpa using this

/-! ### what a step reads -/
theorem agree_ev {ops : Array Oper} {o : Oper} {s s1 : St} (h : agree (o.looksAt ops) s s1) {x : Operand} (hx : x ∈ o.op.operands) : s1.ev x = s.ev x := by
  cases x with
  | tmp t =>
    have : t ∈ o.looksAt ops := by
      unfold Oper.looksAt
      refine List.mem_append_left _ ?_
      simp only [List.mem_filterMap]
      exact ⟨.tmp t, by simpa using hx, rfl⟩
    simp only [St.ev, List.getD_eq_getElem?_getD, h t this]
  | _ => rfl

theorem agree_guard {ops : Array Oper} {o : Oper} {s s1 : St} (h : agree (o.looksAt ops) s s1) : guardA ops s1 o = guardA ops s o := by
  unfold guardA
  split
  · rfl
  · rename_i j want hg
    split
    · rename_i d hd
      have : d ∈ o.looksAt ops := by
        unfold Oper.looksAt
        refine List.mem_append_right _ ?_
        simp [hg, hd]
      rw [h d this]
    · rfl

/-! ### functions -/
def ArgsR (γ : Nat → Gh) (L : List AObj) (args : List AV) (vs : Array Value) : Prop :=
  vs.size = args.length ∧ ∀ (i : Nat) x, args[i]? = some x → RV γ L x (vs.getD i undef)

/-- The contract of a function: called with 'args' in a memory where the call owns 'L', it gives 'r' and leaves 'L''. -/
def Ct (P : Program) (f : FuncId) (args : List AV) (L : List AObj) (r : AV) (L' : List AObj) : Prop :=
  ∀ γ w vs, Inv γ L w → ArgsR γ L args vs →
    Calls P f vs w fun e w' => ∃ γ' v, e = .returned v ∧ Inv γ' L' w' ∧ RV γ' L' r v ∧ Ext γ L γ' L' ∧ Stp γ w γ' w'

/-- Can function 'f' be called by the model's plain call? -/
def okFn (P : Program) (f : FuncId) : Bool :=
  match P.funcs[f]? with
  | some fn => !(fn.name == "runtime.NumGoroutine") && fn.body.isSome
  | none => false

theorem run_callFunc {P : Program} {f : FuncId} (h : okFn P f = true) (vs : Array Value) (w : World) : (callFunc f vs).run P w = .ok (.enter f vs) w := by
  unfold okFn at h
  split at h
  · rename_i fn hfn
    simp only [Bool.and_eq_true, Bool.not_eq_true'] at h
    have hb : fn.body.isNone = false := by cases hbb : fn.body <;> simp_all
    simp only [callFunc, Sem.run_bind, run_program, Result.andThen_ok, hfn, h.1, hb, Bool.false_eq_true, if_false, Sem.run_pure]
  · cases h

theorem call_sound {P : Program} {o : Oper} {s : St} {f : FuncId} {args : Array Operand} {ats : Array TypeId} {r : AV} {L' : List AObj}
    (ho : o.op = .call { callee := .value (.func f), args := args, argTypes := ats }) (hf : okFn P f = true)
    (h : Ct P f (args.toList.map s.ev) s.L r L') : OpS P o s ({ s with L := L' }.put o.dst r) := by
  intro γ a w K Q hr hK
  unfold Oper.wp execOp
  rw [ho]
  have hrun : (do let d ← resolve a.eval { callee := .value (.func f), args := args, argTypes := ats } o.type; invoke d.target d.args : Sem Next).run P w = .ok (.enter f (args.map a.eval)) w := by
    simp [resolve, Deferred.ofValue, Act.eval, invoke, run_callFunc hf]
  simp only [hrun]
  refine (h γ w (args.map a.eval) hr.inv ⟨by simp, fun i x hx => ?_⟩).mono ?_
  · simp only [List.getElem?_map, Option.map_eq_some_iff] at hx
    obtain ⟨y, hy, rfl⟩ := hx
    have hlt := (List.getElem?_eq_some_iff.1 hy).1
    simp at hlt
    have hy' : args[i] = y := by simpa [hlt] using hy
    simp [Array.getD, hlt, hy']
    exact hr.ev y
  · rintro e w' ⟨γ', v, rfl, hI, hv, hE, hS⟩
    exact hK γ' _ w' ((hr.mono hE hI).put o.dst hv) (by rw [St.put_L]; exact hE) hS

/-- A call of a closure. -/
theorem callc_sound {P : Program} {o : Oper} {s : St} {f : FuncId} {cap : List AV} {args : Array Operand} {ats : Array TypeId} {x : Operand} {r : AV} {L' : List AObj}
    (ho : o.op = .call { callee := .value x, args := args, argTypes := ats }) (hx : s.ev x = .fn f cap) (hf : okFn P f = true)
    (h : Ct P f (args.toList.map s.ev ++ cap) s.L r L') : OpS P o s ({ s with L := L' }.put o.dst r) := by
  intro γ a w K Q hr hK
  have hxv := hr.ev x
  rw [hx] at hxv
  generalize hxe : a.eval x = v at hxv
  cases hxv with
  | fn _ _ vs hn hcap =>
    unfold Oper.wp execOp
    rw [ho]
    have hrun : (do let d ← resolve a.eval { callee := .value x, args := args, argTypes := ats } o.type; invoke d.target d.args : Sem Next).run P w = .ok (.enter f (args.map a.eval ++ vs)) w := by
      simp [resolve, hxe, Deferred.ofValue, invoke, run_callFunc hf]
    simp only [hrun]
    refine (h γ w (args.map a.eval ++ vs) hr.inv ⟨by simp [hn], fun i y hy => ?_⟩).mono ?_
    · by_cases hi : i < args.size
      · rw [List.getElem?_append_left (by simpa using hi)] at hy
        simp only [List.getElem?_map, Option.map_eq_some_iff] at hy
        obtain ⟨z, hz, rfl⟩ := hy
        have hz' : args[i] = z := by simpa [hi] using hz
        have hlt : i < args.size + vs.size := by omega
        simp [Array.getD, hlt, hi, hz']
        exact hr.ev z
      · rw [List.getElem?_append_right (by simpa using hi)] at hy
        simp only [List.length_map, Array.length_toList] at hy
        have := hcap _ _ hy
        have hlt : i - args.size < vs.size := by rw [hn]; exact (List.getElem?_eq_some_iff.1 hy).1
        have hlt2 : i < args.size + vs.size := by omega
        simp only [Array.getD, hlt, dif_pos] at this
        simp [Array.getD, hlt2, Array.getElem_append, hi]
        exact this
    · rintro e w' ⟨γ', v, rfl, hI, hv, hE, hS⟩
      exact hK γ' _ w' ((hr.mono hE hI).put o.dst hv) (by rw [St.put_L]; exact hE) hS

/-! ### a function's results, and what is left of its memory -/
def resOne (P : Program) (s : St) : ResultVar → Option AV
  | .tmp t => some (s.t.getD t .junk)
  | .cell a t => loadA P s t (s.t.getD a .junk)

def resA (P : Program) (fn : Func) (s : St) : Option AV :=
  match fn.results.toList with
  | [r] => resOne P s r
  | rs => (rs.mapM (resOne P s)).map .tup

def resRun (tmps : Array Value) : ResultVar → Sem Value
  | .tmp t => pure (tmps.getD t undef)
  | .cell ad t => do loadVar t (← asAddr (tmps.getD ad undef))

theorem results_eq (fn : Func) (tmps : Array Value) : results fn tmps = (do
    let vs ← fn.results.mapM (resRun tmps)
    pure (if h : vs.size = 1 then vs[0] else .tuple vs)) := rfl

theorem run_resOne {P : Program} {γ : Nat → Gh} {s : St} {a : Act} {w : World} (hr : Rel γ s a w) {r : ResultVar} {x : AV} (h : resOne P s r = some x) :
    ∃ v, (resRun a.tmps r).run P w = .ok v w ∧ RV γ s.L x v := by
  cases r with
  | tmp t =>
    simp only [resOne, Option.some.injEq] at h
    subst h
    refine ⟨_, rfl, ?_⟩
    have := hr.ev (.tmp t)
    simpa [St.ev, Act.eval] using this
  | cell ad t =>
    simp only [resOne] at h
    have hv := hr.ev (.tmp ad)
    simp only [St.ev, Act.eval] at hv
    obtain ⟨u, hu, hx⟩ := loadA_run hr.inv hv h
    refine ⟨u, ?_, hx⟩
    simp only [resRun]
    generalize a.tmps.getD ad undef = v at *
    cases v with
    | pointer p =>
      cases p with
      | some p => simpa [Instr.loadAt, Instr.sureAddr, asAddr] using hu
      | none => simp [Instr.loadAt, Instr.sureAddr, stuck, Sem.run] at hu
    | _ => simp [Instr.loadAt, Instr.sureAddr, stuck, Sem.run] at hu

end Go.Proofs.Ytolfjeedgedblaa.K
