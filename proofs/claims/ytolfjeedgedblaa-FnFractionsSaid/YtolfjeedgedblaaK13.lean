/-
  A logic of values for Go's functions (part 13): all code without loops at once; loops by a relation.
-/
import Derived.Test.YtolfjeedgedblaaK12
namespace Go.Proofs.Ytolfjeedgedblaa.K
set_option linter.unusedVariables false
set_option linter.unusedSimpArgs false
open Go Go.RowKit

/-- What each operation of a region hangs on; 'E': the functions that work on what the caller owns. -/
def ownedDst (E : List FuncId) (o : Oper) : Bool := match o.dst with | some d => E.contains (1000000 + d) | none => false
/-- Objects from this number on are such that only results go to. -/
def rangeW : List FuncId → Option Nat
  | [] => none
  | e :: _ => if 900 ≤ e ∧ e < 990 then some (e - 900) else none
def kindE (E : List FuncId) (o : Oper) : Knd :=
  match o.op with
  | .waits _ => if ownedDst E o then .A else .C
  | .ready f =>
    match rangeW E with
    | some m => if f == 3999999 then .A else if 4000000 ≤ f then (if m ≤ f - 4000000 then .A else .C) else if E.contains (2000000 + f) then .A else .C
    | none => if E.contains (2000000 + f) then .A else .C
  | .store _ a _ => match a with | .tmp t => if E.contains (7000000 + t) then .W else .C | _ => .C
  | .buildSlice _ n _ => if n == 0 || ownedDst E o then .C else .A
  | .call c =>
    match c.callee with
    | .value (.func f) => if ownedDst E o then .A else if E.contains f || E.contains (2000000 + f) then .C else .A
    | .value _ => .C
    | .builtin .len => .B
    | .builtin .max => .A
    | .builtin .min => .A
    | .builtin .append => match o.dst with | some d => if E.contains (7200000 + d) then .W else .C | none => .C
    | _ => .C
  | op => kindP op
theorem isW_none {E : List FuncId} (id : Nat) (h : rangeW E = none) : isW (kindE E) id = (E.contains 5999999 && E.contains (6000000 + id)) := by
  have k1 : kindE E { dst := none, op := .ready 3999999, type := 0, pos := "", after := #[], guard := none } = if E.contains (2000000 + 3999999) then .A else .C := by
    simp only [kindE, h]
  have k2 : kindE E { dst := none, op := .ready (4000000 + id), type := 0, pos := "", after := #[], guard := none } = if E.contains (2000000 + (4000000 + id)) then .A else .C := by
    simp only [kindE, h]
  unfold isW
  rw [k1, k2, ← Nat.add_assoc]
  show ((if E.contains 5999999 then Knd.A else Knd.C) == Knd.A && (if E.contains (6000000 + id) then Knd.A else Knd.C) == Knd.A) = _
  cases E.contains 5999999 <;> cases E.contains (6000000 + id) <;> rfl
theorem isW_range (m : Nat) (rest : List FuncId) (id : Nat) (h : m < 90) : isW (kindE ((m + 900) :: rest)) id = decide (m ≤ id) := by
  have e : rangeW ((m + 900) :: rest) = some m := by
    show (if 900 ≤ m + 900 ∧ m + 900 < 990 then some (m + 900 - 900) else none) = some m
    rw [if_pos ⟨Nat.le_add_left _ _, by omega⟩, Nat.add_sub_cancel]
  generalize (m + 900) :: rest = E at e ⊢
  have k1 : kindE E { dst := none, op := .ready 3999999, type := 0, pos := "", after := #[], guard := none } = .A := by
    simp only [kindE, e, beq_self_eq_true, if_true]
  have hne : (4000000 + id == 3999999) = false := by
    rw [beq_eq_false_iff_ne]
    exact Nat.ne_of_gt (Nat.lt_of_lt_of_le (by decide : 3999999 < 4000000) (Nat.le_add_right _ _))
  have k2 : kindE E { dst := none, op := .ready (4000000 + id), type := 0, pos := "", after := #[], guard := none } = if m ≤ id then .A else .C := by
    simp only [kindE, e, hne, Bool.false_eq_true, if_false]
    rw [if_pos (Nat.le_add_right _ _), Nat.add_sub_cancel_left]
  unfold isW
  rw [k1, k2]
  by_cases hm : m ≤ id
  · rw [if_pos hm]; simp [hm]
  · rw [if_neg hm]; simp [hm]

/-- In a region whose order is told. -/
def anyK (E : List FuncId) (o : Oper) : Knd :=
  match o.op with
  | .waits _ => if ownedDst E o then .A else .C
  | _ => .C

theorem rowsW_E (E : List FuncId) : rowsW (kindE E) = E.contains 5999998 := by
  have k1 : kindE E { dst := none, op := .ready 3999998, type := 0, pos := "", after := #[], guard := none } = if E.contains 5999998 then .A else .C := by
    cases h : rangeW E with
    | none => simp only [kindE, h]
    | some m => simp only [kindE, h]; rfl
  unfold rowsW
  rw [k1]
  cases E.contains 5999998 <;> rfl
theorem rowsW_any (E : List FuncId) : rowsW (anyK E) = false := rfl
theorem isW_any (E : List FuncId) (id : Nat) : isW (anyK E) id = false := rfl

/-- One of two ways. -/
def Wc : AV → (St → Prop) → (St → Prop) → St → Prop
  | .bool true, X, _, s => X s
  | .bool false, _, Y, s => Y s
  | _, _, _, _ => False

theorem Wc.split {b : Bool} {X Y : St → Prop} {s : St} (ht : b = true → Wc (.bool b) X Y s) (hf : b = false → Wc (.bool b) X Y s) : Wc (.bool b) X Y s := by
  cases b
  · exact hf rfl
  · exact ht rfl

/-- How a region is told that leaves its order open: in an order of the proof's choice, or in the text's. -/
def Wd : Bool → Prop → Prop → Prop
  | true, X, _ => X
  | false, _, Y => Y
/-- What a piece of code asks of the state ahead of it; loops are left as they are. -/
def W (P : Program) (E : List FuncId) : Code → (Exit → St → Prop) → St → Prop
  | .skip, Q, s => Q .normal s
  | .ret, Q, s => Q .ret s
  | .exit id, Q, s => Q (.exit id) s
  | .seq x y, Q, s => W P E x (ExThen (W P E y Q) Q) s
  | .cond c x y, Q, s => Wc (s.ev c) (W P E x Q) (W P E y Q) s
  | .block id c, Q, s => W P E c (ExBlock id Q) s
  | .region id ops false, Q, s => R P (anyK E) ops ops.toList s (Q .normal)
  | .region id ops true, Q, s => Wd (E.contains 8000001) ((∃ p1 p2 x y, okPerm2 (kindE E) ops p1 p2 x y = true ∧ R P (kindE E) ops (p1.filterMap fun i => ops[i]?) s (Q .normal) ∧ R P (kindE E) ops (p2.filterMap fun i => ops[i]?) s (Q .normal)) ∨ (∃ perm, okPerm (kindE E) ops perm = true ∧ R P (kindE E) ops (perm.filterMap fun i => ops[i]?) s (Q .normal))) <| Wd (E.contains 8000000) (∃ perm, okPerm (kindE E) ops perm = true ∧ R P (kindE E) ops (perm.filterMap fun i => ops[i]?) s (Q .normal)) (okDraw (kindE E) ops = true ∧ R P (kindE E) ops ops.toList s (Q .normal))
  | c, Q, s => AWp P c Q s

theorem W.sound {P : Program} (hm : P.follows .mixedOrders = true) {E : List FuncId} : ∀ {c : Code} {Q : Exit → St → Prop} {s : St}, W P E c Q s → AWp P c Q s
  | .skip, Q, s, h => .skip h
  | .ret, Q, s, h => .ret h
  | .exit id, Q, s, h => .exit h
  | .seq x y, Q, s, h => .seq (AWp.mono (W.sound hm h) fun e s' h' => by
      cases e with
      | normal => exact W.sound hm h'
      | _ => exact h')
  | .cond c x y, Q, s, h => by
    unfold W at h
    unfold Wc at h
    split at h
    · rename_i hb; exact .cond hb (fun e => W.sound hm h) (fun e => by cases e)
    · rename_i hb; exact .cond hb (fun e => by cases e) (fun e => W.sound hm h)
    · exact h.elim
  | .block id c, Q, s, h => .block (W.sound hm (c := c) h)
  | .region id ops false, Q, s, h => .region (R.sound h)
  | .region id ops true, Q, s, h => by
    unfold W at h
    cases hc2 : E.contains 8000001 with
    | true =>
      rw [hc2] at h
      rcases h with ⟨p1, p2, x, y, h1, h2, h3⟩ | ⟨perm, h1, h2⟩
      · exact .perm2 hm p1 p2 x y h1 (R.sound h2) (R.sound h3)
      · exact .perm hm perm h1 (R.sound h2)
    | false =>
      rw [hc2] at h
      cases hc : E.contains 8000000 with
      | true =>
        rw [hc] at h
        obtain ⟨perm, h1, h2⟩ := h
        exact .perm hm perm h1 (R.sound h2)
      | false =>
        rw [hc] at h
        exact .draw hm h.1 (R.sound h.2)
  | .loop c, Q, s, h => h
  | .rangeFunc f p a b, Q, s, h => h
  | .scope c, Q, s, h => h
  | .label l, Q, s, h => h
  | .goto l, Q, s, h => h
  | .refuse w, Q, s, h => h

/-! ### the steps as rules -/
section
variable {P : Program} {k : Oper → Knd} {ops : Array Oper} {next : St → (St → Prop) → Prop} {o : Oper} {rest : List Oper} {s : St} {K : St → Prop}
theorem Wd_true {X Y : Prop} : Wd true X Y = X := rfl
theorem Wd_false {X Y : Prop} : Wd false X Y = Y := rfl
theorem app_W (x : AV) (L : List AObj) : (⟨.W, x, L⟩ : Sd).app o s = { s with L := L }.put o.dst x := rfl
theorem le_WW : (Knd.W).le .W = true := rfl
theorem KCW : (Knd.C == Knd.W) = false := rfl
theorem KWW : (Knd.W == Knd.W) = true := rfl
theorem KAW : (Knd.A == Knd.W) = false := rfl
theorem KCA : (Knd.C == Knd.A) = false := rfl
theorem KAA : (Knd.A == Knd.A) = true := rfl
theorem Rg_true : Rg P k ops next (some true) o rest s K = Rs P k ops next (stepD P k s o) o rest s K := rfl
theorem Rg_false : Rg P k ops next (some false) o rest s K = next (s.put o.dst (.tup [])) K := rfl
theorem Rg_none : Rg P k ops next none o rest s K = RunL P k ops (o :: rest) s K := rfl
theorem Rs_some (d : Sd) : Rs P k ops next (some d) o rest s K = (d.kind.le (k o) = true ∧ next (d.app o s) K) := rfl
theorem Rs_none : Rs P k ops next none o rest s K = RunL P k ops (o :: rest) s K := rfl
theorem app_A (x : AV) (L : List AObj) : (⟨.A, x, L⟩ : Sd).app o s = s.put o.dst x := rfl
theorem app_B (x : AV) (L : List AObj) : (⟨.B, x, L⟩ : Sd).app o s = s.put o.dst x := rfl
theorem app_C (x : AV) (L : List AObj) : (⟨.C, x, L⟩ : Sd).app o s = { s with L := L }.put o.dst x := rfl
theorem le_A (b : Knd) : (Knd.A).le b = true := by cases b <;> rfl
theorem le_any (a : Knd) : a.le .C = true := by cases a <;> rfl
theorem le_BB : (Knd.B).le .B = true := rfl
theorem le_BC : (Knd.B).le .C = true := rfl
theorem le_CC : (Knd.C).le .C = true := rfl
variable {X Y : St → Prop} {Q : Exit → St → Prop}
theorem Wc_true : Wc (.bool true) X Y s = X s := rfl
theorem Wc_false : Wc (.bool false) X Y s = Y s := rfl
theorem ExThen_normal : ExThen X Q .normal s = X s := rfl
theorem ExThen_ret : ExThen X Q .ret s = Q .ret s := rfl
theorem ExThen_exit (i : Nat) : ExThen X Q (.exit i) s = Q (.exit i) s := rfl
theorem ExBlock_normal (i : Nat) : ExBlock i Q .normal s = Q .normal s := rfl
theorem ExBlock_ret (i : Nat) : ExBlock i Q .ret s = Q .ret s := rfl
theorem ExBlock_exit (i j : Nat) : ExBlock i Q (.exit j) s = if j = i then Q .normal s else Q (.exit j) s := rfl
theorem FnEnd_normal {fn : Func} {L L' : List AObj} {r : AV} : FnEnd P fn L r L' .normal s = ∃ r1, resA P fn s = some r1 ∧ Fin L s.L r1 L' r := rfl
theorem FnEnd_ret {fn : Func} {L L' : List AObj} {r : AV} : FnEnd P fn L r L' .ret s = ∃ r1, resA P fn s = some r1 ∧ Fin L s.L r1 L' r := rfl
end

theorem Ct.by_ {P : Program} (hm : P.follows .mixedOrders = true) (E : List FuncId) {f : FuncId} {fn : Func} {c : Code} {args : List AV} {L L' : List AObj} {r : AV} (hf : P.funcs[f]? = some fn) (hb : fn.body = some c)
    (h : W P E c (FnEnd P fn L r L') (St.init fn args L)) : Ct P f args L r L' := Ct.intro hf hb (W.sound hm h)

theorem Fin.eq {L1 : List AObj} {r1 r : AV} (h : r1 = r) (hp : pureB r1 = true) : K.Fin [] L1 r1 [] r := by
  subst h; exact Fin.value (.pur (.of hp))

/-- Slots that are not read any more may be forgotten. -/
inductive JL : List AV → List AV → Prop where
  | nil : JL [] []
  | keep {x : AV} {xs ys : List AV} (h : JL xs ys) : JL (x :: xs) (x :: ys)
  | drop {x : AV} {xs ys : List AV} (h : JL xs ys) : JL (x :: xs) (.junk :: ys)

theorem JL.refl : ∀ xs, JL xs xs
  | [] => .nil
  | x :: xs => .keep (JL.refl xs)

theorem JL.get {xs ys : List AV} (h : JL xs ys) : xs.length = ys.length ∧ ∀ (i : Nat) y, ys[i]? = some y → y = .junk ∨ xs[i]? = some y := by
  induction h with
  | nil => exact ⟨rfl, fun i y hy => .inr hy⟩
  | keep h ih => exact ⟨by simp [ih.1], fun i y hy => by cases i with | zero => exact .inr hy | succ i => simpa using ih.2 i y (by simpa using hy)⟩
  | drop h ih => exact ⟨by simp [ih.1], fun i y hy => by cases i with | zero => exact .inl (by simpa using hy.symm) | succ i => simpa using ih.2 i y (by simpa using hy)⟩

theorem Rel.junk {γ : Nat → Gh} {s : St} {a : Act} {w : World} {t : List AV} (h : Rel γ s a w) (hj : JL s.t t) : Rel γ ⟨t, s.L⟩ a w :=
  ⟨h.defers, by rw [h.size]; exact hj.get.1, fun i x hx => by
    rcases hj.get.2 i x hx with rfl | hx'
    · exact .junk _
    · exact h.tmps i x hx', h.inv⟩

theorem AWp.junk {P : Program} {c : Code} {Q : Exit → St → Prop} {s : St} {t : List AV} (hj : JL s.t t) (h : AWp P c Q ⟨t, s.L⟩) : AWp P c Q s :=
  fun γ a w hr => h γ a w (hr.junk hj)

/-- A loop, by a relation on states that is told by data 'i'; a round lowers the measure. -/
theorem AWp.loop_inv {P : Program} {c : Code} {Q : Exit → St → Prop} {ι : Type} (st : ι → St) (I : ι → Prop) (m : ι → Nat) (i0 : ι) {s : St} (h0 : I i0) (hs : JL s.t (st i0).t ∧ s.L = (st i0).L)
    (step : ∀ i, I i → AWp P c (ExThen (fun s' => ∃ j, I j ∧ m j < m i ∧ JL s'.t (st j).t ∧ s'.L = (st j).L) Q) (st i)) : AWp P (.loop c) Q s := by
  have key : ∀ n i s, m i < n → I i → JL s.t (st i).t ∧ s.L = (st i).L → ARounds P c Q n s := by
    intro n
    induction n with
    | zero => intro i s h; omega
    | succ n ih =>
      intro i s hm hI hs
      have e : (⟨(st i).t, s.L⟩ : St) = st i := by rw [hs.2]
      refine AWp.junk hs.1 ?_
      rw [e]
      refine (step i hI).mono fun ex s' h => ?_
      cases ex with
      | normal =>
        obtain ⟨j, hj, hlt, hs'⟩ := h
        exact ih j s' (by omega) hj hs'
      | _ => exact h
  exact .loop _ (key (m i0 + 1) i0 s (by omega) h0 hs)

end Go.Proofs.Ytolfjeedgedblaa.K
