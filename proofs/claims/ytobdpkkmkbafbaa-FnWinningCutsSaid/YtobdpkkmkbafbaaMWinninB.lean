/-
  Texts joined in one: K11, K12, K13, K14, K15, K17, K18, K19, K20, K21, K22, K23, K24, K25, K26, K27.
-/
import Derived.Test.YtobdpkkmkbafbaaMWinninA
import Derived.WalkKit
import Derived.ProofKit
import Derived.OpenShut
import Derived.ShutString
import Derived.ChangeOld
import Derived.Maps.Keyed
import Derived.WideKeyPair
import Derived.ChangeMaps5
/-
  A logic of values for Go's functions (part 11): the steps, as a function.
-/
namespace Go.Proofs.Ytobdpkkmkbafbaa.K
set_option linter.unusedVariables false
set_option linter.unusedSimpArgs false
open Go Go.RowKit

/-- What an operation without a call hangs on. -/
def kindP : Op → Knd
  | .move _ => .A
  | .assign _ => .A
  | .pick _ _ _ => .A
  | .binOp _ _ _ _ _ => .A
  | .unOp _ _ _ => .A
  | .convert _ _ _ => .A
  | .field _ _ _ => .A
  | .index _ _ _ => .A
  | .extract _ _ => .A
  | .makeFunc _ _ _ => .A
  | .build _ _ => .A
  | .buildSlice _ _ _ => .A
  | .load _ _ => .B
  | .nilCheck _ => .B
  | .fieldAddr _ _ _ => .B
  | .indexAddr _ _ _ => .B
  | .slice _ _ _ _ _ => .B
  | .call c => match c.callee with | .builtin .len => .B | .builtin .max => .A | .builtin .min => .A | _ => .C
  | _ => .C

theorem loadA_congr {P : Program} {s s1 : St} (h : s1.L = s.L) (t : TypeId) (x : AV) : loadA P s1 t x = loadA P s t x := by
  unfold loadA; rw [h]

theorem map_congr_ev {s s1 : St} {l : List Operand} (h : ∀ x ∈ l, s1.ev x = s.ev x) : l.map s1.ev = l.map s.ev := List.map_congr_left h

theorem pureA_congr {P : Program} {s s1 : St} {op : Op} (h : ∀ x ∈ op.operands, s1.ev x = s.ev x) (hL : kindP op ≠ .A → s1.L = s.L) : pureA P s1 op = pureA P s op := by
  cases op with
  | move x => simp only [pureA]; rw [h x (by simp [Op.operands])]
  | assign x => simp only [pureA]; rw [h x (by simp [Op.operands])]
  | pick c a b => simp only [pureA]; rw [h c (by simp [Op.operands]), h a (by simp [Op.operands]), h b (by simp [Op.operands])]
  | load t a => simp only [pureA]; rw [h a (by simp [Op.operands]), loadA_congr (hL (by simp [kindP]))]
  | nilCheck x => simp only [pureA]; rw [h x (by simp [Op.operands]), hL (by simp [kindP])]
  | binOp op t x y ty => simp only [pureA]; rw [h x (by simp [Op.operands]), h y (by simp [Op.operands])]
  | unOp op t x => simp only [pureA]; rw [h x (by simp [Op.operands])]
  | convert a b x => simp only [pureA]; rw [h x (by simp [Op.operands])]
  | fieldAddr t x f => simp only [pureA]; rw [h x (by simp [Op.operands]), hL (by simp [kindP])]
  | field t x f => simp only [pureA]; rw [h x (by simp [Op.operands])]
  | indexAddr t x i => simp only [pureA]; rw [h x (by simp [Op.operands]), h i (by simp [Op.operands]), hL (by simp [kindP])]
  | index t x i => simp only [pureA]; rw [h x (by simp [Op.operands]), h i (by simp [Op.operands])]
  | slice t x lo hi mx =>
    cases mx with
    | some m => rfl
    | none =>
      simp only [pureA]
      rw [h x (by simp [Op.operands]), hL (by simp [kindP])]
      have e1 : lo.map s1.ev = lo.map s.ev := by cases lo with | none => rfl | some l => simp [h l (by simp [Op.operands])]
      have e2 : hi.map s1.ev = hi.map s.ev := by cases hi with | none => rfl | some l => simp [h l (by simp [Op.operands])]
      rw [e1, e2]
  | extract t i => simp only [pureA]; rw [h t (by simp [Op.operands])]
  | makeFunc fn first cap =>
    simp only [pureA, funcA]
    rw [map_congr_ev (l := cap.toList) (fun x hx => h x (by simp [Op.operands]; exact .inr (by simpa using hx)))]
  | build t parts =>
    simp only [pureA]
    congr 1
    refine List.map_congr_left fun p hp => ?_
    rw [h p.2 (by simp only [Op.operands]; simp only [List.mem_toArray, List.mem_map]; exact ⟨p, hp, rfl⟩)]
  | call c =>
    obtain ⟨cal, args, ats⟩ := c
    simp only [pureA, callA]
    cases cal with
    | builtin b =>
      have hm : ∀ x ∈ args.toList, s1.ev x = s.ev x := fun x hx => h x (by simp [Op.operands, Call.operands]; simpa using hx)
      cases b <;> try rfl
      · have hL' := hL (by simp [kindP])
        generalize args.toList = l at *
        generalize ats.toList = m at *
        match l, m with
        | [x], [t] => simp only [hm x (by simp), hL']
        | [], _ => rfl
        | [x], [] => rfl
        | [x], _ :: _ :: _ => rfl
        | _ :: _ :: _, _ => rfl
      · generalize args.toList = l at *
        match l with
        | [x, y] => simp only [hm x (by simp), hm y (by simp)]
        | [] => rfl
        | [x] => rfl
        | _ :: _ :: _ :: _ => rfl
      · generalize args.toList = l at *
        match l with
        | [x, y] => simp only [hm x (by simp), hm y (by simp)]
        | [] => rfl
        | [x] => rfl
        | _ :: _ :: _ :: _ => rfl
    | value f => rfl
    | invoke r m => rfl
  | _ => rfl

/-- Shall a literal slice be a row of the call's own? (Asked of 'k' by an operation that no code here has.) -/
def litK (k : Oper → Knd) (o : Oper) : Bool := k { o with op := .waits 0 } == .A

/-- Does a store go to a variable that only results go to? -/
def storeW (k : Oper → Knd) (o : Oper) (p : AV) : Bool := k o == .W && (match p with | .ptr id _ => isW k id | _ => false)
/-- Does an append go to a row that only results go to? -/
def appW (k : Oper → Knd) (o : Oper) (p : AV) : Bool := k o == .W && (match p with | .ref id _ _ _ => isW k id || rowsAt k id | _ => false)
/-- A reading step may not look at such a variable. -/
def rdA (k : Oper → Knd) : AV → Bool
  | .ptr id _ => !isW k id
  | .ref id _ _ _ => !isW k id && !rowsAt k id
  | .eptr id _ _ _ _ => !isW k id && !rowsAt k id
  | _ => true
def rdB (k : Oper → Knd) (s : St) : Op → Bool
  | .load _ a => rdA k (s.ev a)
  | .nilCheck a => match s.ev a with | .ptr _ _ => true | x => rdA k x
  | .fieldAddr _ a _ => match s.ev a with | .ptr _ _ => true | x => rdA k x
  | .indexAddr _ a _ => match s.ev a with | .ptr _ _ => true | x => rdA k x
  | .slice _ a _ _ _ => rdA k (s.ev a)
  | .call c => match c.callee, c.args.toList with | .builtin .len, [a] => rdA k (s.ev a) | _, _ => true
  | _ => true

/-- What a pure step hangs on, where it is: a field's address in a variable of the call's own hangs on nothing. -/
def kindQ (s : St) : Op → Knd
  | .fieldAddr _ a _ => (match s.ev a with | .ptr _ _ => .A | _ => .B)
  | op => kindP op
theorem kindQ_cases (s : St) (op : Op) : kindQ s op = kindP op ∨ (kindQ s op = .A ∧ ∃ t a i id off, op = .fieldAddr t a i ∧ s.ev a = .ptr id off) := by
  cases op with
  | fieldAddr t a i =>
    simp only [kindQ]
    cases h : s.ev a <;> first | exact .inl rfl | exact .inr ⟨rfl, _, _, _, _, _, rfl, h⟩
  | _ => exact .inl rfl

/-- One operation without a call. -/
def stepD (P : Program) (k : Oper → Knd) (s : St) (o : Oper) : Option Sd :=
  match o.op with
  | .box T x => if (s.ev x).solid then some ⟨.C, .ptr s.L.length 0, s.L ++ [AObj.box T (s.ev x).cells]⟩ else none
  | .alloc T =>
    match zeroOf P T with
    | some z => if z.cells.all (·.oneCell') then some ⟨.C, .ptr s.L.length 0, s.L ++ [AObj.box T (z.cells.toList.map absV)]⟩ else none
    | none => none
  | .store t p x =>
    match o.dst with
    | none =>
      match storeA P s t (s.ev p) (s.ev x) with
      | some s' => some ⟨if storeW k o (s.ev p) then .W else .C, .junk, s'.L⟩
      | none => match storeE P s t (s.ev p) (s.ev x) with | some s' => some ⟨.C, .junk, s'.L⟩ | none => none
    | some _ => none
  | .buildSlice t n parts =>
    if (n == 0 || litK k o) = true then
      match litElems P t n (parts.toList.map fun p => (p.1, s.ev p.2)) with
      | some (e, es) => some ⟨.C, .ref s.L.length [] 0 n, s.L ++ [AObj.vec e (P.cellsOf e) 0 es]⟩
      | none => none
    else match litA P t n (parts.toList.map fun p => (p.1, s.ev p.2)) with | some x => some ⟨.A, x, []⟩ | none => none
  | .makeSlice t x y => match makeA P s t (s.ev x) (s.ev y) with | some r => some ⟨.C, r.1, r.2⟩ | none => none
  | .call ⟨.builtin .append, args, ats⟩ =>
    match args.toList, ats.toList with
    | [x, y], [t, t'] => (match appendA P s t t' (s.ev x) (s.ev y) with | some r => some ⟨if appW k o (s.ev x) then .W else .C, r.1, r.2⟩ | none => none)
    | _, _ => none
  | op => if rdB k s op = true then (match pureA P s op with | some x => some ⟨kindQ s op, x, []⟩ | none => none) else none

theorem appendA_set {P : Program} {s : St} {t t' : TypeId} {id g n : Nat} {p : Pth} {y : AV} {r : AV × List AObj} (h : appendA P s t t' (.ref id p g n) y = some r) : ∃ o', r.2 = s.L.set id o' ∧ isRow s.L[id]? ∧ isRow (some o') := by
  unfold appendA at h
  split at h
  case h_2 => cases h
  split at h
  case isFalse => cases h
  split at h
  · rename_i e
    cases e
    split at h
    case h_2 => cases h
    rename_i hL
    split at h
    case isFalse => cases h
    split at h
    · cases h; exact ⟨_, rfl, ⟨_, _, _, _, hL⟩, ⟨_, _, _, _, rfl⟩⟩
    · split at h
      · cases h; exact ⟨_, rfl, ⟨_, _, _, _, hL⟩, ⟨_, _, _, _, rfl⟩⟩
      · cases h
  · rename_i e; cases e
  · cases h
theorem storeA_set {P : Program} {s s' : St} {t : TypeId} {id off : Nat} {x : AV} (h : storeA P s t (.ptr id off) x = some s') : ∃ o', s'.L = s.L.set id o' := by
  unfold storeA at h
  dsimp only at h
  repeat' split at h
  all_goals first | (cases h; done) | (cases h; exact ⟨_, rfl⟩)

/-- A reading step finds the same where no object turned that it reads. -/
theorem eptrNow_eq {L L0 : List AObj} {id g : Nat} (h : L0[id]? = L[id]?) : eptrNow L0 id g = eptrNow L id g := by unfold eptrNow; rw [h]
theorem pureA_W {P : Program} {k : Oper → Knd} {s : St} {L0 : List AObj} {op : Op} (hW : ∀ i, isW k i = false → SameAt k s.L L0 i) (hr : rdB k s op = true) : pureA P { s with L := L0 } op = pureA P s op := by
  have hev : ∀ y, ({ s with L := L0 } : St).ev y = s.ev y := fun y => by cases y <;> rfl
  have hf : ({ s with L := L0 } : St).ev = s.ev := funext hev
  have lp : ∀ {id off : Nat}, rdA k (.ptr id off) = true → SameAt k s.L L0 id := fun h => hW _ (by simpa [rdA] using h)
  have lr : ∀ {id g n : Nat} {p : Pth}, rdA k (.ref id p g n) = true → L0[id]? = s.L[id]? := fun h => by
    simp only [rdA, Bool.and_eq_true, Bool.not_eq_true'] at h
    rcases hW _ h.1 with e | ⟨e, _⟩
    · exact e
    · rw [h.2] at e; cases e
  have le : ∀ {id g i off : Nat} {p : Pth}, rdA k (.eptr id p g i off) = true → L0[id]? = s.L[id]? := fun h => by
    simp only [rdA, Bool.and_eq_true, Bool.not_eq_true'] at h
    rcases hW _ h.1 with e | ⟨e, _⟩
    · exact e
    · rw [h.2] at e; cases e
  cases op
  case slice t x lo hi mx =>
    cases mx with
    | some m => rfl
    | none =>
      simp only [pureA, hf]
      simp only [rdB] at hr
      generalize s.ev x = y at *
      cases y <;> simp only [sliceA] <;> try rfl
      rename_i id p g n
      rw [eptrNow_eq (lr hr)]
  case load t a =>
    simp only [pureA, hf]
    simp only [rdB] at hr
    generalize s.ev a = y at *
    cases y <;> simp only [loadA] <;> try rfl
    · rcases lp hr with e | ⟨_, ⟨_, _, _, _, e1⟩, ⟨_, _, _, _, e2⟩⟩
      · rw [e]
      · rw [e1, e2]
    · rw [le hr]
  case nilCheck a =>
    simp only [pureA, hf]
    simp only [rdB] at hr
    generalize s.ev a = y at *
    cases y <;> simp only <;> try rfl
    rw [eptrNow_eq (le hr)]
  case fieldAddr t a f =>
    simp only [pureA, hf]
    simp only [rdB] at hr
    generalize s.ev a = y at *
    cases y <;> simp only <;> try rfl
    rw [eptrNow_eq (le hr)]
  case indexAddr t a i =>
    simp only [pureA, hf]
    simp only [rdB] at hr
    generalize s.ev a = y at *
    cases y <;> simp only <;> try rfl
    rename_i id p g n
    have hq := lr hr
    simp only [indexRefA, hq]
  case call c =>
    obtain ⟨cal, args, ats⟩ := c
    simp only [pureA, callA, hf]
    cases cal with
    | builtin b =>
      by_cases hb : b = .len
      · subst hb
        simp only [rdB] at hr
        generalize args.toList = l at *
        generalize ats.toList = m at *
        match l, m with
        | [x], [t] =>
          simp only at hr ⊢
          generalize s.ev x = y at *
          cases y with
          | ref id p g n => simp only [lenA]; rw [eptrNow_eq (lr hr)]
          | lit v =>
            by_cases hv : v = .slice none 0 0
            · subst hv; rfl
            · have hn : ∀ L, lenA P L t (.lit v) = none := fun L => by unfold lenA; split <;> simp_all
              rw [hn, hn]
          | _ => rfl
        | [], _ => rfl
        | [x], [] => rfl
        | [x], _ :: _ :: _ => rfl
        | _ :: _ :: _, _ => rfl
      · generalize args.toList = l at *
        generalize ats.toList = m at *
        cases b <;> first | rfl | exact absurd rfl hb | (rcases l with _ | ⟨x, _ | ⟨y, _ | ⟨z, l⟩⟩⟩ <;> rfl)
    | value f => rfl
    | invoke r m => rfl
  case makeFunc fn first cap => simp only [pureA, funcA, hf]
  all_goals simp only [pureA, hf]

theorem storeA_t {P : Program} {s s' : St} {t : TypeId} {p x : AV} (h : storeA P s t p x = some s') : s'.t = s.t := by
  unfold storeA at h
  repeat' split at h
  all_goals first | (cases h; done) | (cases h; rfl)

theorem storeA_congr {P : Program} {s s1 : St} (hL : s1.L = s.L) (t : TypeId) (p x : AV) {s' : St} (h : storeA P s t p x = some s') : storeA P s1 t p x = some { s1 with L := s'.L } := by
  unfold storeA at *
  rw [hL]
  repeat' split at h
  all_goals first | (cases h; done) | skip
  rename_i hL' hc _ _ _
  simp only [hc, and_self, if_true]
  cases h
  rfl

theorem storeE_congr {P : Program} {s s1 : St} (hL : s1.L = s.L) (t : TypeId) (p x : AV) {s' : St} (h : storeE P s t p x = some s') : storeE P s1 t p x = some { s1 with L := s'.L } ∧ s'.t = s.t := by
  unfold storeE at *
  rw [hL]
  repeat' split at h
  all_goals first | (cases h; done) | skip
  rename_i hc
  have hg := hc.1.1
  subst hg
  rw [if_pos hc]
  cases h
  exact ⟨rfl, rfl⟩

theorem kindP_W (op : Op) : kindP op ≠ .W := by
  cases op <;> first | (simp [kindP]; done) | skip
  rename_i c
  obtain ⟨cal, args, ats⟩ := c
  simp only [kindP]
  split <;> simp
theorem kindP_D (op : Op) : kindP op ≠ .D := by
  cases op <;> first | (simp [kindP]; done) | skip
  rename_i c
  obtain ⟨cal, args, ats⟩ := c
  simp only [kindP]
  split <;> simp
theorem kindP_pure {P : Program} {s : St} {op : Op} {x : AV} (h : pureA P s op = some x) : kindP op ≠ .C := by
  cases op <;> first | (simp [kindP]; done) | (simp [pureA] at h; done) | skip
  rename_i c
  obtain ⟨cal, args, ats⟩ := c
  simp only [pureA, callA] at h
  split at h
  · split at h
    · intro hk; simp [kindP] at hk
    · intro hk; simp [kindP] at hk
    · intro hk; simp [kindP] at hk
    · cases h
  · cases h

theorem eptrNow_mono {L X : List AObj} {id g : Nat} (h : eptrNow L id g = true) : eptrNow (L ++ X) id g = true := by
  unfold eptrNow at *
  split at h
  · rename_i hL
    rw [List.getElem?_append_left (List.getElem?_eq_some_iff.1 hL).1, hL]
    exact h
  · cases h
theorem loadA_mono {P : Program} {s : St} {X : List AObj} {t : TypeId} {x y : AV} (h : loadA P s t x = some y) : loadA P { s with L := s.L ++ X } t x = some y := by
  cases x <;> simp only [loadA] at h ⊢ <;> try exact h
  · split at h
    · rename_i hL
      rw [List.getElem?_append_left (List.getElem?_eq_some_iff.1 hL).1, hL]
      exact h
    · cases h
  · split at h
    · rename_i hL
      rw [List.getElem?_append_left (List.getElem?_eq_some_iff.1 hL).1, hL]
      exact h
    · cases h
theorem indexRefA_mono {P : Program} {L X : List AObj} {t : TypeId} {x i y : AV} (h : indexRefA P L t x i = some y) : indexRefA P (L ++ X) t x i = some y := by
  unfold indexRefA at *
  split at h
  · split at h
    · rename_i hi
      rw [if_pos hi]
      split at h
      · split at h
        · rename_i hL
          simp only [List.getElem?_append_left (List.getElem?_eq_some_iff.1 hL).1, hL]
          exact h
        · cases h
      · cases h
    · cases h
  · cases h
theorem sliceA_mono {P : Program} {L X : List AObj} {t : TypeId} {x y : AV} {lo hi : Option AV} (h : sliceA P L t x lo hi = some y) : sliceA P (L ++ X) t x lo hi = some y := by
  cases x <;> simp only [sliceA] at h ⊢ <;> try exact h
  split at h
  · split at h
    · rename_i hc
      rw [if_pos ⟨hc.1, hc.2.1, hc.2.2.1, eptrNow_mono hc.2.2.2⟩]
      exact h
    · cases h
  · cases h
theorem lenA_mono {P : Program} {L X : List AObj} {t : TypeId} {x y : AV} (h : lenA P L t x = some y) : lenA P (L ++ X) t x = some y := by
  unfold lenA at *
  split at h
  · exact h
  · exact h
  · exact h
  · split at h
    · split at h
      · rename_i hc
        simp only [eptrNow_mono hc, if_true]; exact h
      · cases h
    · cases h
  · cases h
/-- A reading step finds the same where the call owns more. -/
theorem pureA_mono {P : Program} {s : St} {X : List AObj} {op : Op} {x : AV} (h : pureA P s op = some x) : pureA P { s with L := s.L ++ X } op = some x := by
  have hev : ∀ y, ({ s with L := s.L ++ X } : St).ev y = s.ev y := fun y => by cases y <;> rfl
  have hf : ({ s with L := s.L ++ X } : St).ev = s.ev := funext hev
  cases op
  case slice t x lo hi mx =>
    cases mx with
    | some m => simp [pureA] at h
    | none => simp only [pureA, hf] at h ⊢; exact sliceA_mono h
  case load t a => simp only [pureA, hf] at h ⊢; exact loadA_mono h
  case nilCheck a =>
    simp only [pureA, hf] at h ⊢
    split at h
    · exact h
    · exact h
    · split at h
      · rename_i hc; rw [if_pos (eptrNow_mono hc)]; exact h
      · cases h
    · exact h
    · cases h
  case fieldAddr t a f =>
    simp only [pureA, hf] at h ⊢
    split at h
    · split at h
      · rename_i hc; rw [if_pos (eptrNow_mono hc)]; exact h
      · cases h
    · exact h
  case indexAddr t a i =>
    simp only [pureA, hf] at h ⊢
    split at h
    · exact indexRefA_mono h
    · exact h
  case call c =>
    simp only [pureA, callA, hf] at h ⊢
    split at h
    · split at h
      · exact lenA_mono h
      · exact h
      · exact h
      · cases h
    · cases h
  case makeFunc fn first cap => simp only [pureA, funcA, hf] at h ⊢; exact h
  all_goals first | (simp only [pureA, hf] at h ⊢; exact h) | (simp [pureA] at h; done)

theorem makeA_more {P : Program} {s : St} {t : TypeId} {x y : AV} {r : AV × List AObj} (h : makeA P s t x y = some r) : ∃ X, r.2 = s.L ++ X := by
  unfold makeA at h
  repeat' split at h
  all_goals first | (cases h; done) | (cases h; exact ⟨_, rfl⟩)

theorem stepD_valid {P : Program} {ops : Array Oper} {k : Oper → Knd} {s : St} {o : Oper} {d : Sd} (hg : guardA ops s o = some true) (h : stepD P k s o = some d) : Valid P k ops o d s := by
  refine ⟨⟨fun hal hC => ?_, fun hW => ?_⟩, ?_⟩
  · unfold stepD at h
    split at h
    · split at h
      · cases h; exact ⟨_, rfl⟩
      · cases h
    · split at h
      · split at h
        · cases h; exact ⟨_, rfl⟩
        · cases h
      · cases h
    · rename_i ho
      simp [isAlloc, ho] at hal
    · rename_i t n parts ho
      split at h
      · split at h
        · cases h; exact ⟨_, rfl⟩
        · cases h
      · split at h
        · cases h; cases hC
        · cases h
    · rename_i t x y ho
      split at h
      · rename_i r hr
        cases h
        exact makeA_more hr
      · cases h
    · rename_i ho
      simp [isAlloc, ho] at hal
    · split at h
      · split at h
        · rename_i hx
          cases h
          rcases kindQ_cases s o.op with hq | ⟨hq, _⟩
          · exact absurd (hq.symm.trans hC) (kindP_pure hx)
          · exact absurd (hq.symm.trans hC) (by decide)
        · cases h
      · cases h
  · unfold stepD at h
    split at h
    · split at h
      · cases h; cases hW
      · cases h
    · split at h
      · split at h
        · cases h; cases hW
        · cases h
      · cases h
    · split at h
      · split at h
        · rename_i s' hs
          cases h
          simp only at hW
          split at hW
          · rename_i hst
            simp only [storeW, Bool.and_eq_true] at hst
            generalize s.ev _ = y at *
            split at hst
            · rename_i id off
              obtain ⟨o', ho'⟩ := storeA_set hs
              exact ⟨id, o', .inl hst.2, ho'⟩
            · cases hst.2
          · cases hW
        · split at h
          · cases h; cases hW
          · cases h
      · cases h
    · split at h
      · split at h
        · cases h; cases hW
        · cases h
      · split at h
        · cases h; cases hW
        · cases h
    · split at h
      · cases h; cases hW
      · cases h
    · split at h
      · split at h
        · rename_i r hr
          cases h
          simp only at hW
          split at hW
          · rename_i hst
            simp only [appW, Bool.and_eq_true] at hst
            generalize s.ev _ = y at *
            split at hst
            · rename_i id q g n
              obtain ⟨o', ho', k1, k2⟩ := appendA_set hr
              simp only [Bool.or_eq_true] at hst
              rcases hst.2 with h2 | h2
              · exact ⟨id, o', .inl h2, ho'⟩
              · exact ⟨id, o', .inr ⟨h2, k1, k2⟩, ho'⟩
            · cases hst.2
          · cases hW
        · cases h
      · cases h
    · split at h
      · split at h
        · rename_i hx
          cases h
          simp only at hW
          rcases kindQ_cases s o.op with hq | ⟨hq, _⟩
          · exact absurd (hq.symm.trans hW) (kindP_W _)
          · exact absurd (hq.symm.trans hW) (by decide)
        · cases h
      · cases h
  intro s1 ha hL
  refine ⟨by rw [agree_guard ha]; exact hg, ?_⟩
  have hev : ∀ x ∈ o.op.operands, s1.ev x = s.ev x := fun x hx => agree_ev ha hx
  unfold stepD at h
  split at h
  · rename_i T x ho
    split at h
    · rename_i hx
      cases h
      have hL : s1.L = s.L := hL
      have e := hev x (by simp [ho, Op.operands])
      have := box_sound (P := P) (s := s1) ho (by rw [e]; exact (AV.solid_spec hx).1) (by rw [e]; exact (AV.solid_spec hx).2)
      rw [e, hL] at this
      exact this
    · cases h
  · rename_i T ho
    split at h
    · rename_i z hz
      split at h
      · rename_i h1
        cases h
        have hL : s1.L = s.L := hL
        have := alloc_sound (P := P) (s := s1) ho hz h1
        rw [hL] at this
        exact this
      · cases h
    · cases h
  · rename_i t p x ho
    split at h
    · rename_i hd
      split at h
      · rename_i s' hs
        cases h
        have hL : s1.L = s.L := by
          by_cases hw : storeW k o (s.ev p) = true
          · simp only [hw, if_true] at hL; exact hL
          · simp only [hw] at hL; exact hL
        have := store_sound (P := P) (s := s1) ho hd (by
          rw [hev p (by simp [ho, Op.operands]), hev x (by simp [ho, Op.operands])]
          exact storeA_congr hL t _ _ hs)
        by_cases hw : storeW k o (s.ev p) = true
        · simp only [Sd.app, hd, St.put, hw, if_true]
          exact this
        · simp only [Sd.app, hd, St.put, hw]
          exact this
      · split at h
        · rename_i s' hs
          cases h
          have hL : s1.L = s.L := hL
          have := storeE_sound (P := P) (s := s1) ho hd (by
            rw [hev p (by simp [ho, Op.operands]), hev x (by simp [ho, Op.operands])]
            exact (storeE_congr hL t _ _ hs).1)
          simp only [Sd.app, hd, St.put]
          exact this
        · cases h
    · cases h
  · rename_i t n parts ho
    have e1 : (parts.toList.map fun p => (p.1, s1.ev p.2)) = parts.toList.map fun p => (p.1, s.ev p.2) :=
      List.map_congr_left fun p hp => by rw [hev p.2 (by simp only [ho, Op.operands]; simp only [List.mem_toArray, List.mem_map]; exact ⟨p, hp, rfl⟩)]
    split at h
    · split at h
      · rename_i e es hx
        cases h
        have hL : s1.L = s.L := hL
        have := litOwn_sound (P := P) (s := s1) (e := e) (es := es) ho (by rw [e1]; exact hx)
        rw [hL] at this
        exact this
      · cases h
    · split at h
      · rename_i x hx
        cases h
        exact lit_sound (P := P) (s := s1) ho (by rw [e1]; exact hx)
      · cases h
  · rename_i t x y ho
    split at h
    · rename_i r hr
      cases h
      have hL : s1.L = s.L := hL
      have hx := hev x (by simp [ho, Op.operands])
      have hy := hev y (by simp [ho, Op.operands])
      have e3 : makeA P s1 t (s1.ev x) (s1.ev y) = some (r.1, r.2) := by
        rw [hx, hy]
        unfold makeA at hr ⊢
        rw [hL]; exact hr
      exact make_sound (P := P) (s := s1) ho e3
    · cases h
  · rename_i args ats ho
    split at h
    · rename_i x y t t' ha1 ha2
      split at h
      · rename_i r hr
        cases h
        have hL : s1.L = s.L := by
          by_cases hw : appW k o (s.ev x) = true
          · simp only [hw, if_true] at hL; exact hL
          · simp only [hw] at hL; exact hL
        have e1 : args = #[x, y] := by apply Array.toList_inj.1; rw [ha1]
        have e2 : ats = #[t, t'] := by apply Array.toList_inj.1; rw [ha2]
        subst e1 e2
        have hx := hev x (by simp [ho, Op.operands, Call.operands])
        have hy := hev y (by simp [ho, Op.operands, Call.operands])
        have e3 : appendA P s1 t t' (s1.ev x) (s1.ev y) = some (r.1, r.2) := by
          rw [hx, hy]
          unfold appendA at hr ⊢
          rw [hL]; exact hr
        have := append_sound (P := P) (s := s1) ho e3
        by_cases hw : appW k o (s.ev x) = true
        · simp only [Sd.app, hw, if_true]
          exact this
        · simp only [Sd.app, hw]
          exact this
      · cases h
    · cases h
  · split at h
    case isFalse => cases h
    rename_i hrd
    split at h
    · rename_i x hx
      cases h
      have hne0 : kindP o.op ≠ .C := kindP_pure hx
      have hneW : kindP o.op ≠ .W := kindP_W _
      dsimp only at hL
      have hs : pureA P s1 o.op = some x ∧ (kindQ s o.op = .A ∨ kindQ s o.op = .B) := by
        rcases kindQ_cases s o.op with hq | ⟨hq, t, a, i, id, off, he, ha⟩
        · rw [hq] at hL ⊢
          cases hk : kindP o.op with
          | C => exact absurd hk hne0
          | W => exact absurd hk hneW
          | D => exact absurd hk (kindP_D _)
          | A => exact ⟨by rw [pureA_congr (P := P) (s := s) (s1 := s1) hev (fun h => absurd hk h)]; exact hx, .inl rfl⟩
          | B =>
            rw [hk] at hL
            obtain ⟨L0, X, hX, hlen, hW⟩ := hL
            refine ⟨?_, .inr rfl⟩
            rw [pureA_congr (P := P) (s := { s with L := L0 ++ X }) (s1 := s1) (fun x hx => by rw [hev x hx]; cases x <;> rfl) (fun _ => hX)]
            have h2 : pureA P { s with L := L0 } o.op = some x := by rw [pureA_W hW hrd]; exact hx
            exact pureA_mono (s := { s with L := L0 }) h2
        · refine ⟨?_, .inl hq⟩
          have ha1 : s1.ev a = .ptr id off := by rw [hev a (by rw [he]; simp [Op.operands])]; exact ha
          rw [he] at hx ⊢
          simp only [pureA, ha] at hx
          simp only [pureA, ha1]
          exact hx
      have hs2 := pureA_sound (P := P) hs.1
      unfold Sd.app
      dsimp only
      rcases hs.2 with hk | hk
      · rw [hk]; exact hs2
      · rw [hk]; exact hs2
    · cases h

/-- A load that may look at a variable that results go to (it keeps its place before and behind all that changes what is owned). -/
theorem RunL.loadD {P : Program} {k : Oper → Knd} {ops : Array Oper} {K : St → Prop} {o : Oper} {rest : List Oper} {s : St} {x : AV} (hg : guardA ops s o = some true) (hk : k o = .D) (hx : pureA P s o.op = some x)
    (h : RunL P k ops rest (s.put o.dst x) K) : RunL P k ops (o :: rest) s K := by
  refine .op ⟨.D, x, []⟩ (by rw [hk]; rfl) ⟨⟨fun _ h => (by cases h), fun h => (by cases h)⟩, fun s1 ha hL => ⟨by rw [agree_guard ha]; exact hg, ?_⟩⟩ h
  have hL : s1.L = s.L := hL
  have hev : ∀ x ∈ o.op.operands, s1.ev x = s.ev x := fun x hx => agree_ev ha hx
  have hs : pureA P s1 o.op = some x := by
    rw [pureA_congr (P := P) (s := s) (s1 := s1) hev (fun _ => hL)]; exact hx
  exact pureA_sound (P := P) hs

/-- A step of a region, then what follows. -/
def Rs (P : Program) (k : Oper → Knd) (ops : Array Oper) (next : St → (St → Prop) → Prop) : Option Sd → Oper → List Oper → St → (St → Prop) → Prop
  | some d, o, rest, s, K => d.kind.le (k o) = true ∧ next (d.app o s) K
  | none, o, rest, s, K => RunL P k ops (o :: rest) s K
/-- A step behind its guard. -/
def Rg (P : Program) (k : Oper → Knd) (ops : Array Oper) (next : St → (St → Prop) → Prop) : Option Bool → Oper → List Oper → St → (St → Prop) → Prop
  | some true, o, rest, s, K => Rs P k ops next (stepD P k s o) o rest s K
  | some false, o, rest, s, K => next (s.put o.dst (.tup [])) K
  | none, o, rest, s, K => RunL P k ops (o :: rest) s K
/-- The operations of a region, one behind another, as far as they are told without a call. -/
def R (P : Program) (k : Oper → Knd) (ops : Array Oper) : List Oper → St → (St → Prop) → Prop
  | [], s, K => K s
  | o :: rest, s, K => Rg P k ops (R P k ops rest) (guardA ops s o) o rest s K

theorem R.sound {P : Program} {k : Oper → Knd} {ops : Array Oper} : ∀ {l : List Oper} {s : St} {K : St → Prop}, R P k ops l s K → RunL P k ops l s K
  | [], s, K, h => .nil h
  | o :: rest, s, K, h => by
    unfold R at h
    cases hg : guardA ops s o with
    | none => rw [hg] at h; exact h
    | some b =>
      rw [hg] at h
      cases b with
      | false => exact .off hg (R.sound h)
      | true =>
        simp only [Rg] at h
        cases hs : stepD P k s o with
        | none => rw [hs] at h; exact h
        | some d => rw [hs] at h; exact .op _ h.1 (stepD_valid hg hs) (R.sound h.2)

theorem Rg.split {P : Program} {k : Oper → Knd} {ops : Array Oper} {next : St → (St → Prop) → Prop} {b : Bool} {o : Oper} {rest : List Oper} {s : St} {K : St → Prop}
    (ht : b = true → Rg P k ops next (some b) o rest s K) (hf : b = false → Rg P k ops next (some b) o rest s K) : Rg P k ops next (some b) o rest s K := by
  cases b
  · exact hf rfl
  · exact ht rfl

/-- A call of a function whose contract is over values alone. -/
theorem RunL.callv {P : Program} {k : Oper → Knd} {ops : Array Oper} {K : St → Prop} {o : Oper} {rest : List Oper} {s : St} {f : FuncId} {args : Array Operand} {ats : Array TypeId} {r : AV} {xs : List AV}
    (hg : guardA ops s o = some true) (ho : o.op = .call { callee := .value (.func f), args := args, argTypes := ats }) (hx : args.toList.map s.ev = xs) (hf : okFn P f = true)
    (h : Ct P f xs [] r []) (hp : pureL xs = true) (hk : R P k ops rest (s.put o.dst r) K) : RunL P k ops (o :: rest) s K := by
  refine .op ⟨.A, r, []⟩ rfl ⟨⟨fun _ h => (nomatch h), fun h => (nomatch h)⟩, fun s1 ha hL => ⟨by rw [agree_guard ha]; exact hg, ?_⟩⟩ (R.sound hk)
  have he : args.toList.map s1.ev = xs := by
    rw [← hx]
    exact map_congr_ev fun x hx => agree_ev ha (by rw [ho]; simp [Op.operands, Call.operands]; exact .inr (by simpa using hx))
  have := call_sound (P := P) (s := s1) ho hf (he ▸ h.frame s1.L (Pur.ofL hp))
  exact this

/-- A call of a function that works on what the caller owns. -/
theorem RunL.call {P : Program} {k : Oper → Knd} {ops : Array Oper} {K : St → Prop} {o : Oper} {rest : List Oper} {s : St} {f : FuncId} {args : Array Operand} {ats : Array TypeId} {r : AV} {L' : List AObj} {xs : List AV}
    (hg : guardA ops s o = some true) (ho : o.op = .call { callee := .value (.func f), args := args, argTypes := ats }) (hx : args.toList.map s.ev = xs) (hf : okFn P f = true) (hkd : Knd.le .C (k o) = true) (hal : isAlloc k o = false ∨ ∃ X, L' = s.L ++ X)
    (h : Ct P f xs s.L r L') (hk : R P k ops rest ({ s with L := L' }.put o.dst r) K) : RunL P k ops (o :: rest) s K := by
  refine .op ⟨.C, r, L'⟩ hkd ⟨⟨fun h _ => hal.resolve_left (by rw [h]; exact fun e => (nomatch e)), fun h => (nomatch h)⟩, fun s1 ha hL => ⟨by rw [agree_guard ha]; exact hg, ?_⟩⟩ (R.sound hk)
  have he : args.toList.map s1.ev = xs := by
    rw [← hx]
    exact map_congr_ev fun x hx => agree_ev ha (by rw [ho]; simp [Op.operands, Call.operands]; exact .inr (by simpa using hx))
  have hL : s1.L = s.L := hL
  exact call_sound (P := P) (s := s1) ho hf (by rw [he, hL]; exact h)

/-- A call of a closure. -/
theorem RunL.callc {P : Program} {k : Oper → Knd} {ops : Array Oper} {K : St → Prop} {o : Oper} {rest : List Oper} {s : St} {x : Operand} {f : FuncId} {cap : List AV} {args : Array Operand} {ats : Array TypeId} {r : AV} {L' : List AObj} {xs : List AV}
    (hg : guardA ops s o = some true) (ho : o.op = .call { callee := .value x, args := args, argTypes := ats }) (hc : s.ev x = .fn f cap) (hx : args.toList.map s.ev ++ cap = xs) (hf : okFn P f = true) (hkd : Knd.le .C (k o) = true) (hal : isAlloc k o = false ∨ ∃ X, L' = s.L ++ X)
    (h : Ct P f xs s.L r L') (hk : R P k ops rest ({ s with L := L' }.put o.dst r) K) : RunL P k ops (o :: rest) s K := by
  refine .op ⟨.C, r, L'⟩ hkd ⟨⟨fun h _ => hal.resolve_left (by rw [h]; exact fun e => (nomatch e)), fun h => (nomatch h)⟩, fun s1 ha hL => ⟨by rw [agree_guard ha]; exact hg, ?_⟩⟩ (R.sound hk)
  have he : args.toList.map s1.ev = args.toList.map s.ev :=
    map_congr_ev fun y hy => agree_ev ha (by rw [ho]; simp [Op.operands, Call.operands]; exact .inr (by simpa using hy))
  have hx1 : s1.ev x = .fn f cap := by rw [agree_ev ha (by rw [ho]; simp [Op.operands, Call.operands])]; exact hc
  have hL : s1.L = s.L := hL
  exact callc_sound (P := P) (s := s1) ho hx1 hf (by rw [he, hx, hL]; exact h)

end Go.Proofs.Ytobdpkkmkbafbaa.K
/-
  A logic of values for Go's functions (part 12): regions that leave their order open; all code without loops at once; loops by a relation.
-/
namespace Go.Proofs.Ytobdpkkmkbafbaa.K
set_option linter.unusedVariables false
set_option linter.unusedSimpArgs false
open Go Go.RowKit

/-! ### any order that the region's edges allow -/
def agrB (ops : Array Oper) (k : Oper → Knd) (x y : Oper) : Bool :=
  x.apart ops y && !((k x).mod && !(k y == .A || (k x == .W && k y == .B))) && !((k y).mod && !(k x == .A || (k x == .B && (isAlloc k y || k y == .W))))

def maskOf (M : Array Nat) (l : List Edge) (s : Nat) : Nat := l.foldl (fun s e => if Region.binds .any e then s ||| 2 ^ e.on ||| M.getD e.on 0 else s) s

/-- Each two, the first ahead of the second: bound by the edges, or free to change places. -/
def okPairs (k : Oper → Knd) (ops : Array Oper) (M : Array Nat) : List Nat → Bool
  | [] => true
  | j :: rest => (rest.all fun i => (M.getD i 0).testBit j || (match ops[j]?, ops[i]? with | some p, some o => agrB ops k p o | _, _ => false)) && okPairs k ops M rest

def okNodup : List Nat → Bool
  | [] => true
  | j :: rest => !rest.contains j && okNodup rest
theorem okNodup_spec : ∀ {l : List Nat}, okNodup l = true → l.Nodup
  | [], _ => List.nodup_nil
  | j :: rest, h => by
    simp only [okNodup, Bool.and_eq_true, Bool.not_eq_true'] at h
    exact List.nodup_cons.2 ⟨by simpa using h.1, okNodup_spec h.2⟩
/-- Whatever order the edges allow comes to the same as the order 'perm': a check of the region's text. -/
def okBase (ops : Array Oper) (perm : List Nat) : Bool :=
  let M := Region.before ops
  ((List.range ops.size).all fun i =>
    match ops[i]? with
    | some o => o.after.toList.all (fun e => !Region.binds .any e || e.on < i) && (M.getD i 0 == maskOf M o.after.toList 0)
    | none => false) &&
  ((List.range ops.size).all fun i => perm.contains i) && (perm.length == ops.size && perm.all (fun i => decide (i < ops.size)) && okNodup perm)
def okPerm (k : Oper → Knd) (ops : Array Oper) (perm : List Nat) : Bool := okBase ops perm && okPairs k ops (Region.before ops) perm
def okDraw (k : Oper → Knd) (ops : Array Oper) : Bool := okPerm k ops (List.range ops.size)

/-- The same as 'RunL', by the operations' numbers. -/
inductive RunI (P : Program) (k : Oper → Knd) (ops : Array Oper) : List Nat → St → (St → Prop) → Prop where
  | nil {s : St} {K : St → Prop} (h : K s) : RunI P k ops [] s K
  | op {i : Nat} {o : Oper} {rest : List Nat} {s : St} {K : St → Prop} (d : Sd) (ho : ops[i]? = some o) (hk : d.kind.le (k o) = true) (h : Valid P k ops o d s) (hr : RunI P k ops rest (d.app o s) K) : RunI P k ops (i :: rest) s K
  | off {i : Nat} {o : Oper} {rest : List Nat} {s : St} {K : St → Prop} (ho : ops[i]? = some o) (hg : guardA ops s o = some false) (hr : RunI P k ops rest (s.put o.dst (.tup [])) K) : RunI P k ops (i :: rest) s K

theorem RunI.of_perm {P : Program} {k : Oper → Knd} {ops : Array Oper} {K : St → Prop} : ∀ (perm : List Nat) (s : St), (∀ i ∈ perm, i < ops.size) → RunL P k ops (perm.filterMap fun i => ops[i]?) s K → RunI P k ops perm s K
  | [], s, _, h => by cases h with | nil h => exact .nil h
  | i :: rest, s, hlt, h => by
    have hil := hlt i (by simp)
    have hi : ops[i]? = some ops[i] := Array.getElem?_eq_getElem hil
    simp only [List.filterMap_cons, hi] at h
    cases h with
    | op d hk h hr => exact .op d hi hk h (RunI.of_perm rest _ (fun j hj => hlt j (by simp [hj])) hr)
    | off hg hr => exact .off hi hg (RunI.of_perm rest _ (fun j hj => hlt j (by simp [hj])) hr)

theorem RunI.of_list {P : Program} {k : Oper → Knd} {ops : Array Oper} {K : St → Prop} : ∀ (rest pre : List Oper) (s : St), ops.toList = pre ++ rest → RunL P k ops rest s K → RunI P k ops (List.range' pre.length rest.length) s K
  | [], pre, s, hl, h => by cases h with | nil h => exact .nil h
  | o :: rest, pre, s, hl, h => by
    have hi : ops[pre.length]? = some o := by
      rw [← Array.getElem?_toList, hl, List.getElem?_append_right (Nat.le_refl _)]; simp
    have hl' : ops.toList = (pre ++ [o]) ++ rest := by rw [hl]; simp
    simp only [List.length_cons, List.range'_succ]
    cases h with
    | op d hk h hr =>
      have := RunI.of_list rest (pre ++ [o]) _ hl' hr
      exact .op d hi hk h (by simpa using this)
    | off hg hr =>
      have := RunI.of_list rest (pre ++ [o]) _ hl' hr
      exact .off hi hg (by simpa using this)

theorem Sd.app_t {d : Sd} {o : Oper} {s : St} {t : Tmp} (h : ∀ e, o.dst = some e → e ≠ t) : (d.app o s).t[t]? = s.t[t]? := by
  have hp : ∀ (s : St) x, (s.put o.dst x).t[t]? = s.t[t]? := by
    intro s x
    cases hd : o.dst with
    | none => rfl
    | some e => simp only [St.put]; rw [List.getElem?_set_ne (h e hd)]
  unfold Sd.app
  split
  · rw [hp]
  · rw [hp]
  · exact hp _ _

theorem Sd.app_L {d : Sd} {o : Oper} {s : St} (h : d.kind.mod = false) : (d.app o s).L = s.L := by
  unfold Sd.app
  split
  · rename_i hk; rw [hk] at h; cases h
  · rename_i hk; rw [hk] at h; cases h
  · exact St.put_L _ _ _
theorem Sd.app_L' {d : Sd} {o : Oper} {s : St} (h : d.kind.mod = true) : (d.app o s).L = d.L' := by
  unfold Sd.app
  split
  · exact St.put_L _ _ _
  · exact St.put_L _ _ _
  · rename_i h1 h2
    cases hk : d.kind <;> simp_all [Knd.mod]

theorem Valid.of {P : Program} {k : Oper → Knd} {ops : Array Oper} {o : Oper} {d : Sd} {s s1 : St} (h : Valid P k ops o d s) (ha : agree (o.looksAt ops) s s1) (hL : Lok k d.kind s.L s1.L) : Valid P k ops o d s1 :=
  ⟨⟨fun h1 h2 => by
    have := h.1.1 h1 h2
    rw [h2] at hL
    rw [show s1.L = s.L from hL]; exact this,
   fun h2 => by
    have := h.1.2 h2
    rw [h2] at hL
    rw [show s1.L = s.L from hL]; exact this⟩,
   fun s2 ha2 hL2 => h.2 s2 (fun t ht => (ha2 t ht).trans (ha t ht)) (hL.trans hL2)⟩

theorem put_comm (s : St) {x y : Option Tmp} (v u : AV) (h : ∀ d, x = some d → y ≠ some d) : (s.put x v).put y u = (s.put y u).put x v := by
  cases x with
  | none => rfl
  | some d =>
    cases y with
    | none => rfl
    | some e =>
      have hne : d ≠ e := fun he => h d rfl (he ▸ rfl)
      simp only [St.put]
      rw [List.set_comm _ _ hne]

theorem app_comm {d e : Sd} {o p : Oper} (s : St) (h : ∀ t, o.dst = some t → p.dst ≠ some t) (hk : d.kind.mod = false ∨ e.kind.mod = false) : e.app p (d.app o s) = d.app o (e.app p s) := by
  obtain ⟨dk, dx, dL⟩ := d
  obtain ⟨ek, ex, eL⟩ := e
  unfold Sd.app
  cases ho : o.dst with
  | none => cases dk <;> cases ek <;> cases p.dst <;> first | rfl | (simp [Knd.mod] at hk)
  | some a =>
    cases hp : p.dst with
    | none => cases dk <;> cases ek <;> first | rfl | (simp [Knd.mod] at hk)
    | some b =>
      have hne : a ≠ b := fun he => h a ho (by rw [hp, he])
      cases dk <;> cases ek <;> first | (simp [Knd.mod] at hk; done) | (simp only [St.put]; rw [List.set_comm _ _ hne])

theorem le_facts {a b : Knd} (h : a.le b = true) : (a.mod = true → b.mod = true) ∧ (a ≠ .A → b ≠ .A) ∧ (a = .B → b ≠ .W) ∧ (a = .W → b ≠ .B) ∧ (a = .C → b = .C) ∧ (b = .W → a = .A ∨ a = .W) ∧ (b = .B → a = .A ∨ a = .B) := by
  cases a <;> cases b <;> simp [Knd.le, Knd.mod] at h ⊢

theorem sameAt_set {k : Oper → Knd} {L : List AObj} {id i : Nat} {o' : AObj} (hw : isW k id = true ∨ (rowsAt k id = true ∧ isRow L[id]? ∧ isRow (some o'))) (hi : isW k i = false) : SameAt k (L.set id o') L i ∧ SameAt k L (L.set id o') i := by
  by_cases e : id = i
  · subst e
    rcases hw with hw | ⟨h1, h2, h3⟩
    · rw [hw] at hi; cases hi
    · have hlt : id < L.length := by obtain ⟨_, _, _, _, h⟩ := h2; exact (List.getElem?_eq_some_iff.1 h).1
      have h4 : isRow (L.set id o')[id]? := by rw [List.getElem?_set_self hlt]; exact h3
      exact ⟨.inr ⟨h1, h4, h2⟩, .inr ⟨h1, h2, h4⟩⟩
  · exact ⟨.inl (List.getElem?_set_ne e).symm, .inl (List.getElem?_set_ne e)⟩

/-- An operation that hangs on none of those ahead of it may come first. -/
theorem RunI.monoK {P : Program} {k : Oper → Knd} {ops : Array Oper} {K K' : St → Prop} (hk : ∀ s, K s → K' s) {l : List Nat} {s : St} (h : RunI P k ops l s K) : RunI P k ops l s K' := by
  induction h with
  | nil h => exact .nil (hk _ h)
  | op d ho h1 h2 hr ih => exact .op d ho h1 h2 (ih hk)
  | off ho hg hr ih => exact .off ho hg (ih hk)
theorem RunI.front {P : Program} {k : Oper → Knd} {ops : Array Oper} {K : St → Prop} {i : Nat} {o : Oper} {post : List Nat} (ho : ops[i]? = some o) : ∀ (pre : List Nat) (s : St),
    (∀ j ∈ pre, ∃ p, ops[j]? = some p ∧ agrB ops k p o = true) → RunI P k ops (pre ++ i :: post) s K →
    (∃ d, d.kind.le (k o) = true ∧ Valid P k ops o d s ∧ RunI P k ops (pre ++ post) (d.app o s) K) ∨ (guardA ops s o = some false ∧ RunI P k ops (pre ++ post) (s.put o.dst (.tup [])) K)
  | [], s, _, h => by
    cases h with
    | op d ho' hk h hr => rw [ho] at ho'; cases ho'; exact .inl ⟨d, hk, h, hr⟩
    | off ho' hg hr => rw [ho] at ho'; cases ho'; exact .inr ⟨hg, hr⟩
  | j :: pre, s, hall, h => by
    obtain ⟨p, hp, hag⟩ := hall j (by simp)
    simp only [agrB, Bool.and_eq_true] at hag
    obtain ⟨⟨hap, hk1⟩, hk2⟩ := hag
    have hk1 : (k p).mod = true → k o = .A ∨ (k p = .W ∧ k o = .B) := by
      intro hm
      cases hp1 : k p <;> cases ho1 : k o <;> simp_all [Knd.mod]
    have hk2 : (k o).mod = true → k p = .A ∨ (k p = .B ∧ (isAlloc k o = true ∨ k o = .W)) := by
      intro hm
      cases hp1 : k p <;> cases ho1 : k o <;> simp_all [Knd.mod]
    obtain ⟨a1, a2, a3⟩ := Oper.apart_spec hap
    have hdd : ∀ t, o.dst = some t → p.dst ≠ some t := fun t h1 h2 => a2 t h2 h1
    have reads_o : ∀ (s : St) (q : Sd), agree (o.looksAt ops) s (q.app p s) := fun s q t ht => Sd.app_t fun e he hte => a1 e he (hte ▸ ht)
    have reads_p : ∀ (s : St) (q : Sd), agree (p.looksAt ops) s (q.app o s) := fun s q t ht => Sd.app_t fun e he hte => a3 e he (hte ▸ ht)
    have junk_eq : ∀ (o : Oper) (s : St), s.put o.dst (.tup []) = (⟨.A, .tup [], []⟩ : Sd).app o s := fun _ _ => rfl
    have ih := fun (s : St) (hs : RunI P k ops (pre ++ i :: post) s K) => RunI.front (post := post) ho pre s (fun j' hj' => hall j' (by simp [hj'])) hs
    -- the step 'j' told as one
    have main : ∀ (q : Sd), ((q.kind = .A ∨ q.kind.le (k p) = true)) → (q.kind = .W → ∃ id o', (isW k id = true ∨ (rowsAt k id = true ∧ isRow s.L[id]? ∧ isRow (some o'))) ∧ q.L' = s.L.set id o') → (∀ s1, agree (p.looksAt ops) s s1 → Lok k q.kind s.L s1.L → ∀ {rest : List Nat}, RunI P k ops rest (q.app p s1) K → RunI P k ops (j :: rest) s1 K) →
        RunI P k ops (pre ++ i :: post) (q.app p s) K →
        (∃ d, d.kind.le (k o) = true ∧ Valid P k ops o d s ∧ RunI P k ops (j :: pre ++ post) (d.app o s) K) ∨ (guardA ops s o = some false ∧ RunI P k ops (j :: pre ++ post) (s.put o.dst (.tup [])) K) := by
      intro q hq hwq hstep hrest
      have hqm : q.kind.mod = true → (k p).mod = true := by
        intro e; rcases hq with hq | hq
        · rw [hq] at e; cases e
        · exact (le_facts hq).1 e
      have hqA : q.kind ≠ .A → k p ≠ .A := by
        intro e; rcases hq with hq | hq
        · exact absurd hq e
        · exact (le_facts hq).2.1 e
      have hqB : k p = .B → q.kind = .A ∨ q.kind = .B := by
        intro e; rcases hq with hq | hq
        · exact .inl hq
        · exact (le_facts hq).2.2.2.2.2.2 e
      have hqW : k p = .W → q.kind = .A ∨ q.kind = .W := by
        intro e; rcases hq with hq | hq
        · exact .inl hq
        · exact (le_facts hq).2.2.2.2.2.1 e
      have hqv := hwq
      rcases ih _ hrest with ⟨d, hdk, hv, hr⟩ | ⟨hg, hr⟩
      · have hdf := le_facts hdk
        -- what the earlier step leaves, as the later one sees it
        have hLd : Lok k d.kind (q.app p s).L s.L := by
          cases hqk : q.kind.mod with
          | false => exact .of fun _ => (Sd.app_L hqk).symm
          | true =>
            rcases hk1 (hqm hqk) with h1 | ⟨h1, h2⟩
            · have : d.kind = .A := by
                rcases hd : d.kind with _ | _ | _ | _ | _
                · rfl
                all_goals exact absurd h1 (hdf.2.1 (by rw [hd]; simp))
              rw [this]; trivial
            · rcases hdf.2.2.2.2.2.2 h2 with h3 | h3
              · rw [h3]; trivial
              · rw [h3]
                rcases hqW h1 with h4 | h4
                · rw [h4] at hqk; cases hqk
                · obtain ⟨id, o', hw, he⟩ := hqv h4
                  rw [Sd.app_L' hqk, he]
                  refine ⟨s.L, [], by simp, by simp, fun i hi => ?_⟩
                  exact (sameAt_set hw hi).1
        have hvs : Valid P k ops o d s := hv.of (fun t ht => (reads_o s q t ht).symm) hLd
        refine .inl ⟨d, hdk, hvs, ?_⟩
        refine hstep _ (reads_p s d) ?_ ?_
        · cases hdm : d.kind.mod with
          | false => exact .of fun _ => Sd.app_L hdm
          | true =>
            rcases hk2 (hdf.1 hdm) with h1 | ⟨h1, h2⟩
            · have : q.kind = .A := by
                rcases hq3 : q.kind with _ | _ | _ | _ | _
                · rfl
                all_goals exact absurd h1 (hqA (by rw [hq3]; simp))
              rw [this]; trivial
            · rcases hqB h1 with h3 | h3
              · rw [h3]; trivial
              · rw [h3, Sd.app_L' hdm]
                rcases hd : d.kind with _ | _ | _ | _ | _
                · rw [hd] at hdm; cases hdm
                · rw [hd] at hdm; cases hdm
                · rcases h2 with h2 | h2
                  · obtain ⟨X, hX⟩ := hvs.1.1 h2 hd
                    exact ⟨s.L, X, hX, rfl, fun _ _ => .inl rfl⟩
                  · exact absurd h2 (by have := hdf.2.2.2.2.1 hd; rw [this]; simp)
                · obtain ⟨id, o', hw, he⟩ := hvs.1.2 hd
                  refine ⟨s.L.set id o', [], by rw [he]; simp, by simp, fun i hi => ?_⟩
                  exact (sameAt_set hw hi).2
                · rw [hd] at hdm; cases hdm
        · rw [app_comm s hdd ?_]
          · exact hr
          · cases hdm : d.kind.mod with
            | false => exact .inl rfl
            | true =>
              right
              cases hqm2 : q.kind.mod with
              | false => rfl
              | true =>
                exfalso
                rcases hk1 (hqm hqm2) with h1 | ⟨h1, h2⟩
                · have := hdf.1 hdm; rw [h1] at this; cases this
                · have := hdf.1 hdm; rw [h2] at this; cases this
      · refine .inr ⟨?_, ?_⟩
        · rw [← agree_guard (reads_o s q)]; exact hg
        · rw [junk_eq]
          refine hstep _ (reads_p s _) (.of fun _ => Sd.app_L rfl) ?_
          rw [app_comm s hdd (.inl rfl)]
          exact hr
    cases h with
    | op q hp' hk hv hr =>
      rw [hp] at hp'; cases hp'
      exact main q (.inr hk) hv.1.2 (fun s1 ha hL rest hr => .op q hp hk (hv.of ha hL) hr) hr
    | off hp' hg hr =>
      rw [hp] at hp'; cases hp'
      exact main ⟨.A, .tup [], []⟩ (.inl rfl) (fun h => by cases h) (fun s1 ha hL rest hr => .off hp (by rw [agree_guard ha]; exact hg) hr) hr

/-! ### the operations' dependences -/
theorem maskOf_spec {M : Array Nat} {j : Nat} : ∀ (l : List Edge) (s : Nat), (maskOf M l s).testBit j = true → s.testBit j = true ∨ ∃ e ∈ l, Region.binds .any e = true ∧ (e.on = j ∨ (M.getD e.on 0).testBit j = true)
  | [], s, h => .inl h
  | e :: l, s, h => by
    have h' : (maskOf M l (if Region.binds .any e then s ||| 2 ^ e.on ||| M.getD e.on 0 else s)).testBit j = true := h
    rcases maskOf_spec l _ h' with h1 | ⟨e', he', hb, h2⟩
    · split at h1
      · rename_i hb
        simp only [Nat.testBit_or, Bool.or_eq_true, Nat.testBit_two_pow, decide_eq_true_eq] at h1
        rcases h1 with (h1 | h1) | h1
        · exact .inl h1
        · exact .inr ⟨e, by simp, hb, .inl h1⟩
        · exact .inr ⟨e, by simp, hb, .inr h1⟩
      · exact .inl h1
    · exact .inr ⟨e', by simp [he'], hb, h2⟩

def PairOk (k : Oper → Knd) (ops : Array Oper) (M : Array Nat) (j i : Nat) : Prop := (M.getD i 0).testBit j = true ∨ ∃ p o, ops[j]? = some p ∧ ops[i]? = some o ∧ agrB ops k p o = true

structure DrawOk (k : Oper → Knd) (ops : Array Oper) (M : Array Nat) (perm : List Nat) : Prop where
  lt : ∀ (i : Nat) o e, ops[i]? = some o → e ∈ o.after.toList → Region.binds .any e = true → e.on < i
  mask : ∀ (i : Nat) o, ops[i]? = some o → M.getD i 0 = maskOf M o.after.toList 0
  all : ∀ i, i < ops.size → i ∈ perm
  size : perm.length = ops.size
  bound : ∀ i ∈ perm, i < ops.size
  nodup : perm.Nodup

theorem okPairs_spec {k : Oper → Knd} {ops : Array Oper} {M : Array Nat} : ∀ {l : List Nat}, okPairs k ops M l = true → l.Pairwise (PairOk k ops M)
  | [], _ => .nil
  | j :: rest, h => by
    simp only [okPairs, Bool.and_eq_true] at h
    refine List.pairwise_cons.2 ⟨fun i hi => ?_, okPairs_spec h.2⟩
    have := List.all_eq_true.1 h.1 i hi
    simp only [Bool.or_eq_true] at this
    rcases this with h1 | h1
    · exact .inl h1
    · split at h1
      · rename_i p o hp ho; exact .inr ⟨p, o, hp, ho, h1⟩
      · cases h1

theorem okBase_spec {k : Oper → Knd} {ops : Array Oper} {perm : List Nat} (h : okBase ops perm = true) : DrawOk k ops (Region.before ops) perm := by
  simp only [okBase, Bool.and_eq_true] at h
  obtain ⟨⟨h1, h2⟩, ⟨h3, h5⟩, h6⟩ := h
  have h' : ∀ (i : Nat) o, ops[i]? = some o → (o.after.toList.all (fun e => !Region.binds .any e || e.on < i) && ((Region.before ops).getD i 0 == maskOf (Region.before ops) o.after.toList 0)) = true := by
    intro i o ho
    have hi := (Array.getElem?_eq_some_iff.1 ho).1
    have := List.all_eq_true.1 h1 i (List.mem_range.2 hi)
    simpa only [ho] using this
  refine ⟨fun i o e ho he hb => ?_, fun i o ho => ?_, fun i hi => ?_, by simpa using h3, fun i hi => by simpa using List.all_eq_true.1 h5 i hi, okNodup_spec h6⟩
  · have := h' i o ho
    simp only [Bool.and_eq_true] at this
    have := List.all_eq_true.1 this.1 e he
    simpa [hb] using this
  · have := h' i o ho
    simp only [Bool.and_eq_true, beq_iff_eq] at this
    exact this.2
  · have := List.all_eq_true.1 h2 i (List.mem_range.2 hi)
    simpa using this

theorem okPerm_spec {k : Oper → Knd} {ops : Array Oper} {perm : List Nat} (h : okPerm k ops perm = true) : DrawOk k ops (Region.before ops) perm ∧ perm.Pairwise (PairOk k ops (Region.before ops)) := by
  simp only [okPerm, Bool.and_eq_true] at h
  exact ⟨okBase_spec h.1, okPairs_spec h.2⟩

def listedClosed (ops : Array Oper) (listed : Array Bool) : Prop :=
  ∀ (i : Nat) o e, ops[i]? = some o → listed.getD i false = true → e ∈ o.after.toList → Region.binds .any e = true → listed.getD e.on false = true

theorem mask_listed {k : Oper → Knd} {ops : Array Oper} {M : Array Nat} {perm : List Nat} (D : DrawOk k ops M perm) {listed : Array Bool} (hc : listedClosed ops listed) :
    ∀ (i : Nat) o, ops[i]? = some o → (∀ e ∈ o.after.toList, Region.binds .any e = true → listed.getD e.on false = true) → ∀ j, (M.getD i 0).testBit j = true → listed.getD j false = true := by
  intro i
  induction i using Nat.strongRecOn with
  | _ i ih =>
    intro o ho hpre j hj
    rw [D.mask i o ho] at hj
    rcases maskOf_spec _ _ hj with h0 | ⟨e, he, hb, h1⟩
    · simp at h0
    · rcases h1 with rfl | h1
      · exact hpre e he hb
      · have hlt := D.lt i o e ho he hb
        have hil := (Array.getElem?_eq_some_iff.1 ho).1
        have hoe : ops[e.on]? = some ops[e.on] := Array.getElem?_eq_getElem (by omega)
        exact ih e.on hlt _ hoe (fun e' he' hb' => hc _ _ _ hoe (hpre e he hb) he' hb') j h1

theorem ready_iff {ops : Array Oper} {listed : Array Bool} {i : Nat} : i ∈ Region.ready .any ops listed ↔
    ∃ o, ops[i]? = some o ∧ listed.getD i true = false ∧ ∀ e ∈ o.after.toList, Region.binds .any e = true → listed.getD e.on false = true := by
  unfold Region.ready
  simp only [List.mem_filter, List.mem_range, Bool.and_eq_true, Bool.not_eq_true']
  constructor
  · rintro ⟨hi, hl, h⟩
    have ho : ops[i]? = some ops[i] := Array.getElem?_eq_getElem hi
    refine ⟨ops[i], ho, hl, fun e he hb => ?_⟩
    simp only [ho, Option.map_some, Option.getD_some, Array.all_eq_true_iff_forall_mem] at h
    have := h e (by simpa using he)
    simpa [hb] using this
  · rintro ⟨o, ho, hl, h⟩
    refine ⟨(Array.getElem?_eq_some_iff.1 ho).1, hl, ?_⟩
    simp only [ho, Option.map_some, Option.getD_some, Array.all_eq_true_iff_forall_mem]
    intro e he
    cases hb : Region.binds .any e with
    | false => rfl
    | true => simpa [hb] using h e (by simpa using he) hb

def left_ (perm : List Nat) (listed : Array Bool) : List Nat := perm.filter fun i => !listed.getD i true

theorem least_of {l : List Nat} (h : l ≠ []) : ∃ i ∈ l, ∀ j ∈ l, i ≤ j := by
  induction l with
  | nil => exact absurd rfl h
  | cons a l ih =>
    by_cases hl : l = []
    · subst hl; exact ⟨a, by simp, fun j hj => by simp at hj; omega⟩
    · obtain ⟨i, hi, hmin⟩ := ih hl
      by_cases hai : a ≤ i
      · exact ⟨a, by simp, fun j hj => by rcases List.mem_cons.1 hj with rfl | hj; omega; have := hmin j hj; omega⟩
      · exact ⟨i, by simp [hi], fun j hj => by rcases List.mem_cons.1 hj with rfl | hj; omega; exact hmin j hj⟩

section
variable {k : Oper → Knd} {ops : Array Oper} {M : Array Nat} {perm : List Nat}
theorem DrawOk.memL (D : DrawOk k ops M perm) {listed : Array Bool} {i : Nat} : i ∈ left_ perm listed ↔ i < ops.size ∧ listed.getD i true = false := by
  simp only [left_, List.mem_filter, Bool.not_eq_true']
  exact ⟨fun h => ⟨D.bound i h.1, h.2⟩, fun h => ⟨D.all i h.1, h.2⟩⟩
theorem DrawOk.noReady (D : DrawOk k ops M perm) (listed : Array Bool) (hsz : listed.size = ops.size) (hr : Region.ready .any ops listed = []) : left_ perm listed = [] := by
  refine Decidable.byContradiction fun hne => ?_
  obtain ⟨i, hi, hmin⟩ := least_of hne
  have hi' := D.memL.1 hi
  have hoi : ops[i]? = some ops[i] := Array.getElem?_eq_getElem hi'.1
  have : i ∈ Region.ready .any ops listed := by
    refine ready_iff.2 ⟨_, hoi, hi'.2, fun e he hb => ?_⟩
    have hlt := D.lt i _ e hoi he hb
    have hnot : e.on ∉ left_ perm listed := fun hm => by have := hmin _ hm; omega
    rw [D.memL] at hnot
    have hlt2 : e.on < listed.size := by omega
    have := fun h => hnot ⟨by omega, h⟩
    simp only [Array.getD, hlt2, dif_pos] at this ⊢
    simpa using this
  rw [hr] at this
  cases this
theorem DrawOk.take (D : DrawOk k ops M perm) {listed : Array Bool} (hsz : listed.size = ops.size) {i : Nat} (him : i ∈ left_ perm listed) :
    ∃ pre post, left_ perm listed = pre ++ i :: post ∧ left_ perm (listed.setIfInBounds i true) = pre ++ post ∧ i ∉ pre ∧ i ∉ post := by
  obtain ⟨pre, post, hsplit⟩ := List.append_of_mem him
  have hndl : (left_ perm listed).Nodup := D.nodup.filter _
  rw [hsplit] at hndl
  have hnp : i ∉ pre := fun h => by
    rw [List.nodup_append] at hndl
    exact hndl.2.2 i h i (by simp) rfl
  have hnq : i ∉ post := fun h => by
    rw [List.nodup_append] at hndl
    exact (List.nodup_cons.1 hndl.2.1).1 h
  refine ⟨pre, post, hsplit, ?_, hnp, hnq⟩
  have e1 : left_ perm (listed.setIfInBounds i true) = (left_ perm listed).filter (fun j => j != i) := by
    unfold left_
    rw [List.filter_filter]
    apply List.filter_congr
    intro j hj
    have hj' : j < listed.size := by rw [hsz]; exact D.bound j hj
    by_cases hji : j = i
    · subst hji; simp [Array.getD, hj']
    · simp [Array.getD, hj', hji, Array.getElem_setIfInBounds, Ne.symm hji]
  rw [e1, hsplit, List.filter_append, List.filter_cons]
  simp only [bne_self_eq_false, Bool.false_eq_true, if_false]
  rw [List.filter_eq_self.2, List.filter_eq_self.2]
  · intro j hj; simp; rintro rfl; exact hnq hj
  · intro j hj; simp; rintro rfl; exact hnp hj
theorem closed_take {listed : Array Bool} (hsz : listed.size = ops.size) (hc : listedClosed ops listed) {i : Nat} {o : Oper} (ho : ops[i]? = some o)
    (hpre : ∀ e ∈ o.after.toList, Region.binds .any e = true → listed.getD e.on false = true) : listedClosed ops (listed.setIfInBounds i true) := by
  have hlt := (Array.getElem?_eq_some_iff.1 ho).1
  intro j p e hp hj he hb
  have keep : ∀ m, listed.getD m false = true → (listed.setIfInBounds i true).getD m false = true := by
    intro m hm
    by_cases hmi : m = i
    · subst hmi
      have : m < listed.size := by omega
      simp [Array.getD, this]
    · have hms : m < listed.size := by
        rcases Nat.lt_or_ge m listed.size with h | h
        · exact h
        · simp [Array.getD, Nat.not_lt.2 h] at hm
      simp only [Array.getD, hms, dif_pos] at hm
      simp [Array.getD, hms, Array.getElem_setIfInBounds, Ne.symm hmi]
      simpa using hm
  refine keep _ ?_
  by_cases hji : j = i
  · subst hji
    rw [ho] at hp; cases hp
    exact hpre e he hb
  · have hjs : j < listed.size := by rw [hsz]; exact (Array.getElem?_eq_some_iff.1 hp).1
    refine hc j p e hp ?_ he hb
    simp [Array.getD, hjs, Array.getElem_setIfInBounds, Ne.symm hji] at hj
    simp [Array.getD, hjs, hj]
theorem DrawOk.agr (D : DrawOk k ops M perm) {listed : Array Bool} (hsz : listed.size = ops.size) (hc : listedClosed ops listed) {i : Nat} {o : Oper} (ho : ops[i]? = some o)
    (hpre : ∀ e ∈ o.after.toList, Region.binds .any e = true → listed.getD e.on false = true) {pre post : List Nat} (hsplit : left_ perm listed = pre ++ i :: post)
    (hpw : ∀ j ∈ pre, PairOk k ops M j i) : ∀ j ∈ pre, ∃ p, ops[j]? = some p ∧ agrB ops k p o = true := by
  intro j hj
  rcases hpw j hj with h1 | ⟨p, o', h1, h2, h3⟩
  · exfalso
    have := mask_listed D hc i o ho hpre j h1
    have hjm : j ∈ left_ perm listed := by rw [hsplit]; simp [hj]
    have h2 := (D.memL.1 hjm)
    have hjs : j < listed.size := by omega
    have h2 := h2.2
    simp only [Array.getD, hjs, dif_pos] at this h2
    rw [this] at h2; cases h2
  · rw [ho] at h2; cases h2
    exact ⟨p, h1, h3⟩
end

theorem any_of_run {P : Program} {k : Oper → Knd} {ops : Array Oper} {M : Array Nat} {perm : List Nat} (D : DrawOk k ops M perm) {Q : Exit → St → Prop} {ro : Option Nat} {γ0 : Nat → Gh} {L0 : List AObj} {w0 : World} :
    ∀ (fuel : Nat) (listed : Array Bool) (s : St) (γ : Nat → Gh) (a : Act) (w : World), listed.size = ops.size → listedClosed ops listed → (left_ perm listed).length ≤ fuel → (left_ perm listed).Pairwise (PairOk k ops M) →
      Rel γ s a w → Ext γ0 L0 γ s.L → Stp γ0 w0 γ w → RunI P k ops (left_ perm listed) s (Q .normal) →
      wpAnyIn (FW ro) 0 P .any ops (fun e a' w' => ∃ γ' s', Rel γ' s' a' w' ∧ Ext γ0 L0 γ' s'.L ∧ Stp γ0 w0 γ' w' ∧ Q e s') fuel listed a w := by
  intro fuel
  induction fuel with
  | zero =>
    intro listed s γ a w hsz hc hf _ hr hE hS hrun
    have hnil : left_ perm listed = [] := List.eq_nil_of_length_eq_zero (by omega)
    rw [hnil] at hrun
    cases hrun with
    | nil h =>
      refine ⟨?_, γ, s, hr, hE, hS, h⟩
      apply List.eq_nil_iff_forall_not_mem.2
      intro i hi
      obtain ⟨o, ho, hl, _⟩ := ready_iff.1 hi
      have : i ∈ left_ perm listed := D.memL.2 ⟨(Array.getElem?_eq_some_iff.1 ho).1, hl⟩
      rw [hnil] at this; cases this
  | succ fuel ih =>
    intro listed s γ a w hsz hc hf hpw hr hE hS hrun
    refine ⟨fun hnone => ?_, fun i hi => ?_⟩
    · rw [D.noReady listed hsz hnone] at hrun
      cases hrun with
      | nil h => exact ⟨γ, s, hr, hE, hS, h⟩
    · obtain ⟨o, ho, hl, hpre⟩ := ready_iff.1 hi
      have him : i ∈ left_ perm listed := D.memL.2 ⟨(Array.getElem?_eq_some_iff.1 ho).1, hl⟩
      obtain ⟨pre, post, hsplit, hnew, hnp, hnq⟩ := D.take hsz him
      have hclosed := closed_take hsz hc ho hpre
      rw [hsplit] at hpw hrun
      have hagr := D.agr hsz hc ho hpre hsplit fun j hj => (List.pairwise_append.1 hpw).2.2 j hj i (by simp)
      have hflen : (left_ perm (listed.setIfInBounds i true)).length ≤ fuel := by
        rw [hnew]; rw [hsplit] at hf; simp at hf ⊢; omega
      have hpw' : (left_ perm (listed.setIfInBounds i true)).Pairwise (PairOk k ops M) := by
        rw [hnew]; exact hpw.sublist (List.Sublist.append_left (List.sublist_cons_self i post) pre)
      unfold wpOpIn
      simp only [ho]
      rcases RunI.front ho pre s hagr hrun with ⟨d, hdk, hv, hrest⟩ | ⟨hg, hrest⟩
      · obtain ⟨hg, hop⟩ := hv.2 s (fun _ _ => rfl) (Lok.refl _ _)
        rw [guardA_wanted hr hg, if_pos rfl]
        refine hop.wpIn ro hr fun γ' a' w' hr' hE' hS' => ?_
        exact ih _ _ γ' a' w' (by simp [hsz]) hclosed hflen hpw' hr' (hE.trans hE') (hS.trans hS') (by rw [hnew]; exact hrest)
      · rw [guardA_wanted hr hg, if_neg (by decide)]
        refine ⟨fun _ _ => trivial, ?_⟩
        exact ih _ _ γ _ w (by simp [hsz]) hclosed hflen hpw' (hr.put o.dst rv_undef) (by rw [St.put_L]; exact hE) hS (by rw [hnew]; exact hrest)

/-! ### two operations in either order -/
def simpleOp (o : Oper) : Bool :=
  match o.op with
  | .move _ | .assign _ | .alloc _ | .box _ _ | .load _ _ | .store _ _ _ | .fieldAddr _ _ _ | .indexAddr _ _ _ => true
  | .build _ _ | .buildSlice _ _ _ | .slice _ _ _ _ _ | .binOp _ _ _ _ _ | .unOp _ _ _ => true
  | _ => false
theorem run_shapeV {P : Program} {w : World} (s : Sem Value) : (∃ v w', (do pure (Next.value (← s)) : Sem Next).run P w = .ok (.value v) w') ∨ (∃ x w', (do pure (Next.value (← s)) : Sem Next).run P w = .halt x w') := by
  simp only [Sem.run_bind]
  cases h : s.run P w with
  | ok v w' => exact .inl ⟨v, w', rfl⟩
  | halt x w' => exact .inr ⟨x, w', rfl⟩
theorem run_shapeU {P : Program} {w : World} (s : Sem Unit) : (∃ w', (do s; pure Next.skip : Sem Next).run P w = .ok .skip w') ∨ (∃ x w', (do s; pure Next.skip : Sem Next).run P w = .halt x w') := by
  simp only [Sem.run_bind]
  cases h : s.run P w with
  | ok v w' => exact .inl ⟨w', rfl⟩
  | halt x w' => exact .inr ⟨x, w', rfl⟩
theorem simple_run {P : Program} {o : Oper} (h : simpleOp o = true) (ρ : Operand → Value) (w : World) :
    (∃ v w', (execOp ρ o).run P w = .ok (.value v) w') ∨ (∃ w', (execOp ρ o).run P w = .ok .skip w') ∨ (∃ x w', (execOp ρ o).run P w = .halt x w') := by
  have V := fun s => run_shapeV (P := P) (w := w) s
  have U := fun s => run_shapeU (P := P) (w := w) s
  have inV : ∀ {r : Result Next}, ((∃ v w', r = .ok (.value v) w') ∨ (∃ x w', r = .halt x w')) → (∃ v w', r = .ok (.value v) w') ∨ (∃ w', r = .ok .skip w') ∨ (∃ x w', r = .halt x w') := fun h => h.elim .inl fun h => .inr (.inr h)
  unfold simpleOp at h
  unfold execOp
  split at h <;> rename_i e <;> simp only [e]
  · exact .inl ⟨_, _, rfl⟩
  · exact .inl ⟨_, _, rfl⟩
  · exact inV (V _)
  · exact inV (V _)
  · exact inV (V _)
  · exact .inr (U _)
  · exact inV (V _)
  · exact inV (V _)
  · exact inV (V _)
  · exact inV (V _)
  · exact inV (V _)
  · exact inV (V _)
  · exact inV (V _)
  · cases h
theorem wp_and {P : Program} {ro : Option Nat} {o : Oper} {a : Act} {w : World} {K1 K2 : Act → World → Prop} {Q : Exit → Act → World → Prop} (hs : simpleOp o = true) (hd : ∀ c, o.op ≠ .defer c) (h1 : o.wpIn (FW ro) 0 P a w K1 Q) (h2 : o.wpIn (FW ro) 0 P a w K2 Q) : o.wpIn (FW ro) 0 P a w (fun a' w' => K1 a' w' ∧ K2 a' w') Q := by
  refine ⟨h1.1, ?_⟩
  have h1 := h1.2
  have h2 := h2.2
  rw [Oper.semAt_eq _ _ _ hd] at *
  rcases simple_run (P := P) hs a.eval w with ⟨v, w', e⟩ | ⟨w', e⟩ | ⟨x, w', e⟩
  · rw [e] at h1 h2 ⊢; exact ⟨h1, h2⟩
  · rw [e] at h1 h2 ⊢; exact ⟨h1, h2⟩
  · rw [e] at h1 ⊢; cases x <;> exact h1

theorem any_of_run2 {P : Program} {k : Oper → Knd} {ops : Array Oper} {M : Array Nat} {p1 p2 : List Nat} {x y : Nat} (D1 : DrawOk k ops M p1) (D2 : DrawOk k ops M p2) (hxy : x ≠ y)
    (q1 : p1.Pairwise fun j i => (j = x ∧ i = y) ∨ PairOk k ops M j i) (q2 : p2.Pairwise fun j i => (j = y ∧ i = x) ∨ PairOk k ops M j i) (c : List Nat) (hsm : ∀ (i : Nat) o, ops[i]? = some o → i ≠ x → i ≠ y → simpleOp o = true ∨ (M.getD i 0).testBit x = true ∨ (M.getD i 0).testBit y = true ∨ i ∈ c)
    {Q : Exit → St → Prop} {ro : Option Nat} {γ0 : Nat → Gh} {L0 : List AObj} {w0 : World} :
    ∀ (fuel : Nat) (listed : Array Bool) (s1 s2 : St) (γ1 γ2 : Nat → Gh) (a : Act) (w : World), listed.size = ops.size → (∀ i ∈ c, listed.getD i true = true) → listedClosed ops listed → (left_ p1 listed).length ≤ fuel → (left_ p2 listed).length ≤ fuel → x ∈ left_ p1 listed → y ∈ left_ p1 listed →
      Rel γ1 s1 a w → Ext γ0 L0 γ1 s1.L → Stp γ0 w0 γ1 w → RunI P k ops (left_ p1 listed) s1 (Q .normal) →
      Rel γ2 s2 a w → Ext γ0 L0 γ2 s2.L → Stp γ0 w0 γ2 w → RunI P k ops (left_ p2 listed) s2 (Q .normal) →
      wpAnyIn (FW ro) 0 P .any ops (fun e a' w' => ∃ γ' s', Rel γ' s' a' w' ∧ Ext γ0 L0 γ' s'.L ∧ Stp γ0 w0 γ' w' ∧ Q e s') fuel listed a w := by
  have fil : ∀ {perm : List Nat} {u v : Nat} {listed : Array Bool}, perm.Pairwise (fun j i => (j = u ∧ i = v) ∨ PairOk k ops M j i) → u ∉ left_ perm listed → (left_ perm listed).Pairwise (PairOk k ops M) := by
    intro perm u v listed h hu
    refine List.Pairwise.imp_of_mem ?_ (h.filter (fun i => !listed.getD i true))
    intro j i hj hi hji
    rcases hji with ⟨rfl, _⟩ | h
    · exact absurd hj hu
    · exact h
  intro fuel
  induction fuel with
  | zero =>
    intro listed s1 s2 γ1 γ2 a w hsz hcl hc hf _ _ _ hr hE hS hrun _ _ _ _
    have hnil : left_ p1 listed = [] := List.eq_nil_of_length_eq_zero (by omega)
    rw [hnil] at hrun
    cases hrun with
    | nil h =>
      refine ⟨?_, γ1, s1, hr, hE, hS, h⟩
      apply List.eq_nil_iff_forall_not_mem.2
      intro i hi
      obtain ⟨o, ho, hl, _⟩ := ready_iff.1 hi
      have : i ∈ left_ p1 listed := D1.memL.2 ⟨(Array.getElem?_eq_some_iff.1 ho).1, hl⟩
      rw [hnil] at this; cases this
  | succ fuel ih =>
    intro listed s1 s2 γ1 γ2 a w hsz hcl hc hf1 hf2 hxl hyl hr1 hE1 hS1 hrun1 hr2 hE2 hS2 hrun2
    refine ⟨fun hnone => ?_, fun i hi => ?_⟩
    · rw [D1.noReady listed hsz hnone] at hrun1
      cases hrun1 with
      | nil h => exact ⟨γ1, s1, hr1, hE1, hS1, h⟩
    · obtain ⟨o, ho, hl, hpre⟩ := ready_iff.1 hi
      have hlt := (Array.getElem?_eq_some_iff.1 ho).1
      obtain ⟨pre1, post1, hs1, hn1, hnp1, hnq1⟩ := D1.take hsz (D1.memL.2 ⟨hlt, hl⟩)
      obtain ⟨pre2, post2, hs2, hn2, hnp2, hnq2⟩ := D2.take hsz (D2.memL.2 ⟨hlt, hl⟩)
      have hclosed := closed_take hsz hc ho hpre
      have hfl1 : (left_ p1 (listed.setIfInBounds i true)).length ≤ fuel := by
        rw [hn1]; rw [hs1] at hf1; simp at hf1 ⊢; omega
      have hfl2 : (left_ p2 (listed.setIfInBounds i true)).length ≤ fuel := by
        rw [hn2]; rw [hs2] at hf2; simp at hf2 ⊢; omega
      have w1 : ∀ j ∈ pre1, (j = x ∧ i = y) ∨ PairOk k ops M j i := fun j hj => by
        have := q1.filter (fun i => !listed.getD i true)
        change (left_ p1 listed).Pairwise _ at this
        rw [hs1] at this
        exact (List.pairwise_append.1 this).2.2 j hj i (by simp)
      have w2 : ∀ j ∈ pre2, (j = y ∧ i = x) ∨ PairOk k ops M j i := fun j hj => by
        have := q2.filter (fun i => !listed.getD i true)
        change (left_ p2 listed).Pairwise _ at this
        rw [hs2] at this
        exact (List.pairwise_append.1 this).2.2 j hj i (by simp)
      rw [hs1] at hrun1
      rw [hs2] at hrun2
      unfold wpOpIn
      simp only [ho]
      by_cases hiy : i = y
      · -- 'y' comes first: the second order
        subst hiy
        have hagr := D2.agr hsz hc ho hpre hs2 fun j hj => (w2 j hj).resolve_left fun h => hxy h.2.symm
        have hpw' : (left_ p2 (listed.setIfInBounds i true)).Pairwise (PairOk k ops M) := fil q2 (by rw [hn2]; simp [hnp2, hnq2])
        rcases RunI.front ho pre2 s2 hagr hrun2 with ⟨d, hdk, hv, hrest⟩ | ⟨hg, hrest⟩
        · obtain ⟨hg, hop⟩ := hv.2 s2 (fun _ _ => rfl) (Lok.refl _ _)
          rw [guardA_wanted hr2 hg, if_pos rfl]
          refine hop.wpIn ro hr2 fun γ' a' w' hr' hE' hS' => ?_
          exact any_of_run D2 _ _ _ γ' a' w' (by simp [hsz]) hclosed hfl2 hpw' hr' (hE2.trans hE') (hS2.trans hS') (by rw [hn2]; exact hrest)
        · rw [guardA_wanted hr2 hg, if_neg (by decide)]
          refine ⟨fun _ _ => trivial, ?_⟩
          exact any_of_run D2 _ _ _ γ2 _ w (by simp [hsz]) hclosed hfl2 hpw' (hr2.put o.dst rv_undef) (by rw [St.put_L]; exact hE2) hS2 (by rw [hn2]; exact hrest)
      have hagr1 := D1.agr hsz hc ho hpre hs1 fun j hj => (w1 j hj).resolve_left fun h => hiy h.2
      by_cases hix : i = x
      · subst hix
        have hpw' : (left_ p1 (listed.setIfInBounds i true)).Pairwise (PairOk k ops M) := fil q1 (by rw [hn1]; simp [hnp1, hnq1])
        rcases RunI.front ho pre1 s1 hagr1 hrun1 with ⟨d, hdk, hv, hrest⟩ | ⟨hg, hrest⟩
        · obtain ⟨hg, hop⟩ := hv.2 s1 (fun _ _ => rfl) (Lok.refl _ _)
          rw [guardA_wanted hr1 hg, if_pos rfl]
          refine hop.wpIn ro hr1 fun γ' a' w' hr' hE' hS' => ?_
          exact any_of_run D1 _ _ _ γ' a' w' (by simp [hsz]) hclosed hfl1 hpw' hr' (hE1.trans hE') (hS1.trans hS') (by rw [hn1]; exact hrest)
        · rw [guardA_wanted hr1 hg, if_neg (by decide)]
          refine ⟨fun _ _ => trivial, ?_⟩
          exact any_of_run D1 _ _ _ γ1 _ w (by simp [hsz]) hclosed hfl1 hpw' (hr1.put o.dst rv_undef) (by rw [St.put_L]; exact hE1) hS1 (by rw [hn1]; exact hrest)
      have hagr2 := D2.agr hsz hc ho hpre hs2 fun j hj => (w2 j hj).resolve_left fun h => hix h.2
      have unl : ∀ {z : Nat}, z ∈ left_ p1 listed → ¬ (M.getD i 0).testBit z = true := by
        intro z hz hb
        have h1 := mask_listed D1 hc i o ho hpre z hb
        have h2 := D1.memL.1 hz
        have hzs : z < listed.size := by omega
        have h2 := h2.2
        simp only [Array.getD, hzs, dif_pos] at h1 h2
        rw [h1] at h2; cases h2
      have hso : simpleOp o = true := by
        rcases hsm i o ho hix hiy with h | h | h | h
        · exact h
        · exact absurd h (unl hxl)
        · exact absurd h (unl hyl)
        · have := hcl i h
          rw [this] at hl; cases hl
      have hcl' : ∀ j ∈ c, (listed.setIfInBounds i true).getD j true = true := fun j hj => by
        have := hcl j hj
        by_cases hji : j < listed.size
        · simp only [Array.getD, hji, dif_pos] at this
          by_cases hij : i = j
          · subst hij; simp [Array.getD, hji]
          · simp [Array.getD, hji, Array.getElem_setIfInBounds, hij]; simpa using this
        · simp [Array.getD, hji]
      have stay : ∀ {z : Nat}, z ∈ left_ p1 listed → i ≠ z → z ∈ left_ p1 (listed.setIfInBounds i true) := by
        intro z hz hne
        rw [hs1] at hz
        rw [hn1]
        simp only [List.mem_append, List.mem_cons] at hz ⊢
        rcases hz with h | h | h
        · exact .inl h
        · exact absurd h.symm hne
        · exact .inr h
      have hxl' := stay hxl hix
      have hyl' := stay hyl hiy
      rcases RunI.front ho pre1 s1 hagr1 hrun1 with ⟨d1, hdk1, hv1, hrest1⟩ | ⟨hg1, hrest1⟩
      · obtain ⟨hg1, hop1⟩ := hv1.2 s1 (fun _ _ => rfl) (Lok.refl _ _)
        rcases RunI.front ho pre2 s2 hagr2 hrun2 with ⟨d2, hdk2, hv2, hrest2⟩ | ⟨hg2, hrest2⟩
        · obtain ⟨hg2, hop2⟩ := hv2.2 s2 (fun _ _ => rfl) (Lok.refl _ _)
          rw [guardA_wanted hr1 hg1, if_pos rfl]
          refine (Oper.wpIn_mono (K := fun a' w' => (∃ γ', Rel γ' (d1.app o s1) a' w' ∧ Ext γ1 s1.L γ' (d1.app o s1).L ∧ Stp γ1 w γ' w') ∧ (∃ γ', Rel γ' (d2.app o s2) a' w' ∧ Ext γ2 s2.L γ' (d2.app o s2).L ∧ Stp γ2 w γ' w')) ?_
            (wp_and hso (hop1.noDefer hr1) (hop1.wpIn ro hr1 fun γ' a' w' hr' hE' hS' => ⟨γ', hr', hE', hS'⟩) (hop2.wpIn ro hr2 fun γ' a' w' hr' hE' hS' => ⟨γ', hr', hE', hS'⟩)))
          rintro a' w' ⟨⟨γa, ha1, ha2, ha3⟩, γb, hb1, hb2, hb3⟩
          exact ih _ _ _ γa γb a' w' (by simp [hsz]) hcl' hclosed hfl1 hfl2 hxl' hyl' ha1 (hE1.trans ha2) (hS1.trans ha3) (by rw [hn1]; exact hrest1) hb1 (hE2.trans hb2) (hS2.trans hb3) (by rw [hn2]; exact hrest2)
        · have e1 := guardA_wanted hr1 hg1
          rw [guardA_wanted hr2 hg2] at e1
          cases e1
      · rw [guardA_wanted hr1 hg1, if_neg (by decide)]
        refine ⟨fun _ _ => trivial, ?_⟩
        rcases RunI.front ho pre2 s2 hagr2 hrun2 with ⟨d2, hdk2, hv2, hrest2⟩ | ⟨hg2, hrest2⟩
        · obtain ⟨hg2, hop2⟩ := hv2.2 s2 (fun _ _ => rfl) (Lok.refl _ _)
          have e1 := guardA_wanted hr1 hg1
          rw [guardA_wanted hr2 hg2] at e1
          cases e1
        · exact ih _ _ _ γ1 γ2 _ w (by simp [hsz]) hcl' hclosed hfl1 hfl2 hxl' hyl' (hr1.put o.dst rv_undef) (by rw [St.put_L]; exact hE1) hS1 (by rw [hn1]; exact hrest1) (hr2.put o.dst rv_undef) (by rw [St.put_L]; exact hE2) hS2 (by rw [hn2]; exact hrest2)

/-- Each two are bound or free to change places, but for the one pair. -/
def okPairs2 (k : Oper → Knd) (ops : Array Oper) (M : Array Nat) (x y : Nat) : List Nat → Bool
  | [] => true
  | j :: rest => (rest.all fun i => (j == x && i == y) || (M.getD i 0).testBit j || (match ops[j]?, ops[i]? with | some p, some o => agrB ops k p o | _, _ => false)) && okPairs2 k ops M x y rest
theorem okPairs2_spec {k : Oper → Knd} {ops : Array Oper} {M : Array Nat} {x y : Nat} : ∀ {l : List Nat}, okPairs2 k ops M x y l = true → l.Pairwise fun j i => (j = x ∧ i = y) ∨ PairOk k ops M j i
  | [], _ => .nil
  | j :: rest, h => by
    simp only [okPairs2, Bool.and_eq_true] at h
    refine List.pairwise_cons.2 ⟨fun i hi => ?_, okPairs2_spec h.2⟩
    have := List.all_eq_true.1 h.1 i hi
    simp only [Bool.or_eq_true, Bool.and_eq_true, beq_iff_eq] at this
    rcases this with (h1 | h1) | h1
    · exact .inl h1
    · exact .inr (.inl h1)
    · split at h1
      · rename_i p o hp ho; exact .inr (.inr ⟨p, o, hp, ho, h1⟩)
      · cases h1
def okPerm2 (k : Oper → Knd) (ops : Array Oper) (p1 p2 : List Nat) (x y : Nat) : Bool :=
  okBase ops p1 && okBase ops p2 && !(x == y) && okPairs2 k ops (Region.before ops) x y p1 && okPairs2 k ops (Region.before ops) y x p2 && p1.contains x && p1.contains y &&
    (List.range ops.size).all fun i => i == x || i == y || (match ops[i]? with | some o => simpleOp o | none => true) || ((Region.before ops).getD i 0).testBit x || ((Region.before ops).getD i 0).testBit y

theorem AWp.permI {P : Program} (hm : P.follows .mixedOrders = true) {k : Oper → Knd} {id : Nat} {ops : Array Oper} {Q : Exit → St → Prop} {s : St} (perm : List Nat) (hok : okPerm k ops perm = true) (h : RunI P k ops perm s (Q .normal)) :
    AWp P (.region id ops true) Q s := by
  obtain ⟨D, hpw⟩ := okPerm_spec hok
  have hnd := D.nodup
  have hbd := D.bound
  intro ro γ a w _ hr
  refine wpIn_region_any hm ?_
  have hI : Inv γ s.L { w with drawn := w.drawn + 1 } := ⟨hr.inv.ro, hr.inv.ow, hr.inv.inj, hr.inv.box, hr.inv.map⟩
  have hr' : Rel γ s a { w with drawn := w.drawn + 1 } := ⟨hr.defers, hr.size, hr.tmps, hI⟩
  have hS : Stp γ w γ { w with drawn := w.drawn + 1 } := ⟨rfl, rfl, rfl, Nat.le_refl _, fun _ _ h => h, fun _ _ h => ⟨h, rfl⟩⟩
  have hl : left_ perm (Array.replicate ops.size false) = perm := by
    unfold left_
    rw [List.filter_eq_self]
    intro i hi
    have : i < ops.size := hbd i hi
    simp [Array.getD, this]
  refine any_of_run D _ _ s γ a _ (by simp) ?_ (by rw [hl]; simp [D.size]) (by rw [hl]; exact hpw) hr' (.refl _ _) hS ?_
  · intro i o e ho hi
    have : i < ops.size := (Array.getElem?_eq_some_iff.1 ho).1
    simp [Array.getD, this] at hi
  · rw [hl]
    exact h

theorem AWp.perm {P : Program} (hm : P.follows .mixedOrders = true) {k : Oper → Knd} {id : Nat} {ops : Array Oper} {Q : Exit → St → Prop} {s : St} (perm : List Nat) (hok : okPerm k ops perm = true) (h : RunL P k ops (perm.filterMap fun i => ops[i]?) s (Q .normal)) :
    AWp P (.region id ops true) Q s := .permI hm perm hok (RunI.of_perm perm s (okPerm_spec hok).1.bound h)

theorem AWp.draw {P : Program} (hm : P.follows .mixedOrders = true) {k : Oper → Knd} {id : Nat} {ops : Array Oper} {Q : Exit → St → Prop} {s : St} (hok : okDraw k ops = true) (h : RunL P k ops ops.toList s (Q .normal)) :
    AWp P (.region id ops true) Q s :=
  .permI hm (List.range ops.size) hok (by
    have := RunI.of_list ops.toList [] s rfl h
    rw [List.range_eq_range']
    simpa using this)

theorem AWp.perm2 {P : Program} (hm : P.follows .mixedOrders = true) {k : Oper → Knd} {id : Nat} {ops : Array Oper} {Q : Exit → St → Prop} {s : St} (p1 p2 : List Nat) (x y : Nat) (hok : okPerm2 k ops p1 p2 x y = true)
    (h1 : RunL P k ops (p1.filterMap fun i => ops[i]?) s (Q .normal)) (h2 : RunL P k ops (p2.filterMap fun i => ops[i]?) s (Q .normal)) : AWp P (.region id ops true) Q s := by
  simp only [okPerm2, Bool.and_eq_true, Bool.not_eq_true', beq_eq_false_iff_ne] at hok
  obtain ⟨⟨⟨⟨⟨⟨⟨b1, b2⟩, hxy⟩, o1⟩, o2⟩, hcx⟩, hcy⟩, hsm⟩ := hok
  have D1 := okBase_spec (k := k) b1
  have D2 := okBase_spec (k := k) b2
  intro ro γ a w _ hr
  refine wpIn_region_any hm ?_
  have hI : Inv γ s.L { w with drawn := w.drawn + 1 } := ⟨hr.inv.ro, hr.inv.ow, hr.inv.inj, hr.inv.box, hr.inv.map⟩
  have hr' : Rel γ s a { w with drawn := w.drawn + 1 } := ⟨hr.defers, hr.size, hr.tmps, hI⟩
  have hS : Stp γ w γ { w with drawn := w.drawn + 1 } := ⟨rfl, rfl, rfl, Nat.le_refl _, fun _ _ h => h, fun _ _ h => ⟨h, rfl⟩⟩
  have hl : ∀ {perm : List Nat}, DrawOk k ops (Region.before ops) perm → left_ perm (Array.replicate ops.size false) = perm := by
    intro perm D
    unfold left_
    rw [List.filter_eq_self]
    intro i hi
    have : i < ops.size := D.bound i hi
    simp [Array.getD, this]
  refine any_of_run2 D1 D2 hxy (okPairs2_spec o1) (okPairs2_spec o2) [] (fun i o ho hix hiy => by
      have := List.all_eq_true.1 hsm i (List.mem_range.2 (Array.getElem?_eq_some_iff.1 ho).1)
      simp only [ho, Bool.or_eq_true, beq_iff_eq] at this
      rcases this with (((h | h) | h) | h) | h
      · exact absurd h hix
      · exact absurd h hiy
      · exact .inl h
      · exact .inr (.inl h)
      · exact .inr (.inr (.inl h))) _ _ s s γ γ a _ (by simp) (fun i h => (nomatch h)) ?_ (by rw [hl D1]; simp [D1.size]) (by rw [hl D2]; simp [D2.size]) (by rw [hl D1]; simpa using hcx) (by rw [hl D1]; simpa using hcy)
    hr' (.refl _ _) hS ?_ hr' (.refl _ _) hS ?_
  · intro i o e ho hi
    have : i < ops.size := (Array.getElem?_eq_some_iff.1 ho).1
    simp [Array.getD, this] at hi
  · rw [hl D1]; exact RunI.of_perm p1 s D1.bound h1
  · rw [hl D2]; exact RunI.of_perm p2 s D2.bound h2

/-! ### a first part in one order; then two operations in either order -/
theorem left_append (c d : List Nat) (listed : Array Bool) : left_ (c ++ d) listed = left_ c listed ++ left_ d listed := by simp [left_]

theorem take_of {ops : Array Oper} {c : List Nat} (hnd : c.Nodup) (hbd : ∀ j ∈ c, j < ops.size) {listed : Array Bool} (hsz : listed.size = ops.size) {i : Nat} (him : i ∈ left_ c listed) :
    ∃ pre post, left_ c listed = pre ++ i :: post ∧ left_ c (listed.setIfInBounds i true) = pre ++ post ∧ i ∉ pre ∧ i ∉ post := by
  obtain ⟨pre, post, hsplit⟩ := List.append_of_mem him
  have hndl : (left_ c listed).Nodup := hnd.filter _
  rw [hsplit] at hndl
  have hnp : i ∉ pre := fun h => by
    rw [List.nodup_append] at hndl
    exact hndl.2.2 i h i (by simp) rfl
  have hnq : i ∉ post := fun h => by
    rw [List.nodup_append] at hndl
    exact (List.nodup_cons.1 hndl.2.1).1 h
  refine ⟨pre, post, hsplit, ?_, hnp, hnq⟩
  have e1 : left_ c (listed.setIfInBounds i true) = (left_ c listed).filter (fun j => j != i) := by
    unfold left_
    rw [List.filter_filter]
    apply List.filter_congr
    intro j hj
    have hj' : j < listed.size := by rw [hsz]; exact hbd j hj
    by_cases hji : j = i
    · subst hji; simp [Array.getD, hj']
    · simp [Array.getD, hj', hji, Array.getElem_setIfInBounds, Ne.symm hji]
  rw [e1, hsplit, List.filter_append, List.filter_cons]
  simp only [bne_self_eq_false, Bool.false_eq_true, if_false]
  rw [List.filter_eq_self.2, List.filter_eq_self.2]
  · intro j hj; simp; rintro rfl; exact hnq hj
  · intro j hj; simp; rintro rfl; exact hnp hj

theorem any_of_runC {P : Program} {k : Oper → Knd} {ops : Array Oper} {M : Array Nat} {c d : List Nat} (D : DrawOk k ops M (c ++ d)) (hcd : ∀ i ∈ d, ∀ j ∈ c, (M.getD i 0).testBit j = true) (hpw0 : c.Pairwise (PairOk k ops M))
    {Q : Exit → St → Prop} {K : St → Prop} {ro : Option Nat} {γ0 : Nat → Gh} {L0 : List AObj} {w0 : World}
    (next : ∀ (fuel : Nat) (listed : Array Bool) (s : St) (γ : Nat → Gh) (a : Act) (w : World), listed.size = ops.size → (∀ i ∈ c, listed.getD i true = true) → listedClosed ops listed → left_ d listed = d → d.length ≤ fuel →
      Rel γ s a w → Ext γ0 L0 γ s.L → Stp γ0 w0 γ w → K s → wpAnyIn (FW ro) 0 P .any ops (fun e a' w' => ∃ γ' s', Rel γ' s' a' w' ∧ Ext γ0 L0 γ' s'.L ∧ Stp γ0 w0 γ' w' ∧ Q e s') fuel listed a w) :
    ∀ (fuel : Nat) (listed : Array Bool) (s : St) (γ : Nat → Gh) (a : Act) (w : World), listed.size = ops.size → listedClosed ops listed → left_ d listed = d → (left_ c listed).length + d.length ≤ fuel →
      Rel γ s a w → Ext γ0 L0 γ s.L → Stp γ0 w0 γ w → RunI P k ops (left_ c listed) s K →
      wpAnyIn (FW ro) 0 P .any ops (fun e a' w' => ∃ γ' s', Rel γ' s' a' w' ∧ Ext γ0 L0 γ' s'.L ∧ Stp γ0 w0 γ' w' ∧ Q e s') fuel listed a w := by
  have hndc : c.Nodup := (List.nodup_append.1 D.nodup).1
  have hbc : ∀ j ∈ c, j < ops.size := fun j hj => D.bound j (List.mem_append_left _ hj)
  intro fuel
  induction fuel with
  | zero =>
    intro listed s γ a w hsz hc hd hf hr hE hS hrun
    have hnil : left_ c listed = [] := List.eq_nil_of_length_eq_zero (by omega)
    rw [hnil] at hrun
    cases hrun with
    | nil h =>
      refine next 0 listed s γ a w hsz (fun i hi => ?_) hc hd (by omega) hr hE hS h
      refine Decidable.byContradiction fun hl => ?_
      have : i ∈ left_ c listed := by simp only [left_, List.mem_filter, Bool.not_eq_true']; exact ⟨hi, by simpa using hl⟩
      rw [hnil] at this; cases this
  | succ fuel ih =>
    intro listed s γ a w hsz hc hd hf hr hE hS hrun
    by_cases hnil : left_ c listed = []
    · rw [hnil] at hrun hf
      cases hrun with
      | nil h =>
        refine next _ listed s γ a w hsz (fun i hi => ?_) hc hd (by simpa using hf) hr hE hS h
        refine Decidable.byContradiction fun hl => ?_
        have : i ∈ left_ c listed := by simp only [left_, List.mem_filter, Bool.not_eq_true']; exact ⟨hi, by simpa using hl⟩
        rw [hnil] at this; cases this
    · refine ⟨fun hnone => ?_, fun i hi => ?_⟩
      · have := D.noReady listed hsz hnone
        rw [left_append] at this
        exact absurd (List.append_eq_nil_iff.1 this).1 hnil
      · obtain ⟨o, ho, hl, hpre⟩ := ready_iff.1 hi
        have hlt := (Array.getElem?_eq_some_iff.1 ho).1
        have himp : i ∈ left_ (c ++ d) listed := D.memL.2 ⟨hlt, hl⟩
        have him : i ∈ left_ c listed := by
          rw [left_append] at himp
          rcases List.mem_append.1 himp with h | h
          · exact h
          · exfalso
            have hid : i ∈ d := (List.mem_filter.1 h).1
            obtain ⟨j, hj⟩ := List.exists_mem_of_ne_nil _ hnil
            have hj' := List.mem_filter.1 hj
            have h1 := mask_listed D hc i o ho hpre j (hcd i hid j hj'.1)
            have hjs : j < listed.size := by rw [hsz]; exact hbc j hj'.1
            have h2 := hj'.2
            simp only [Array.getD, hjs, dif_pos] at h1 h2
            rw [h1] at h2; cases h2
        obtain ⟨pre, post, hsplit, hnew, hnp, hnq⟩ := take_of hndc hbc hsz him
        have hclosed := closed_take hsz hc ho hpre
        have hpw : (left_ c listed).Pairwise (PairOk k ops M) := hpw0.filter _
        rw [hsplit] at hpw hrun
        have hagr := D.agr (pre := pre) (post := post ++ left_ d listed) hsz hc ho hpre (by rw [left_append, hsplit]; simp) fun j hj => (List.pairwise_append.1 hpw).2.2 j hj i (by simp)
        have hnd : left_ d (listed.setIfInBounds i true) = d := by
          unfold left_ at hd ⊢
          rw [List.filter_eq_self] at hd ⊢
          intro j hj
          have h1 := hd j hj
          have hne : i ≠ j := fun e => by
            subst e
            exact (List.nodup_append.1 D.nodup).2.2 i (List.mem_filter.1 him).1 i hj rfl
          have hjs : j < listed.size := by rw [hsz]; exact D.bound j (List.mem_append_right _ hj)
          simp only [Array.getD, hjs, dif_pos] at h1
          simp [Array.getD, hjs, Array.getElem_setIfInBounds, hne]
          simpa using h1
        have hflen : (left_ c (listed.setIfInBounds i true)).length + d.length ≤ fuel := by
          rw [hnew]; rw [hsplit] at hf; simp at hf ⊢; omega
        unfold wpOpIn
        simp only [ho]
        rcases RunI.front ho pre s hagr hrun with ⟨dd, hdk, hv, hrest⟩ | ⟨hg, hrest⟩
        · obtain ⟨hg, hop⟩ := hv.2 s (fun _ _ => rfl) (Lok.refl _ _)
          rw [guardA_wanted hr hg, if_pos rfl]
          refine hop.wpIn ro hr fun γ' a' w' hr' hE' hS' => ?_
          exact ih _ _ γ' a' w' (by simp [hsz]) hclosed hnd hflen hr' (hE.trans hE') (hS.trans hS') (by rw [hnew]; exact hrest)
        · rw [guardA_wanted hr hg, if_neg (by decide)]
          refine ⟨fun _ _ => trivial, ?_⟩
          exact ih _ _ γ _ w (by simp [hsz]) hclosed hnd hflen (hr.put o.dst rv_undef) (by rw [St.put_L]; exact hE) hS (by rw [hnew]; exact hrest)

def okPerm3 (k : Oper → Knd) (ops : Array Oper) (c d1 d2 : List Nat) (x y : Nat) : Bool :=
  okBase ops (c ++ d1) && okBase ops (c ++ d2) && !(x == y) && okPairs2 k ops (Region.before ops) x y (c ++ d1) && okPairs2 k ops (Region.before ops) y x (c ++ d2) && (d1.contains x && d1.contains y) &&
    ((List.range ops.size).all fun i => i == x || i == y || (match ops[i]? with | some o => simpleOp o | none => true) || ((Region.before ops).getD i 0).testBit x || ((Region.before ops).getD i 0).testBit y || c.contains i) &&
    (d1.all fun i => c.all fun j => ((Region.before ops).getD i 0).testBit j) && okPairs k ops (Region.before ops) c

theorem AWp.perm3 {P : Program} (hm : P.follows .mixedOrders = true) {k : Oper → Knd} {id : Nat} {ops : Array Oper} {Q : Exit → St → Prop} {s : St} (c d1 d2 : List Nat) (x y : Nat) (hok : okPerm3 k ops c d1 d2 x y = true)
    (h : RunL P k ops (c.filterMap fun i => ops[i]?) s fun s' => RunL P k ops (d1.filterMap fun i => ops[i]?) s' (Q .normal) ∧ RunL P k ops (d2.filterMap fun i => ops[i]?) s' (Q .normal)) : AWp P (.region id ops true) Q s := by
  simp only [okPerm3, Bool.and_eq_true, Bool.not_eq_true', beq_eq_false_iff_ne] at hok
  obtain ⟨⟨⟨⟨⟨⟨⟨⟨b1, b2⟩, hxy⟩, o1⟩, o2⟩, hcx, hcy⟩, hsm⟩, hcd⟩, hpc⟩ := hok
  have D1 := okBase_spec (k := k) b1
  have D2 := okBase_spec (k := k) b2
  have hdd : ∀ i, i ∈ d2 → i ∈ d1 := fun i hi => by
    have h1 := D1.all i (D2.bound i (List.mem_append_right _ hi))
    rcases List.mem_append.1 h1 with h | h
    · exact absurd rfl ((List.nodup_append.1 D2.nodup).2.2 i h i hi)
    · exact h
  intro ro γ a w _ hr
  refine wpIn_region_any hm ?_
  have hI : Inv γ s.L { w with drawn := w.drawn + 1 } := ⟨hr.inv.ro, hr.inv.ow, hr.inv.inj, hr.inv.box, hr.inv.map⟩
  have hr' : Rel γ s a { w with drawn := w.drawn + 1 } := ⟨hr.defers, hr.size, hr.tmps, hI⟩
  have hS : Stp γ w γ { w with drawn := w.drawn + 1 } := ⟨rfl, rfl, rfl, Nat.le_refl _, fun _ _ h => h, fun _ _ h => ⟨h, rfl⟩⟩
  have hl : ∀ {perm : List Nat}, (∀ i ∈ perm, i < ops.size) → left_ perm (Array.replicate ops.size false) = perm := by
    intro perm D
    unfold left_
    rw [List.filter_eq_self]
    intro i hi
    have : i < ops.size := D i hi
    simp [Array.getD, this]
  have hbc : ∀ i ∈ c, i < ops.size := fun i hi => D1.bound i (List.mem_append_left _ hi)
  have hb1 : ∀ i ∈ d1, i < ops.size := fun i hi => D1.bound i (List.mem_append_right _ hi)
  have hb2 : ∀ i ∈ d2, i < ops.size := fun i hi => D2.bound i (List.mem_append_right _ hi)
  have hlen : d2.length = d1.length := by
    have e1 := D1.size
    have e2 := D2.size
    rw [List.length_append] at e1 e2; omega
  refine any_of_runC (K := fun s' => RunI P k ops d1 s' (Q .normal) ∧ RunI P k ops d2 s' (Q .normal)) D1 (fun i hi j hj => List.all_eq_true.1 (List.all_eq_true.1 hcd i hi) j hj) (okPairs_spec hpc) ?next _ _ s γ a _ (by simp) ?_ (hl hb1) (by rw [hl hbc]; have := D1.size; rw [List.length_append] at this; omega)
    hr' (.refl _ _) hS ?_
  case next =>
    intro fuel listed s γ' a w' hsz hcl hc hd hf hr hE hS hK
    have hcn : left_ c listed = [] := by
      unfold left_
      rw [List.filter_eq_nil_iff]
      intro i hi
      simp [hcl i hi]
    have hd2 : left_ d2 listed = d2 := by
      unfold left_ at hd ⊢
      rw [List.filter_eq_self] at hd ⊢
      exact fun j hj => hd j (hdd j hj)
    refine any_of_run2 D1 D2 hxy (okPairs2_spec o1) (okPairs2_spec o2) c (fun i o ho hix hiy => by
      have := List.all_eq_true.1 hsm i (List.mem_range.2 (Array.getElem?_eq_some_iff.1 ho).1)
      simp only [ho, Bool.or_eq_true, beq_iff_eq] at this
      rcases this with ((((h | h) | h) | h) | h) | h
      · exact absurd h hix
      · exact absurd h hiy
      · exact .inl h
      · exact .inr (.inl h)
      · exact .inr (.inr (.inl h))
      · exact .inr (.inr (.inr (by simpa using h)))) fuel listed s s γ' γ' a w' hsz hcl hc (by rw [left_append, hcn, hd]; simpa using hf) (by rw [left_append, hcn, hd2]; simp; omega)
      (by rw [left_append, hcn, hd]; simpa using hcx) (by rw [left_append, hcn, hd]; simpa using hcy) hr hE hS (by rw [left_append, hcn, hd]; exact hK.1) hr hE hS (by rw [left_append, hcn, hd2]; exact hK.2)
  · intro i o e ho hi
    have : i < ops.size := (Array.getElem?_eq_some_iff.1 ho).1
    simp [Array.getD, this] at hi
  · rw [hl hbc]
    refine RunI.monoK ?_ (RunI.of_perm c s hbc h)
    exact fun s' h' => ⟨RunI.of_perm d1 s' hb1 h'.1, RunI.of_perm d2 s' hb2 h'.2⟩

end Go.Proofs.Ytobdpkkmkbafbaa.K
/-
  A logic of values for Go's functions (part 13): all code without loops at once; loops by a relation.
-/
namespace Go.Proofs.Ytobdpkkmkbafbaa.K
set_option linter.unusedVariables false
set_option linter.unusedSimpArgs false
open Go Go.RowKit

/-- What each operation of a region hangs on; 'E': the functions that work on what the caller owns. -/
def ownedDst (E : List FuncId) (o : Oper) : Bool := match o.dst with | some d => E.contains (1000000 + d) | none => false
/-- Objects from this number on are such that only results go to. -/
def rangeW : List FuncId → Option Nat
  | [] => none
  | e :: _ => if 900 ≤ e ∧ e < 990 then some (e - 900) else none
def kindE (E : List FuncId) (o : Oper) : Knd :=
  match o.op with
  | .waits _ => if ownedDst E o then .A else .C
  | .ready f =>
    match rangeW E with
    | some m => if f == 3999999 then .A else if 4000000 ≤ f then (if m ≤ f - 4000000 then .A else .C) else if E.contains (2000000 + f) then .A else .C
    | none => if E.contains (2000000 + f) then .A else .C
  | .store _ a _ => match a with | .tmp t => if E.contains (7000000 + t) then .W else .C | _ => .C
  | .load _ _ => match o.dst with | some d => if E.contains (9000000 + d) then .D else .B | none => .B
  | .fieldAddr _ _ _ => if ownedDst E o then .A else .B
  | .buildSlice _ n _ => if n == 0 || ownedDst E o then .C else .A
  | .call c =>
    match c.callee with
    | .value (.func f) => if ownedDst E o then .A else if E.contains f || E.contains (2000000 + f) then .C else if E.contains (3000000 + f) then .B else .A
    | .value _ => .C
    | .builtin .len => .B
    | .builtin .unsafeSliceData => .B
    | .builtin .max => .A
    | .builtin .min => .A
    | .builtin .append => match o.dst with | some d => if E.contains (7200000 + d) then .W else .C | none => .C
    | _ => .C
  | op => kindP op
theorem isW_none {E : List FuncId} (id : Nat) (h : rangeW E = none) : isW (kindE E) id = (E.contains 5999999 && E.contains (6000000 + id)) := by
  have k1 : kindE E { dst := none, op := .ready 3999999, type := 0, pos := "", after := #[], guard := none } = if E.contains (2000000 + 3999999) then .A else .C := by
    simp only [kindE, h]
  have k2 : kindE E { dst := none, op := .ready (4000000 + id), type := 0, pos := "", after := #[], guard := none } = if E.contains (2000000 + (4000000 + id)) then .A else .C := by
    simp only [kindE, h]
  unfold isW
  rw [k1, k2, ← Nat.add_assoc]
  show ((if E.contains 5999999 then Knd.A else Knd.C) == Knd.A && (if E.contains (6000000 + id) then Knd.A else Knd.C) == Knd.A) = _
  cases E.contains 5999999 <;> cases E.contains (6000000 + id) <;> rfl
theorem isW_range (m : Nat) (rest : List FuncId) (id : Nat) (h : m < 90) : isW (kindE ((m + 900) :: rest)) id = decide (m ≤ id) := by
  have e : rangeW ((m + 900) :: rest) = some m := by
    show (if 900 ≤ m + 900 ∧ m + 900 < 990 then some (m + 900 - 900) else none) = some m
    rw [if_pos ⟨Nat.le_add_left _ _, by omega⟩, Nat.add_sub_cancel]
  generalize (m + 900) :: rest = E at e ⊢
  have k1 : kindE E { dst := none, op := .ready 3999999, type := 0, pos := "", after := #[], guard := none } = .A := by
    simp only [kindE, e, beq_self_eq_true, if_true]
  have hne : (4000000 + id == 3999999) = false := by
    rw [beq_eq_false_iff_ne]
    exact Nat.ne_of_gt (Nat.lt_of_lt_of_le (by decide : 3999999 < 4000000) (Nat.le_add_right _ _))
  have k2 : kindE E { dst := none, op := .ready (4000000 + id), type := 0, pos := "", after := #[], guard := none } = if m ≤ id then .A else .C := by
    simp only [kindE, e, hne, Bool.false_eq_true, if_false]
    rw [if_pos (Nat.le_add_right _ _), Nat.add_sub_cancel_left]
  unfold isW
  rw [k1, k2]
  by_cases hm : m ≤ id
  · rw [if_pos hm]; simp [hm]
  · rw [if_neg hm]; simp [hm]

/-- In a region whose order is told. -/
def anyK (E : List FuncId) (o : Oper) : Knd :=
  match o.op with
  | .waits _ => if ownedDst E o then .A else .C
  | _ => .C

theorem rowsW_E (E : List FuncId) : rowsW (kindE E) = E.contains 5999998 := by
  have k1 : kindE E { dst := none, op := .ready 3999998, type := 0, pos := "", after := #[], guard := none } = if E.contains 5999998 then .A else .C := by
    cases h : rangeW E with
    | none => simp only [kindE, h]
    | some m => simp only [kindE, h]; rfl
  unfold rowsW
  rw [k1]
  cases E.contains 5999998 <;> rfl
theorem rowLow_E (E : List FuncId) : rowLow (kindE E) = E.contains 5999997 := by
  have k1 : kindE E { dst := none, op := .ready 3999997, type := 0, pos := "", after := #[], guard := none } = if E.contains 5999997 then .A else .C := by
    cases h : rangeW E with
    | none => simp only [kindE, h]
    | some m => simp only [kindE, h]; rfl
  unfold rowLow
  rw [k1]
  cases E.contains 5999997 <;> rfl
theorem rowsAt_E (E : List FuncId) (id : Nat) : rowsAt (kindE E) id = (E.contains 5999998 && (decide (2 ≤ id) || !E.contains 5999997)) := by
  unfold rowsAt
  rw [rowsW_E, rowLow_E]
theorem rowsAt_any (E : List FuncId) (id : Nat) : rowsAt (anyK E) id = false := rfl
theorem rowsW_any (E : List FuncId) : rowsW (anyK E) = false := rfl
theorem isW_any (E : List FuncId) (id : Nat) : isW (anyK E) id = false := rfl

/-- One of two ways. -/
def Wc : AV → (St → Prop) → (St → Prop) → St → Prop
  | .bool true, X, _, s => X s
  | .bool false, _, Y, s => Y s
  | _, _, _, _ => False

theorem Wc.split {b : Bool} {X Y : St → Prop} {s : St} (ht : b = true → Wc (.bool b) X Y s) (hf : b = false → Wc (.bool b) X Y s) : Wc (.bool b) X Y s := by
  cases b
  · exact hf rfl
  · exact ht rfl

/-- How a region is told that leaves its order open: in an order of the proof's choice, or in the text's. -/
def Wd : Bool → Prop → Prop → Prop
  | true, X, _ => X
  | false, _, Y => Y
/-- What a piece of code asks of the state ahead of it; loops are left as they are. -/
def W (P : Program) (E : List FuncId) : Code → (Exit → St → Prop) → St → Prop
  | .skip, Q, s => Q .normal s
  | .ret, Q, s => Q .ret s
  | .exit id, Q, s => Q (.exit id) s
  | .seq x y, Q, s => W P E x (ExThen (W P E y Q) Q) s
  | .cond c x y, Q, s => Wc (s.ev c) (W P E x Q) (W P E y Q) s
  | .block id c, Q, s => W P E c (ExBlock id Q) s
  | .region id ops false, Q, s => R P (anyK E) ops ops.toList s (Q .normal)
  | .region id ops true, Q, s => Wd (E.contains 8000002) (∃ c d1 d2 x y, okPerm3 (kindE E) ops c d1 d2 x y = true ∧ R P (kindE E) ops (c.filterMap fun i => ops[i]?) s fun s' => R P (kindE E) ops (d1.filterMap fun i => ops[i]?) s' (Q .normal) ∧ R P (kindE E) ops (d2.filterMap fun i => ops[i]?) s' (Q .normal)) <| Wd (E.contains 8000001) ((∃ p1 p2 x y, okPerm2 (kindE E) ops p1 p2 x y = true ∧ R P (kindE E) ops (p1.filterMap fun i => ops[i]?) s (Q .normal) ∧ R P (kindE E) ops (p2.filterMap fun i => ops[i]?) s (Q .normal)) ∨ (∃ perm, okPerm (kindE E) ops perm = true ∧ R P (kindE E) ops (perm.filterMap fun i => ops[i]?) s (Q .normal))) <| Wd (E.contains 8000000) (∃ perm, okPerm (kindE E) ops perm = true ∧ R P (kindE E) ops (perm.filterMap fun i => ops[i]?) s (Q .normal)) (okDraw (kindE E) ops = true ∧ R P (kindE E) ops ops.toList s (Q .normal))
  | c, Q, s => AWp P c Q s

theorem RunL.monoK {P : Program} {k : Oper → Knd} {ops : Array Oper} {K K' : St → Prop} (hk : ∀ s, K s → K' s) {l : List Oper} {s : St} (h : RunL P k ops l s K) : RunL P k ops l s K' := by
  induction h with
  | nil h => exact .nil (hk _ h)
  | op d h1 h2 hr ih => exact .op d h1 h2 (ih hk)
  | off hg hr ih => exact .off hg (ih hk)
theorem W.sound {P : Program} (hm : P.follows .mixedOrders = true) {E : List FuncId} : ∀ {c : Code} {Q : Exit → St → Prop} {s : St}, W P E c Q s → AWp P c Q s
  | .skip, Q, s, h => .skip h
  | .ret, Q, s, h => .ret h
  | .exit id, Q, s, h => .exit h
  | .seq x y, Q, s, h => .seq (AWp.mono (W.sound hm h) fun e s' h' => by
      cases e with
      | normal => exact W.sound hm h'
      | _ => exact h')
  | .cond c x y, Q, s, h => by
    unfold W at h
    unfold Wc at h
    split at h
    · rename_i hb; exact .cond hb (fun e => W.sound hm h) (fun e => by cases e)
    · rename_i hb; exact .cond hb (fun e => by cases e) (fun e => W.sound hm h)
    · exact h.elim
  | .block id c, Q, s, h => .block (W.sound hm (c := c) h)
  | .region id ops false, Q, s, h => .region (R.sound h)
  | .region id ops true, Q, s, h => by
    unfold W at h
    cases hc3 : E.contains 8000002 with
    | true =>
      rw [hc3] at h
      obtain ⟨c, d1, d2, x, y, h1, h2⟩ := h
      exact .perm3 hm c d1 d2 x y h1 (RunL.monoK (fun s' h' => ⟨R.sound h'.1, R.sound h'.2⟩) (R.sound h2))
    | false =>
      rw [hc3] at h
      cases hc2 : E.contains 8000001 with
      | true =>
        rw [hc2] at h
        rcases h with ⟨p1, p2, x, y, h1, h2, h3⟩ | ⟨perm, h1, h2⟩
        · exact .perm2 hm p1 p2 x y h1 (R.sound h2) (R.sound h3)
        · exact .perm hm perm h1 (R.sound h2)
      | false =>
        rw [hc2] at h
        cases hc : E.contains 8000000 with
        | true =>
          rw [hc] at h
          obtain ⟨perm, h1, h2⟩ := h
          exact .perm hm perm h1 (R.sound h2)
        | false =>
          rw [hc] at h
          exact .draw hm h.1 (R.sound h.2)
  | .loop c, Q, s, h => h
  | .rangeFunc f p a b, Q, s, h => h
  | .scope c, Q, s, h => h
  | .label l, Q, s, h => h
  | .goto l, Q, s, h => h
  | .refuse w, Q, s, h => h

/-! ### the steps as rules -/
section
variable {P : Program} {k : Oper → Knd} {ops : Array Oper} {next : St → (St → Prop) → Prop} {o : Oper} {rest : List Oper} {s : St} {K : St → Prop}
theorem Wd_true {X Y : Prop} : Wd true X Y = X := rfl
theorem Wd_false {X Y : Prop} : Wd false X Y = Y := rfl
theorem app_W (x : AV) (L : List AObj) : (⟨.W, x, L⟩ : Sd).app o s = { s with L := L }.put o.dst x := rfl
theorem le_WW : (Knd.W).le .W = true := rfl
theorem KCW : (Knd.C == Knd.W) = false := rfl
theorem KWW : (Knd.W == Knd.W) = true := rfl
theorem KAW : (Knd.A == Knd.W) = false := rfl
theorem KCA : (Knd.C == Knd.A) = false := rfl
theorem KAA : (Knd.A == Knd.A) = true := rfl
theorem Rg_true : Rg P k ops next (some true) o rest s K = Rs P k ops next (stepD P k s o) o rest s K := rfl
theorem Rg_false : Rg P k ops next (some false) o rest s K = next (s.put o.dst (.tup [])) K := rfl
theorem Rg_none : Rg P k ops next none o rest s K = RunL P k ops (o :: rest) s K := rfl
theorem Rs_some (d : Sd) : Rs P k ops next (some d) o rest s K = (d.kind.le (k o) = true ∧ next (d.app o s) K) := rfl
theorem Rs_none : Rs P k ops next none o rest s K = RunL P k ops (o :: rest) s K := rfl
theorem app_A (x : AV) (L : List AObj) : (⟨.A, x, L⟩ : Sd).app o s = s.put o.dst x := rfl
theorem app_B (x : AV) (L : List AObj) : (⟨.B, x, L⟩ : Sd).app o s = s.put o.dst x := rfl
theorem app_C (x : AV) (L : List AObj) : (⟨.C, x, L⟩ : Sd).app o s = { s with L := L }.put o.dst x := rfl
theorem le_A (b : Knd) : (Knd.A).le b = true := by cases b <;> rfl
theorem le_any (a : Knd) : a.le .C = true := by cases a <;> rfl
theorem le_BB : (Knd.B).le .B = true := rfl
theorem le_BC : (Knd.B).le .C = true := rfl
theorem le_CC : (Knd.C).le .C = true := rfl
variable {X Y : St → Prop} {Q : Exit → St → Prop}
theorem Wc_true : Wc (.bool true) X Y s = X s := rfl
theorem Wc_false : Wc (.bool false) X Y s = Y s := rfl
theorem ExThen_normal : ExThen X Q .normal s = X s := rfl
theorem ExThen_ret : ExThen X Q .ret s = Q .ret s := rfl
theorem ExThen_exit (i : Nat) : ExThen X Q (.exit i) s = Q (.exit i) s := rfl
theorem ExBlock_normal (i : Nat) : ExBlock i Q .normal s = Q .normal s := rfl
theorem ExBlock_ret (i : Nat) : ExBlock i Q .ret s = Q .ret s := rfl
theorem ExBlock_exit (i j : Nat) : ExBlock i Q (.exit j) s = if j = i then Q .normal s else Q (.exit j) s := rfl
theorem FnEnd_normal {fn : Func} {L L' : List AObj} {r : AV} : FnEnd P fn L r L' .normal s = ∃ r1, resA P fn s = some r1 ∧ Fin L s.L r1 L' r := rfl
theorem FnEnd_ret {fn : Func} {L L' : List AObj} {r : AV} : FnEnd P fn L r L' .ret s = ∃ r1, resA P fn s = some r1 ∧ Fin L s.L r1 L' r := rfl
end

theorem Ct.by_ {P : Program} (hm : P.follows .mixedOrders = true) (E : List FuncId) {f : FuncId} {fn : Func} {c : Code} {args : List AV} {L L' : List AObj} {r : AV} (hf : P.funcs[f]? = some fn) (hb : fn.body = some c)
    (h : W P E c (FnEnd P fn L r L') (St.init fn args L)) : Ct P f args L r L' := Ct.intro hf hb (W.sound hm h)

theorem Fin.eq {L1 : List AObj} {r1 r : AV} (h : r1 = r) (hp : pureB r1 = true) : K.Fin [] L1 r1 [] r := by
  subst h; exact Fin.value (.pur (.of hp))

/-- Slots that are not read any more may be forgotten. -/
inductive JL : List AV → List AV → Prop where
  | nil : JL [] []
  | keep {x : AV} {xs ys : List AV} (h : JL xs ys) : JL (x :: xs) (x :: ys)
  | drop {x : AV} {xs ys : List AV} (h : JL xs ys) : JL (x :: xs) (.junk :: ys)

theorem JL.refl : ∀ xs, JL xs xs
  | [] => .nil
  | x :: xs => .keep (JL.refl xs)

theorem JL.get {xs ys : List AV} (h : JL xs ys) : xs.length = ys.length ∧ ∀ (i : Nat) y, ys[i]? = some y → y = .junk ∨ xs[i]? = some y := by
  induction h with
  | nil => exact ⟨rfl, fun i y hy => .inr hy⟩
  | keep h ih => exact ⟨by simp [ih.1], fun i y hy => by cases i with | zero => exact .inr hy | succ i => simpa using ih.2 i y (by simpa using hy)⟩
  | drop h ih => exact ⟨by simp [ih.1], fun i y hy => by cases i with | zero => exact .inl (by simpa using hy.symm) | succ i => simpa using ih.2 i y (by simpa using hy)⟩

theorem Rel.junk {γ : Nat → Gh} {s : St} {a : Act} {w : World} {t : List AV} (h : Rel γ s a w) (hj : JL s.t t) : Rel γ ⟨t, s.L⟩ a w :=
  ⟨h.defers, by rw [h.size]; exact hj.get.1, fun i x hx => by
    rcases hj.get.2 i x hx with rfl | hx'
    · exact .junk _
    · exact h.tmps i x hx', h.inv⟩

theorem AWp.junk {P : Program} {c : Code} {Q : Exit → St → Prop} {s : St} {t : List AV} (hj : JL s.t t) (h : AWp P c Q ⟨t, s.L⟩) : AWp P c Q s :=
  fun ro γ a w hp hr => h ro γ a w hp (hr.junk hj)

/-- A loop, by a relation on states that is told by data 'i'; a round lowers the measure. -/
theorem AWp.loop_inv {P : Program} {c : Code} {Q : Exit → St → Prop} {ι : Type} (st : ι → St) (I : ι → Prop) (m : ι → Nat) (i0 : ι) {s : St} (h0 : I i0) (hs : JL s.t (st i0).t ∧ s.L = (st i0).L)
    (step : ∀ i, I i → AWp P c (ExThen (fun s' => ∃ j, I j ∧ m j < m i ∧ JL s'.t (st j).t ∧ s'.L = (st j).L) Q) (st i)) : AWp P (.loop c) Q s := by
  have key : ∀ n i s, m i < n → I i → JL s.t (st i).t ∧ s.L = (st i).L → ARounds P c Q n s := by
    intro n
    induction n with
    | zero => intro i s h; omega
    | succ n ih =>
      intro i s hm hI hs
      have e : (⟨(st i).t, s.L⟩ : St) = st i := by rw [hs.2]
      refine AWp.junk hs.1 ?_
      rw [e]
      refine (step i hI).mono fun ex s' h => ?_
      cases ex with
      | normal =>
        obtain ⟨j, hj, hlt, hs'⟩ := h
        exact ih j s' (by omega) hj hs'
      | _ => exact h
  exact .loop _ (key (m i0 + 1) i0 s (by omega) h0 hs)

end Go.Proofs.Ytobdpkkmkbafbaa.K
/-
  A logic of values for Go's functions (part 14): what came in as data is a value of its type; from a law's contract to its statement.
-/
namespace Go.Proofs.Ytobdpkkmkbafbaa.K
set_option linter.unusedVariables false
set_option linter.unusedSimpArgs false
open Go Go.RowKit

/-- 'xs' are the cells of a value of the type 't'. -/
def HasC (P : Program) : Nat → TypeId → List AV → Prop
  | 0, _, _ => False
  | n + 1, t, xs =>
    match P.underlying t with
    | some .bool => ∃ b, xs = [.bool b]
    | some (.int k) => ∃ i, xs = [.int k i] ∧ (Lit.int k i).wf = true
    | some .string => ∃ s, xs = [.str s] ∧ s.size ≤ maxLen
    | some (.slice e) => ∃ es, xs = [.sl false es] ∧ es.length ≤ maxLen ∧ ∀ x ∈ es, HasC P n e x.cells ∧ x.cells.length = P.cellsOf e ∧ (aggT P e = true → ∃ cs, x = .agg cs) ∧ (aggT P e = false → ∃ c, x.cells = [c] ∧ x = c)
    | some (.struct fs) => xs.length = P.cellsOf t ∧ ∀ f ∈ fs.toList, HasC P n f.type ((xs.drop f.offset).take (P.cellsOf f.type))
    | _ => False

/-- The memory ahead of the call: nothing of it is written. -/
def roAll (w : World) : Nat → Gh := fun b => match w.heap[b]? with | some o => .ro o | none => .out

theorem Inv.roAll (w : World) : Inv (roAll w) [] w := by
  have h : ∀ b id p c, K.roAll w b ≠ .ow id p c := by
    intro b id p c hb
    unfold K.roAll at hb
    split at hb <;> cases hb
  refine ⟨fun b o hb => ?_, fun b id p c hb => absurd hb (h _ _ _ _), fun b b' id p c c' hb => absurd hb (h _ _ _ _), fun id T cs hL => by simp at hL, fun id kt vt es hL => by simp at hL⟩
  unfold K.roAll at hb
  split at hb
  · cases hb; assumption
  · cases hb

def CellsL (γ : Nat → Gh) (xs : List AV) (cs : List Value) : Prop :=
  cs.length = xs.length ∧ ∀ (j : Nat) x, xs[j]? = some x → ∃ u, cs[j]? = some u ∧ u.oneCell' = true ∧ RV γ [] x u

/-- Types of plain data, all of whose parts are such. -/
def layoutOk (P : Program) (total : Nat) : List Field → Nat → Bool
  | [], off => off == total
  | f :: fs, off => f.offset == off && layoutOk P total fs (off + P.cellsOf f.type)

def dataS (P : Program) (S : List TypeId) : Bool :=
  S.all fun t =>
    match P.underlying t with
    | some .bool => P.cellsOf t == 1
    | some (.int _) => P.cellsOf t == 1
    | some .string => P.cellsOf t == 1
    | some (.slice e) => P.cellsOf t == 1 && S.contains e
    | some (.struct fs) => fs.toList.all (fun f => S.contains f.type) && layoutOk P (P.cellsOf t) fs.toList 0
    | _ => false

theorem mapM_mem {α β : Type} {f : α → Option β} {l : List α} {r : List β} (h : l.mapM f = some r) {x : α} (hx : x ∈ l) : ∃ y, f x = some y := by
  obtain ⟨i, hi, rfl⟩ := List.getElem_of_mem hx
  obtain ⟨y, _, hy⟩ := (mapM_some h).2 i _ (List.getElem?_eq_getElem hi)
  exact ⟨y, hy⟩

theorem fields_join {P : Program} {γ : Nat → Gh} {total n : Nat} {cs : List Value} (hcs : cs.length = total) : ∀ (fs : List Field) (off : Nat), layoutOk P total fs off = true → off ≤ total →
    (∀ f ∈ fs, ∃ xs, CellsL γ xs ((cs.drop f.offset).take (P.cellsOf f.type)) ∧ HasC P n f.type xs) →
    ∃ ys, CellsL γ ys (cs.drop off) ∧ ∀ f ∈ fs, off ≤ f.offset ∧ HasC P n f.type ((ys.drop (f.offset - off)).take (P.cellsOf f.type))
  | [], off, hl, hle, _ => by
    simp only [layoutOk, beq_iff_eq] at hl
    refine ⟨[], ⟨by simp; omega, fun j x hx => by simp at hx⟩, fun f hf => by cases hf⟩
  | f :: fs, off, hl, hle, hall => by
    simp only [layoutOk, Bool.and_eq_true, beq_iff_eq] at hl
    obtain ⟨hoff, hl⟩ := hl
    have hmono : ∀ (fs : List Field) off, layoutOk P total fs off = true → off ≤ total := by
      intro fs
      induction fs with
      | nil => intro off h; simp [layoutOk] at h; omega
      | cons g gs ih =>
        intro off h
        simp only [layoutOk, Bool.and_eq_true, beq_iff_eq] at h
        have := ih _ h.2; omega
    have hle' := hmono _ _ hl
    obtain ⟨xs, hx, hxt⟩ := hall f (by simp)
    obtain ⟨ys, hy, hyt⟩ := fields_join hcs fs (off + P.cellsOf f.type) hl hle' (fun g hg => hall g (by simp [hg]))
    have hxl : xs.length = P.cellsOf f.type := by rw [← hx.1, hoff]; simp; omega
    refine ⟨xs ++ ys, ⟨?_, ?_⟩, ?_⟩
    · have := hy.1; simp at this ⊢; omega
    · intro j x hj
      by_cases hlt : j < xs.length
      · rw [List.getElem?_append_left hlt] at hj
        obtain ⟨u, hu, r⟩ := hx.2 j x hj
        refine ⟨u, ?_, r⟩
        rw [List.getElem?_take, hoff] at hu
        rw [if_pos (by omega)] at hu
        exact hu
      · rw [List.getElem?_append_right (by omega)] at hj
        obtain ⟨u, hu, r⟩ := hy.2 _ x hj
        refine ⟨u, ?_, r⟩
        rw [List.getElem?_drop] at hu ⊢
        rw [← hu]; congr 1; omega
    · intro g hg
      rcases List.mem_cons.1 hg with rfl | hg
      · refine ⟨by omega, ?_⟩
        rw [hoff, Nat.sub_self, List.drop_zero, List.take_append_of_le_length (by omega), List.take_of_length_le (by omega)]
        exact hxt
      · obtain ⟨h1, h2⟩ := hyt g hg
        refine ⟨by omega, ?_⟩
        rw [show g.offset - off = xs.length + (g.offset - (off + P.cellsOf f.type)) by omega, ← List.drop_drop, List.drop_left]
        exact h2

theorem gather {Q : Nat → AV → Prop} : ∀ (n : Nat), (∀ i, i < n → ∃ e, Q i e) → ∃ es : List AV, es.length = n ∧ ∀ (i : Nat) e, es[i]? = some e → Q i e
  | 0, _ => ⟨[], rfl, fun i e h => by simp at h⟩
  | n + 1, h => by
    obtain ⟨es, h1, h2⟩ := gather (Q := Q) n (fun i hi => h i (by omega))
    obtain ⟨e, he⟩ := h n (by omega)
    refine ⟨es ++ [e], by simp [h1], fun i e' hi => ?_⟩
    by_cases hlt : i < n
    · rw [List.getElem?_append_left (by omega)] at hi; exact h2 i e' hi
    · rw [List.getElem?_append_right (by omega)] at hi
      obtain ⟨h3, _⟩ := List.getElem?_eq_some_iff.1 hi
      simp at h3
      obtain rfl : i = n := by omega
      simp [h1] at hi; subst hi; exact he

theorem dataS_leaf {P : Program} {S : List TypeId} (hS : dataS P S = true) {t : TypeId} (ht : t ∈ S) :
    match P.underlying t with
    | some .bool => P.cellsOf t = 1
    | some (.int _) => P.cellsOf t = 1
    | some .string => P.cellsOf t = 1
    | some (.slice e) => P.cellsOf t = 1 ∧ e ∈ S
    | some (.struct fs) => (∀ f ∈ fs.toList, f.type ∈ S) ∧ layoutOk P (P.cellsOf t) fs.toList 0 = true
    | _ => False := by
  have := List.all_eq_true.1 hS t ht
  revert this
  split <;> (try simp_all)
  intro h _ f hf
  obtain ⟨i, hi, rfl⟩ := Array.getElem_of_mem hf
  exact h i hi

theorem HasC.leaf {P : Program} {n : Nat} {t : TypeId} {xs : List AV} (h : HasC P n t xs) (ha : aggT P t = false) : ∃ c, xs = [c] ∧ c.cells = [c] := by
  cases n with
  | zero => exact absurd h (by simp [HasC])
  | succ n =>
    unfold HasC at h
    unfold aggT at ha
    split at h
    · obtain ⟨b, rfl⟩ := h; exact ⟨_, rfl, rfl⟩
    · obtain ⟨b, rfl, _⟩ := h; exact ⟨_, rfl, rfl⟩
    · obtain ⟨b, rfl, _⟩ := h; exact ⟨_, rfl, rfl⟩
    · obtain ⟨b, rfl, _⟩ := h; exact ⟨_, rfl, rfl⟩
    · rename_i hu; simp [hu] at ha
    · cases h

theorem cells1 {γ : Nat → Gh} {x : AV} {v : Value} (h1 : v.oneCell' = true) (h : RV γ [] x v) : CellsL γ [x] [v] :=
  ⟨rfl, fun j y hy => by
    cases j with
    | zero => simp at hy; subst hy; exact ⟨v, rfl, h1, h⟩
    | succ j => simp at hy⟩

theorem trod_HasC {H : Type} {enc : TypeId × Value → H} {P : Program} {S : List TypeId} (hS : dataS P S = true) {w : World} {base : Nat} {spare : Nat → Bool} {held : Bool} :
    ∀ (n : Nat) (t : TypeId) (cs : List Value) (x : DataW H × List MemPlace), t ∈ S → DataW.trod enc P w base spare held n t cs = some x →
      ∃ xs, CellsL (roAll w) xs cs ∧ xs.length = P.cellsOf t ∧ HasC P n t xs
  | 0, t, cs, x, _, h => by simp [DataW.trod] at h
  | n + 1, t, cs, x, ht, h => by
    have hd := dataS_leaf hS ht
    cases hu : P.underlying t with
    | none => simp [hu] at hd
    | some T =>
      rw [hu] at hd
      cases T with
      | bool =>
        obtain ⟨b, rfl, _⟩ := DataW.trod_bool hu h
        exact ⟨[.bool b], cells1 rfl (.bool b), hd.symm, by simp [HasC, hu]⟩
      | int k =>
        obtain ⟨i, rfl, _, hw⟩ := DataW.trod_int hu h
        exact ⟨[.int k i], cells1 rfl (.int k i), hd.symm, by simp [HasC, hu, hw]⟩
      | string =>
        obtain ⟨s, rfl, _, hw⟩ := DataW.trod_string hu h
        exact ⟨[.str s], cells1 rfl (.str s), hd.symm, by simp [HasC, hu, hw]⟩
      | slice e =>
        obtain ⟨h1, he⟩ := hd
        rcases DataW.trod_slice hu h with ⟨rfl, _⟩ | ⟨a, len, cap, elems, rest, m, hm, rfl, rfl, hb, hl, hc, hlen, hel, _, _⟩
        · exact ⟨[.sl false []], cells1 rfl (.sl false [] none 0 0 0 (fun _ _ => undef) rfl (Nat.le_refl _) (by simp) (by simp) (by simp) (by simp)), h1.symm, by simp [HasC, hu]⟩
        · obtain rfl : n = m := by omega
          have hspot : 0 < len → 0 < P.cellsOf e → a.spot = none := by
            intro hi hj
            have h2 := hel 0 hi
            rw [List.getElem?_eq_getElem (by omega), Option.bind_eq_some_iff] at h2
            obtain ⟨cs', hcs, hy⟩ := h2
            obtain ⟨_, hcl, hcell⟩ := World.cells?_some hcs
            have h3 := hcell 0 hj
            rw [List.getElem?_eq_getElem (by omega)] at h3
            have := World.cell?_spot h3
            simpa [Addr.add] using this
          have hQ : ∀ i, i < len → ∃ e' : AV, (HasC P n e e'.cells ∧ e'.cells.length = P.cellsOf e ∧ (aggT P e = true → ∃ cs, e' = .agg cs) ∧ (aggT P e = false → ∃ c, e'.cells = [c] ∧ e' = c)) ∧
              ∀ (j : Nat) y, e'.cells[j]? = some y → ∃ u, roCell (roAll w) (some a) (i * P.cellsOf e + j) = some u ∧ u.oneCell' = true ∧ RV (roAll w) [] y u := by
            intro i hi
            have h2 := hel i hi
            rw [List.getElem?_eq_getElem (by omega), Option.bind_eq_some_iff] at h2
            obtain ⟨cs', hcs, hy⟩ := h2
            obtain ⟨xs, hx, hxl, hxt⟩ := trod_HasC hS n e cs' _ he hy
            obtain ⟨_, hcl, hcell⟩ := World.cells?_some hcs
            have key : ∀ (j : Nat) y, xs[j]? = some y → ∃ u, roCell (roAll w) (some a) (i * P.cellsOf e + j) = some u ∧ u.oneCell' = true ∧ RV (roAll w) [] y u := by
              intro j y hj
              obtain ⟨u, hu', h1', hr⟩ := hx.2 j y hj
              have hjl : j < P.cellsOf e := by have := (List.getElem?_eq_some_iff.1 hj).1; omega
              have h3 := hcell j hjl
              rw [hu'] at h3
              refine ⟨u, ?_, h1', hr⟩
              have hs := hspot (by omega) (by omega)
              obtain ⟨b, o, s⟩ := a
              simp only at hs; subst hs
              have e1 : ((Addr.mk b o none).add (i * P.cellsOf e)).add j = ⟨b, o + (i * P.cellsOf e + j), none⟩ := by
                unfold Addr.add; split <;> split <;> simp <;> omega
              rw [e1] at h3
              unfold World.cell? at h3
              split at h3
              · rename_i c _ _ hh
                simp at h3
                simp only [roCell, roAll, hh]
                exact h3
              · cases h3
            cases ha : aggT P e with
            | true => exact ⟨.agg xs, ⟨hxt, hxl, fun _ => ⟨xs, rfl⟩, fun h => nomatch h⟩, key⟩
            | false =>
              obtain ⟨c, rfl, hcc⟩ := hxt.leaf ha
              refine ⟨c, ⟨by rw [hcc]; exact hxt, by rw [hcc]; exact hxl, (fun h => nomatch h), (fun _ => ⟨c, hcc, rfl⟩)⟩, by rw [hcc]; exact key⟩
          obtain ⟨es, hes, hq⟩ := gather len hQ
          have hmem : ∀ e' ∈ es, HasC P n e e'.cells ∧ e'.cells.length = P.cellsOf e ∧ (aggT P e = true → ∃ cs, e' = .agg cs) ∧ (aggT P e = false → ∃ c, e'.cells = [c] ∧ e' = c) := by
            intro e' he'
            obtain ⟨i, hi, rfl⟩ := List.getElem_of_mem he'
            exact (hq i _ (List.getElem?_eq_getElem hi)).1
          have hv : ∀ (i : Nat) e' (j : Nat) y, es[i]? = some e' → e'.cells[j]? = some y → ∃ u, roCell (roAll w) (some a) (i * P.cellsOf e + j) = some u ∧ u.oneCell' = true ∧ RV (roAll w) [] y u :=
            fun i e' j y h1 h2 => (hq i e' h1).2 j y h2
          refine ⟨[.sl false es], cells1 rfl (.sl false es (some a) len cap (P.cellsOf e) (fun i j => (roCell (roAll w) (some a) (i * P.cellsOf e + j)).getD undef) hes.symm hl (fun e' he' => (hmem e' he').2.1) ?_ ?_ ?_), h1.symm, ?_⟩
          · intro i e' j y h1 h2
            obtain ⟨u, hu', _⟩ := hv i e' j y h1 h2
            simp [hu']
          · intro i e' j y h1 h2
            obtain ⟨u, hu', h3, _⟩ := hv i e' j y h1 h2
            simp [hu', h3]
          · intro i e' j y h1 h2
            obtain ⟨u, hu', _, h3⟩ := hv i e' j y h1 h2
            simp [hu', h3]
          · simp only [HasC, hu]
            exact ⟨es, rfl, by omega, hmem⟩
      | struct fs =>
        obtain ⟨h1, h2⟩ := hd
        obtain ⟨xs, m, hm, rfl, hcl, hxl, hf⟩ := DataW.trod_struct hu h
        obtain rfl : n = m := by omega
        obtain ⟨ys, hy, hyt⟩ := fields_join (γ := roAll w) (P := P) (n := n) hcl fs.toList 0 h2 (Nat.zero_le _) (fun f hfm => by
          obtain ⟨i, hi, rfl⟩ := List.getElem_of_mem hfm
          have := hf i fs.toList[i] (by simp at hi; simp [hi])
          rw [List.getElem?_eq_getElem (by simp at hi; omega)] at this
          obtain ⟨zs, hz, _, hzt⟩ := trod_HasC hS n _ _ _ (h1 _ hfm) this
          exact ⟨zs, hz, hzt⟩)
        have hyl : ys.length = P.cellsOf t := by rw [← hy.1, List.drop_zero, hcl]
        refine ⟨ys, by simpa using hy, hyl, ?_⟩
        simp only [HasC, hu]
        exact ⟨hyl, fun f hfm => by simpa using (hyt f hfm).2⟩
      | _ => exact hd.elim

end Go.Proofs.Ytobdpkkmkbafbaa.K
/-
  A logic of values for Go's functions (part 15): what a law's call is given and what it leaves.
-/
namespace Go.Proofs.Ytobdpkkmkbafbaa.K
set_option linter.unusedVariables false
set_option linter.unusedSimpArgs false
open Go Go.RowKit Go.WideShapes

/-- 'a' is a value of the type 't'. -/
def IsC (P : Program) (n : Nat) (t : TypeId) (a : AV) : Prop :=
  HasC P n t a.cells ∧ a.cells.length = P.cellsOf t ∧ (aggT P t = true → ∃ cs, a = .agg cs) ∧ (aggT P t = false → a.cells = [a])
def IsOf (P : Program) (t : TypeId) (a : AV) : Prop := ∃ n, IsC P n t a

theorem cells_one {v : Value} {γ : Nat → Gh} {c : AV} (hv : v.cells = #[v]) (h : CellsL γ [c] v.cells.toList) : RV γ [] c v := by
  rw [hv] at h
  obtain ⟨u, hu, _, hr⟩ := h.2 0 c rfl
  simp at hu; subst hu; exact hr

theorem arg_open {H : Type} {enc : TypeId × Value → H} {P : Program} {S : List TypeId} (hS : dataS P S = true) {w : World} {base : Nat} {spare : Nat → Bool} {held : Bool} {r : Reach} {b0 : Nat} {t : TypeId} {v : Value} {d : DataW H} {ps : List MemPlace}
    (ht : S.contains t = true) (hval : Value.okWide P w r b0 t v) (hd : DataW.Trod enc P w base spare held t v d ps) : ∃ a, RV (roAll w) [] a v ∧ IsOf P t a := by
  have ht : t ∈ S := by simpa using ht
  obtain ⟨n, h⟩ := hd
  obtain ⟨xs, hx, hl, hc⟩ := trod_HasC hS n t _ _ ht h
  have hd := dataS_leaf hS ht
  cases ha : aggT P t with
  | true =>
    unfold aggT at ha
    cases hu : P.underlying t with
    | none => simp [hu] at ha
    | some T =>
      have hv : ∃ cs, v = .agg cs ∧ cs.size = P.cellsOf t := by
        unfold Value.okWide at hval
        rw [hu] at hval ha
        cases T with
        | struct fs => obtain ⟨cs, h1, h2, _⟩ := hval; exact ⟨cs, h1, h2⟩
        | array m e => obtain ⟨cs, h1, h2, _⟩ := hval; exact ⟨cs, h1, h2⟩
        | _ => simp at ha
      obtain ⟨cs, rfl, hcs⟩ := hv
      refine ⟨.agg xs, .agg xs cs (by omega) ?_ ?_, n, hc, hl, fun _ => ⟨xs, rfl⟩, fun h => by simp [aggT, hu] at h; rw [hu] at ha; simp_all⟩
      · intro u hu'
        obtain ⟨i, hi, rfl⟩ := Array.getElem_of_mem hu'
        obtain ⟨u, h1, h2, _⟩ := hx.2 i xs[i] (List.getElem?_eq_getElem (by omega))
        simp [Value.cells, hi] at h1
        rw [h1]; exact h2
      · intro i x hi
        obtain ⟨u, h1, _, h3⟩ := hx.2 i x hi
        simp [Value.cells] at h1
        rw [Array.getD_eq_getD_getElem?, h1]; exact h3
  | false =>
    obtain ⟨c, rfl, hcc⟩ := hc.leaf ha
    have hv : v.cells = #[v] := by
      cases hu : P.underlying t with
      | none => simp [hu] at hd
      | some T =>
        rw [hu] at hd
        cases T with
        | bool => obtain ⟨b, rfl⟩ := okWide_bool hu hval; rfl
        | int k => obtain ⟨b, rfl⟩ := okWide_int hu hval; rfl
        | string => obtain ⟨b, rfl⟩ := okWide_string hu hval; rfl
        | slice e => obtain ⟨a, l, c, rfl⟩ := okWide_slice hu hval; rfl
        | struct fs => simp [aggT, hu] at ha
        | _ => exact hd.elim
    exact ⟨c, cells_one hv hx, n, by rw [hcc]; exact hc, by rw [hcc]; exact hl, (fun h => nomatch ha.symm.trans h), (fun _ => hcc)⟩

theorem HasC.int {P : Program} {n : Nat} {t : TypeId} {xs : List AV} {k : IntKind} (hu : P.underlying t = some (.int k)) (h : HasC P n t xs) : ∃ i, xs = [.int k i] ∧ (Lit.int k i).wf = true := by
  cases n with
  | zero => simp [HasC] at h
  | succ n => simp only [HasC, hu] at h; exact h
theorem HasC.bool {P : Program} {n : Nat} {t : TypeId} {xs : List AV} (hu : P.underlying t = some .bool) (h : HasC P n t xs) : ∃ i, xs = [.bool i] := by
  cases n with
  | zero => simp [HasC] at h
  | succ n => simp only [HasC, hu] at h; exact h
theorem HasC.string {P : Program} {n : Nat} {t : TypeId} {xs : List AV} (hu : P.underlying t = some .string) (h : HasC P n t xs) : ∃ s, xs = [.str s] ∧ s.size ≤ maxLen := by
  cases n with
  | zero => simp [HasC] at h
  | succ n => simp only [HasC, hu] at h; exact h
theorem HasC.slice {P : Program} {n : Nat} {t e : TypeId} {xs : List AV} (hu : P.underlying t = some (.slice e)) (h : HasC P n t xs) : ∃ es, xs = [.sl false es] ∧ es.length ≤ maxLen ∧ ∀ x ∈ es, IsOf P e x := by
  cases n with
  | zero => simp [HasC] at h
  | succ n =>
    simp only [HasC, hu] at h
    obtain ⟨es, h1, h2, h3⟩ := h
    exact ⟨es, h1, h2, fun x hx => by
      obtain ⟨h4, h5, h6, h7⟩ := h3 x hx
      exact ⟨n, h4, h5, h6, fun h8 => by obtain ⟨c, h9, rfl⟩ := h7 h8; exact h9⟩⟩
theorem HasC.field {P : Program} {n : Nat} {t ft : TypeId} {xs : List AV} {i off : Nat} (hf : fieldOf P t i = some (off, ft)) (h : HasC P n t xs) : ∃ m, HasC P m ft ((xs.drop off).take (P.cellsOf ft)) := by
  cases n with
  | zero => simp [HasC] at h
  | succ n =>
    unfold fieldOf at hf
    split at hf
    · rename_i fs hu
      simp only [HasC, hu] at h
      rw [Option.map_eq_some_iff] at hf
      obtain ⟨f, h1, h2⟩ := hf
      cases h2
      obtain ⟨hi, h3⟩ := Array.getElem?_eq_some_iff.1 h1
      exact ⟨n, h.2 f (by rw [← h3]; simp)⟩
    · cases hf
theorem IsOf.agg {P : Program} {t : TypeId} {a : AV} (ht : aggT P t = true) (h : IsOf P t a) : ∃ n cs, a = .agg cs ∧ cs.length = P.cellsOf t ∧ HasC P n t cs := by
  obtain ⟨n, h1, h2, h3, _⟩ := h
  obtain ⟨cs, rfl⟩ := h3 ht
  exact ⟨n, cs, rfl, h2, h1⟩
theorem IsOf.one {P : Program} {t : TypeId} {a : AV} (ht : aggT P t = false) (h : IsOf P t a) : ∃ n, HasC P n t [a] := by
  obtain ⟨n, h1, h2, _, h3⟩ := h
  exact ⟨n, by rw [← h3 ht]; exact h1⟩

/-- What a law's call leaves: it returns true, and nothing that was there has turned. -/
theorem law_walk {P : Program} {f : FuncId} {avs : List AV} {L' : List AObj} {w : World} {vs : Array Value} (h : Ct P f avs [] (.bool true) L') (ha : ArgsR (roAll w) [] avs vs) :
    Calls P f vs w fun e w' => e = .returned (.bool true) ∧ Below w.heap.size w w' := by
  refine (h _ w vs (Inv.roAll w) ha).mono fun e w' ⟨γ', v, he, hi, hr, _, hs⟩ => ?_
  cases hr
  refine ⟨he, hs.os, hs.tape, hs.output, hs.size, fun k hk => ?_⟩
  have h1 : roAll w k = .ro (w.heap[k]) := by simp [roAll, hk]
  have := hi.1 k _ (hs.ro k _ h1)
  rw [this]; simp [hk]

theorem argsR1 {γ : Nat → Gh} {a0 : AV} {v0 : Value} (h0 : RV γ [] a0 v0) : ArgsR γ [] [a0] #[v0] := by
  refine ⟨rfl, fun i x hx => ?_⟩
  match i with
  | 0 => simp at hx; subst hx; exact h0
  | i + 1 => simp at hx
theorem argsR2 {γ : Nat → Gh} {a0 a1 : AV} {v0 v1 : Value} (h0 : RV γ [] a0 v0) (h1 : RV γ [] a1 v1) : ArgsR γ [] [a0, a1] #[v0, v1] := by
  refine ⟨rfl, fun i x hx => ?_⟩
  match i with
  | 0 => simp at hx; subst hx; exact h0
  | 1 => simp at hx; subst hx; exact h1
  | i + 2 => simp at hx
theorem argsR3 {γ : Nat → Gh} {a0 a1 a2 : AV} {v0 v1 v2 : Value} (h0 : RV γ [] a0 v0) (h1 : RV γ [] a1 v1) (h2 : RV γ [] a2 v2) : ArgsR γ [] [a0, a1, a2] #[v0, v1, v2] := by
  refine ⟨rfl, fun i x hx => ?_⟩
  match i with
  | 0 => simp at hx; subst hx; exact h0
  | 1 => simp at hx; subst hx; exact h1
  | 2 => simp at hx; subst hx; exact h2
  | i + 3 => simp at hx

/-! ### lists with a beginning that is not looked at -/
theorem getX0 {α : Type} (X ys : List α) : (X ++ ys)[X.length]? = ys[0]? := by rw [List.getElem?_append_right (Nat.le_refl _), Nat.sub_self]
theorem getX1 {α : Type} (X ys : List α) : (X ++ ys)[X.length + 1]? = ys[1]? := by rw [List.getElem?_append_right (by omega)]; congr 1; omega
theorem getX2 {α : Type} (X ys : List α) : (X ++ ys)[X.length + 1 + 1]? = ys[2]? := by rw [List.getElem?_append_right (by omega)]; congr 1; omega
theorem getX3 {α : Type} (X ys : List α) : (X ++ ys)[X.length + 1 + 1 + 1]? = ys[3]? := by rw [List.getElem?_append_right (by omega)]; congr 1; omega
theorem getXn {α : Type} (X ys : List α) (n : Nat) : (X ++ ys)[X.length + n]? = ys[n]? := by rw [List.getElem?_append_right (by omega)]; congr 1; omega
theorem setX0 {α : Type} (X ys : List α) (y : α) : (X ++ ys).set X.length y = X ++ ys.set 0 y := by rw [List.set_append_right _ _ (Nat.le_refl _), Nat.sub_self]
theorem setX1 {α : Type} (X ys : List α) (y : α) : (X ++ ys).set (X.length + 1) y = X ++ ys.set 1 y := by rw [List.set_append_right _ _ (by omega)]; congr 2; omega
theorem setX2 {α : Type} (X ys : List α) (y : α) : (X ++ ys).set (X.length + 1 + 1) y = X ++ ys.set 2 y := by rw [List.set_append_right _ _ (by omega)]; congr 2; omega
theorem setX3 {α : Type} (X ys : List α) (y : α) : (X ++ ys).set (X.length + 1 + 1 + 1) y = X ++ ys.set 3 y := by rw [List.set_append_right _ _ (by omega)]; congr 2; omega

end Go.Proofs.Ytobdpkkmkbafbaa.K
/-
  A logic of values for Go's functions (part 17): a call to which the caller lends what it owns.
-/
namespace Go.Proofs.Ytobdpkkmkbafbaa.K
set_option linter.unusedVariables false
set_option linter.unusedSimpArgs false
open Go

mutual
/-- Values without any memory. -/
def flatB : AV → Bool
  | .int _ _ => true
  | .bool _ => true
  | .str _ => true
  | .lit _ => true
  | .junk => true
  | .sl _ [] => true
  | .agg cs => flatL cs
  | .tup cs => flatL cs
  | _ => false
def flatL : List AV → Bool
  | [] => true
  | x :: xs => flatB x && flatL xs
end

theorem flatL_mem {xs : List AV} : flatL xs = true ↔ ∀ x ∈ xs, flatB x = true := by
  induction xs with
  | nil => simp [flatL]
  | cons x xs ih => simp [flatL, ih]

theorem flatB_sound {γ γ' : Nat → Gh} {L L' : List AObj} {x : AV} {v : Value} (hv : RV γ L x v) : flatB x = true → RV γ' L' x v := by
  induction hv with
  | int k n => intro _; exact .int k n
  | bool b => intro _; exact .bool b
  | str s => intro _; exact .str s
  | lit v h => intro _; exact .lit v h
  | sl own es A n c sz vals hn hc hsz h2 h1 h3 ih =>
    intro hp
    cases es with
    | nil => exact .sl own [] A n c sz vals hn hc hsz (by simp) (by simp) (by simp)
    | cons e es => simp [flatB] at hp
  | agg cs vs hn h1 h ih => intro hp; simp only [flatB] at hp; exact .agg cs vs hn h1 (fun i x hx => ih i x hx (flatL_mem.1 hp x (List.mem_of_getElem? hx)))
  | tup cs vs hn h ih => intro hp; simp only [flatB] at hp; exact .tup cs vs hn (fun i x hx => ih i x hx (flatL_mem.1 hp x (List.mem_of_getElem? hx)))
  | ref id p g n v h h1 => intro hp; simp [flatB] at hp
  | ptr id off b c T cs hL' h => intro hp; simp [flatB] at hp
  | eptr id p g i off v h h1 => intro hp; simp [flatB] at hp
  | rptr x off b o vals h2 h1 h3 ih => intro hp; simp [flatB] at hp
  | fn f cs vs hn h ih => intro hp; simp [flatB] at hp
  | map id b c kt vt es hL' h => intro hp; simp [flatB] at hp
  | yld l r ts h hts ih => intro hp; simp [flatB] at hp
  | junk v => intro _; exact .junk v

theorem frz_inv {γ : Nat → Gh} {L : List AObj} {w : World} (hI : Inv γ L w) : Inv (frz γ w) [] w := by
  have hno : ∀ b id p c, frz γ w b ≠ .ow id p c := by
    intro b id p c hb
    unfold frz at hb
    split at hb
    · split at hb <;> cases hb
    · rename_i hne; exact hne _ _ _ hb
  refine ⟨fun b o hb => ?_, fun b id p c hb => absurd hb (hno _ _ _ _), fun b b' id p c c' hb => absurd hb (hno _ _ _ _), fun id T cs hL => by simp at hL, fun id kt vt es hL => by simp at hL⟩
  unfold frz at hb
  split at hb
  · split at hb
    · cases hb; assumption
    · cases hb
  · exact hI.ro b o hb

/-- A contract over values alone; the caller lends what it owns: what comes back leads to no memory. -/
theorem Ct.lend {P : Program} {f : FuncId} {xs ys : List AV} {r : AV} {L : List AObj} (h : Ct P f ys [] r []) (hy : VwL L xs ys) (hr : flatB r = true) : Ct P f xs L r L := by
  intro γ w vs hI ha
  have hI0 := frz_inv hI
  have ha0 : ArgsR (frz γ w) [] ys vs := by
    refine ⟨by rw [ha.1]; exact hy.get.1, fun i y hi => ?_⟩
    obtain ⟨x, hx, hxy⟩ := hy.get.2 i y hi
    exact hxy γ w _ hI (ha.2 i x hx)
  refine (h (frz γ w) w vs hI0 ha0).mono ?_
  rintro e w' ⟨γ1, v, rfl, hI1, hv, _, hS⟩
  let γ' : Nat → Gh := fun b => match γ b with | .ow id p c => .ow id p c | _ => γ1 b
  have h1 : ∀ {b id p c}, γ b = .ow id p c → γ' b = .ow id p c ∧ (∃ o, γ1 b = .ro o) ∧ w'.heap[b]? = w.heap[b]? := by
    intro b id p c hb
    obtain ⟨o, ho, _⟩ := hI.ow _ _ _ _ hb
    have := hS.ro b o (by simp [frz, hb, ho])
    exact ⟨by simp [γ', hb], ⟨o, this⟩, by rw [hI1.ro b o this, ho]⟩
  have h2 : ∀ {b}, (∀ id p c, γ b ≠ .ow id p c) → γ' b = γ1 b := by
    intro b hb
    cases hg : γ b with
    | ow id p c => exact absurd hg (hb id p c)
    | out => simp [γ', hg]
    | ro o => simp [γ', hg]
  have hno1 : ∀ b id p c, γ1 b ≠ .ow id p c := by
    intro b id p c hb
    have := hI1.idlt hb
    simp at this
  have h3 : ∀ {b id p c}, γ' b = .ow id p c → γ b = .ow id p c := by
    intro b id p c hb
    by_cases hx : ∃ id p c, γ b = .ow id p c
    · obtain ⟨id', p', c', he⟩ := hx
      rw [(h1 he).1] at hb; cases hb; exact he
    · rw [h2 (fun id p c he => hx ⟨id, p, c, he⟩)] at hb
      exact absurd hb (hno1 _ _ _ _)
  have h4 : ∀ b o, γ' b = .ro o → γ1 b = .ro o := by
    intro b o hb
    by_cases hx : ∃ id p c, γ b = .ow id p c
    · obtain ⟨id', p', c', he⟩ := hx
      rw [(h1 he).1] at hb; cases hb
    · rw [h2 (fun id p c he => hx ⟨id, p, c, he⟩)] at hb; exact hb
  have hro : ∀ b o, γ b = .ro o → γ' b = .ro o := by
    intro b o hb
    rw [h2 (fun id p c he => by rw [hb] at he; cases he)]
    exact hS.ro b o (frz_ro b o hb)
  have hE : Ext γ L γ' L :=
    ⟨hro, fun id o hL => ⟨o, hL, OStep.refl o⟩, fun b id p c hb => .inl (h1 hb).1, fun id T sz g es T' sz' es' _ _ p e1 _ b c hb => h3 hb⟩
  refine ⟨γ', v, rfl, ⟨fun b o hb => hI1.ro b o (h4 b o hb), fun b id p c hb => ?_, fun b b' id p c c' hb hb' => hI.inj _ _ _ _ _ _ (h3 hb) (h3 hb'), fun id T cs hL => ?_, fun id kt vt es hL => ?_⟩, flatB_sound hv hr, hE, ?_⟩
  · have hb0 := h3 hb
    obtain ⟨o, ho, hrep⟩ := hI.ow _ _ _ _ hb0
    refine ⟨o, by rw [(h1 hb0).2.2]; exact ho, ?_⟩
    have := hrep.grow (X := []) (γ' := γ') (by simpa using hE) (hI.idlt hb0) (fun b p c hb => (h1 hb).1) (fun b p c hb => h3 hb)
    simpa using this
  · obtain ⟨b, c, hb⟩ := hI.box _ _ _ hL
    exact ⟨b, c, (h1 hb).1⟩
  · obtain ⟨b, c, hb⟩ := hI.map _ _ _ _ hL
    exact ⟨b, c, (h1 hb).1⟩
  · refine ⟨hS.os, hS.tape, hS.output, hS.size, hE.ro, fun b hb ho => ?_⟩
    have := hS.out b hb (by simp [frz, ho])
    exact ⟨by rw [h2 (fun id p c he => by rw [ho] at he; cases he)]; exact this.1, this.2⟩

/-- A pointer to a variable of the call's own, lent. -/
theorem Vw.ptr {L : List AObj} {id off : Nat} {T : TypeId} {cs : List AV} (hL : L[id]? = some (.box T cs)) (hp : pureL cs = true) : Vw L (.ptr id off) (.rptr (.agg cs) off) := by
  intro γ w v hI hv
  cases hv with
  | ptr _ _ b c T' cs' hL' hb =>
    rw [hL] at hL'; cases hL'
    obtain ⟨o, ho, hrep⟩ := hI.ow _ _ _ _ hb
    unfold BlockRep at hrep
    rw [hL] at hrep
    obtain ⟨_, arr, rfl, hsz, hall⟩ := hrep
    have hf : frz γ w b = .ro (.cells arr T (0, 0)) := by simp [frz, hb, ho]
    have := RV.rptr (γ := frz γ w) (L := []) (.agg cs) off b 0 (fun j => arr.getD j undef) ?_ ?_ ?_
    · simpa using this
    · intro j y hj
      obtain ⟨u, h1, _, _⟩ := hall j y hj
      simp [roCell, hf, h1, Array.getD_eq_getD_getElem?]
    · intro j y hj
      obtain ⟨u, h1, h2, _⟩ := hall j y hj
      simp [h1, h2, Array.getD_eq_getD_getElem?]
    · intro j y hj
      obtain ⟨u, h1, _, h3⟩ := hall j y hj
      simp only [Array.getD_eq_getD_getElem?, h1, Option.getD_some]
      exact pureB_sound frz_ro h3 (pureL_mem.1 hp y (List.mem_of_getElem? hj))

theorem Vw.fn {L : List AObj} {f : FuncId} {xs ys : List AV} (h : VwL L xs ys) : Vw L (.fn f xs) (.fn f ys) := by
  intro γ w v hI hv
  cases hv with
  | fn _ _ vs hn hall =>
    refine .fn _ _ _ (by rw [hn]; exact h.get.1) fun i y hy => ?_
    obtain ⟨x, hx, hxy⟩ := h.get.2 i y hy
    exact hxy γ w _ hI (hall i x hx)

/-- The lent view of values, computed. -/
def lendA (L : List AObj) : AV → Option AV
  | .ptr id off => match L[id]? with
    | some (.box _ cs) => if pureL cs then some (.rptr (.agg cs) off) else none
    | _ => none
  | .ref id [] g n => match L[id]? with
    | some (.vec _ _ g' es) => if g = g' ∧ n ≤ es.length ∧ es.all (fun e => e.cells.all fun c => pureB c && (match c with | .sl true _ => false | _ => true)) then some (.sl false (es.take n)) else none
    | _ => none
  | .fn f [] => some (.fn f [])
  | .fn f [.ptr id off] => match L[id]? with
    | some (.box _ cs) => if pureL cs then some (.fn f [.rptr (.agg cs) off]) else none
    | _ => none
  | .fn f [.ptr id off, .ptr id' off'] => match L[id]?, L[id']? with
    | some (.box _ cs), some (.box _ cs') => if pureL cs && pureL cs' then some (.fn f [.rptr (.agg cs) off, .rptr (.agg cs') off']) else none
    | _, _ => none
  | x => if pureB x then some x else none

theorem lendA_sound {L : List AObj} {x y : AV} (h : lendA L x = some y) : Vw L x y := by
  unfold lendA at h
  split at h
  · split at h
    · rename_i hL
      split at h
      · cases h; exact Vw.ptr hL (by assumption)
      · cases h
    · cases h
  · split at h
    · rename_i T sz g' es hL
      split at h
      · rename_i hc
        obtain ⟨rfl, hn, hall⟩ := hc
        cases h
        refine Vw.refPur hL hn fun e he c hcc => ?_
        have := List.all_eq_true.1 (List.all_eq_true.1 hall e he) c hcc
        simp only [Bool.and_eq_true] at this
        exact ⟨.of this.1, fun xs hx => by subst hx; simp at this⟩
      · cases h
    · cases h
  · cases h; exact .pur (.fn (by simp))
  · split at h
    · rename_i hL
      split at h
      · cases h; exact Vw.fn (.cons (Vw.ptr hL (by assumption)) .nil)
      · cases h
    · cases h
  · split at h
    · rename_i hL hL'
      split at h
      · rename_i hc
        cases h
        simp only [Bool.and_eq_true] at hc
        exact Vw.fn (.cons (Vw.ptr hL hc.1) (.cons (Vw.ptr hL' hc.2) .nil))
      · cases h
    · cases h
  · split at h
    · cases h; exact .pur (.of (by assumption))
    · cases h

theorem lendL_sound {L : List AObj} : ∀ {xs ys : List AV}, xs.mapM (lendA L) = some ys → VwL L xs ys
  | [], ys, h => by simp at h; subst h; exact .nil
  | x :: xs, ys, h => by
    simp only [List.mapM_cons, Option.bind_eq_bind, Option.bind_eq_some_iff, Option.pure_def, Option.some.injEq] at h
    obtain ⟨y, h1, zs, h2, rfl⟩ := h
    exact .cons (lendA_sound h1) (lendL_sound h2)

/-- A call that is lent what the caller owns. -/
theorem RunL.lend {P : Program} {k : Oper → Knd} {ops : Array Oper} {K : St → Prop} {o : Oper} {rest : List Oper} {s : St} {f : FuncId} {args : Array Operand} {ats : Array TypeId} {r : AV} {xs ys : List AV}
    (hg : guardA ops s o = some true) (ho : o.op = .call { callee := .value (.func f), args := args, argTypes := ats }) (hx : args.toList.map s.ev = xs) (hf : okFn P f = true) (hkd : Knd.le .C (k o) = true)
    (hl : xs.mapM (lendA s.L) = some ys) (h : Ct P f ys [] r []) (hr : flatB r = true) (hk : R P k ops rest (s.put o.dst r) K) : RunL P k ops (o :: rest) s K :=
  .call hg ho hx hf hkd (.inr ⟨[], by simp⟩) (Ct.lend h (lendL_sound hl) hr) hk

/-- A call of a closure over values. -/
theorem RunL.callcv {P : Program} {k : Oper → Knd} {ops : Array Oper} {K : St → Prop} {o : Oper} {rest : List Oper} {s : St} {x : Operand} {f : FuncId} {cap : List AV} {args : Array Operand} {ats : Array TypeId} {r : AV} {xs : List AV}
    (hg : guardA ops s o = some true) (ho : o.op = .call { callee := .value x, args := args, argTypes := ats }) (hc : s.ev x = .fn f cap) (hx : args.toList.map s.ev ++ cap = xs) (hf : okFn P f = true) (hkd : Knd.le .C (k o) = true)
    (h : Ct P f xs [] r []) (hp : pureL xs = true) (hk : R P k ops rest (s.put o.dst r) K) : RunL P k ops (o :: rest) s K :=
  .callc hg ho hc hx hf hkd (.inr ⟨[], by simp⟩) (h.frame s.L (Pur.ofL hp)) hk

/-! ### a slice that is nil, told as a row of the call's own -/
theorem AWp.nil {P : Program} {c : Code} {Q : Exit → St → Prop} {s : St} (j : Nat) (T : TypeId) (sz : Nat) (hj : s.t[j]? = some (.lit (.slice none 0 0)))
    (h : AWp P c Q ⟨s.t.set j (.ref s.L.length [] 0 0), s.L ++ [.vec T sz 0 []]⟩) : AWp P c Q s := by
  intro ro γ a w hp hr
  have hE := Ext.more γ s.L [AObj.vec T sz 0 []]
  have hI := hr.inv.moreVec T sz
  have hr' : Rel γ ⟨s.t.set j (.ref s.L.length [] 0 0), s.L ++ [AObj.vec T sz 0 []]⟩ a w := by
    have hm := hr.mono hE hI
    refine ⟨hm.defers, by simpa using hm.size, fun i x hx => ?_, hI⟩
    by_cases hij : j = i
    · subst hij
      have hlt := (List.getElem?_eq_some_iff.1 hj).1
      simp [hlt] at hx
      subst hx
      have hv := hr.tmps j _ hj
      generalize a.tmps.getD j undef = v at hv
      cases hv
      refine .ref _ _ _ _ _ ?_ rfl
      unfold RefOk
      simp only [List.getElem?_append_right (Nat.le_refl _), Nat.sub_self, List.getElem?_cons_zero]
      refine ⟨Nat.le_refl _, fun _ => ⟨[], rfl, Nat.le_refl _, .inl ⟨by trivial, by trivial, fun b c hb => ?_⟩⟩⟩
      have := hr.inv.idlt hb
      omega
    · rw [List.getElem?_set_ne hij] at hx
      exact hm.tmps i x hx
  refine wpIn_mono (h ro γ a w hp hr') ?_
  rintro e a' w' ⟨γ', s', h1, h2, h3, h4⟩
  exact ⟨γ', s', h1, hE.trans h2, h3, h4⟩

end Go.Proofs.Ytobdpkkmkbafbaa.K
/-
  A logic of values for Go's functions (part 18): a call that gives rows of its own, to which the caller lends what it owns.
-/
namespace Go.Proofs.Ytobdpkkmkbafbaa.K
set_option linter.unusedVariables false
set_option linter.unusedSimpArgs false
open Go

def sh1 (k : Nat) : AV → AV
  | .ref id p g n => .ref (id + k) p g n
  | x => x
/-- A result, told where the caller owned 'k' objects ahead of the call. -/
def shR (k : Nat) : AV → AV
  | .tup rs => .tup (rs.map (sh1 k))
  | x => sh1 k x
def ok1 : AV → Bool
  | .ref _ _ _ _ => true
  | x => flatB x
def okR : AV → Bool
  | .tup rs => rs.all ok1
  | x => ok1 x
theorem shR_one {r : AV} (h : ∀ rs, r ≠ .tup rs) (k : Nat) : okR r = ok1 r ∧ shR k r = sh1 k r := by
  cases r <;> first | exact ⟨rfl, rfl⟩ | exact absurd rfl (h _)
/-- Rows whose cells lead to no memory. -/
def okO : AObj → Bool
  | .vec _ _ _ es => noOwn es && es.all fun e => e.cells.all flatB
  | _ => false

theorem Ct.lendOwn {P : Program} {f : FuncId} {xs ys : List AV} {r : AV} {L M : List AObj} (h : Ct P f ys [] r M) (hy : VwL L xs ys) (hr : okR r = true) (hM : M.all okO = true) : Ct P f xs L (shR L.length r) (L ++ M) := by
  intro γ w vs hI ha
  have hI0 := frz_inv hI
  have ha0 : ArgsR (frz γ w) [] ys vs := by
    refine ⟨by rw [ha.1]; exact hy.get.1, fun i y hi => ?_⟩
    obtain ⟨x, hx, hxy⟩ := hy.get.2 i y hi
    exact hxy γ w _ hI (ha.2 i x hx)
  refine (h (frz γ w) w vs hI0 ha0).mono ?_
  rintro e w' ⟨γ1, v, rfl, hI1, hv, _, hS⟩
  let γ' : Nat → Gh := fun b => match γ b with | .ow id p c => .ow id p c | _ => match γ1 b with | .ow id p c => .ow (id + L.length) p c | g => g
  have h1 : ∀ {b id p c}, γ b = .ow id p c → γ' b = .ow id p c ∧ (∃ o, γ1 b = .ro o) ∧ w'.heap[b]? = w.heap[b]? := by
    intro b id p c hb
    obtain ⟨o, ho, _⟩ := hI.ow _ _ _ _ hb
    have := hS.ro b o (by simp [frz, hb, ho])
    exact ⟨by simp [γ', hb], ⟨o, this⟩, by rw [hI1.ro b o this, ho]⟩
  have h2 : ∀ {b}, (∀ id p c, γ b ≠ .ow id p c) → γ' b = (match γ1 b with | .ow id p c => .ow (id + L.length) p c | g => g) := by
    intro b hb
    cases hg : γ b with
    | ow id p c => exact absurd hg (hb id p c)
    | out => simp [γ', hg]
    | ro o => simp [γ', hg]
  have up1 : ∀ {b id p c}, γ1 b = .ow id p c → γ' b = .ow (id + L.length) p c := by
    intro b id p c hb
    rw [h2 (fun id p c he => by obtain ⟨_, ⟨o, ho⟩, _⟩ := h1 he; rw [hb] at ho; cases ho), hb]
  have down : ∀ {b id p c}, γ' b = .ow id p c → γ b = .ow id p c ∨ ((∀ id p c, γ b ≠ .ow id p c) ∧ ∃ id1, id = id1 + L.length ∧ γ1 b = .ow id1 p c) := by
    intro b id p c hb
    by_cases hx : ∃ id p c, γ b = .ow id p c
    · obtain ⟨id', p', c', he⟩ := hx
      rw [(h1 he).1] at hb; cases hb; exact .inl he
    · have hn : ∀ id p c, γ b ≠ .ow id p c := fun id p c he => hx ⟨id, p, c, he⟩
      rw [h2 hn] at hb
      cases hg : γ1 b with
      | ow id1 p1 c1 => rw [hg] at hb; cases hb; exact .inr ⟨hn, id1, rfl, rfl⟩
      | out => rw [hg] at hb; cases hb
      | ro o => rw [hg] at hb; cases hb
  have roD : ∀ b o, γ' b = .ro o → γ1 b = .ro o := by
    intro b o hb
    by_cases hx : ∃ id p c, γ b = .ow id p c
    · obtain ⟨id', p', c', he⟩ := hx
      rw [(h1 he).1] at hb; cases hb
    · rw [h2 (fun id p c he => hx ⟨id, p, c, he⟩)] at hb
      cases hg : γ1 b with
      | ow id1 p1 c1 => rw [hg] at hb; cases hb
      | out => rw [hg] at hb; cases hb
      | ro o1 => rw [hg] at hb; exact hb
  have hro : ∀ b o, γ b = .ro o → γ' b = .ro o := by
    intro b o hb
    rw [h2 (fun id p c he => by rw [hb] at he; cases he), hS.ro b o (frz_ro b o hb)]
  have low : ∀ {b id p c}, γ' b = .ow id p c → id < L.length → γ b = .ow id p c := by
    intro b id p c hb hlt
    rcases down hb with h | ⟨_, id1, he, _⟩
    · exact h
    · omega
  have hE : Ext γ L γ' (L ++ M) :=
    ⟨hro, fun id o hL => ⟨o, by rw [List.getElem?_append_left (List.getElem?_eq_some_iff.1 hL).1]; exact hL, OStep.refl o⟩, fun b id p c hb => .inl (h1 hb).1,
     fun id T sz g es T' sz' es' hL _ p e1 _ b c hb => low hb (List.getElem?_eq_some_iff.1 hL).1⟩
  have getM : ∀ (id : Nat), (L ++ M)[id + L.length]? = M[id]? := fun id => by rw [List.getElem?_append_right (by omega)]; congr 1; omega
  have isVec : ∀ {id : Nat} {o : AObj}, M[id]? = some o → okO o = true := fun hM' => List.all_eq_true.1 hM _ (List.mem_of_getElem? hM')
  refine ⟨γ', v, rfl, ⟨fun b o hb => hI1.ro b o (roD b o hb), fun b id p c hb => ?_, fun b b' id p c c' hb hb' => ?_, fun id T cs hL => ?_, fun id kt vt es hL => ?_⟩, ?_, hE, ?_⟩
  · rcases down hb with hb0 | ⟨hn, id1, rfl, hb1⟩
    · obtain ⟨o, ho, hrep⟩ := hI.ow _ _ _ _ hb0
      exact ⟨o, by rw [(h1 hb0).2.2]; exact ho, hrep.grow hE (hI.idlt hb0) (fun b p c hb => (h1 hb).1) (fun b p c hb => low hb (hI.idlt hb0))⟩
    · obtain ⟨o, ho, hrep⟩ := hI1.ow _ _ _ _ hb1
      refine ⟨o, ho, ?_⟩
      unfold BlockRep at *
      rw [getM]
      split at hrep
      · rename_i hL'; simpa [okO] using isVec hL'
      · rename_i T sz g es hL'
        have hok := isVec hL'
        simp only [okO, Bool.and_eq_true] at hok
        obtain ⟨es', s, arr, T', k1, k2, k3, k4, k5, k6, k7⟩ := hrep
        obtain ⟨rfl, rfl⟩ := noOwn_sub hok.1 k1
        refine ⟨es', s, arr, T', k1, k2, k3, k4, k5, k6, k7.1, fun i e j x he hx => ?_⟩
        obtain ⟨u, m1, m2, m3⟩ := k7.2 i e j x he hx
        refine ⟨u, m1, m2, (noOwn_CV hok.1 he hx).2 (flatB_sound ((noOwn_CV hok.1 he hx).1 m3) ?_)⟩
        exact List.all_eq_true.1 (List.all_eq_true.1 hok.2 e (List.mem_of_getElem? he)) x (List.mem_of_getElem? hx)
      · rename_i hL'; simpa [okO] using isVec hL'
      · exact hrep.elim
  · rcases down hb with hb0 | ⟨hn, id1, rfl, hb1⟩ <;> rcases down hb' with hb0' | ⟨hn', id1', he, hb1'⟩
    · exact hI.inj _ _ _ _ _ _ hb0 hb0'
    · have := hI.idlt hb0; omega
    · have := hI.idlt hb0'; omega
    · have : id1 = id1' := by omega
      subst this
      exact hI1.inj _ _ _ _ _ _ hb1 hb1'
  · by_cases hid : id < L.length
    · rw [List.getElem?_append_left hid] at hL
      obtain ⟨b, c, hb⟩ := hI.box _ _ _ hL
      exact ⟨b, c, (h1 hb).1⟩
    · rw [List.getElem?_append_right (by omega)] at hL
      simpa [okO] using isVec hL
  · by_cases hid : id < L.length
    · rw [List.getElem?_append_left hid] at hL
      obtain ⟨b, c, hb⟩ := hI.map _ _ _ _ hL
      exact ⟨b, c, (h1 hb).1⟩
    · rw [List.getElem?_append_right (by omega)] at hL
      simpa [okO] using isVec hL
  · have one : ∀ {x : AV} {v : Value}, ok1 x = true → RV γ1 M x v → RV γ' (L ++ M) (sh1 L.length x) v := by
      intro x v hx hv
      cases hv with
      | ref id p g n v hok ho =>
        refine .ref _ _ _ _ _ ?_ ho
        unfold RefOk at *
        rw [getM]
        split at hok
        · rename_i T sz g' es hL'
          refine ⟨hok.1, fun hg => ?_⟩
          obtain ⟨es', k1, k2, k3⟩ := hok.2 hg
          refine ⟨es', k1, k2, ?_⟩
          rcases k3 with ⟨k3, k4, k5⟩ | ⟨b, c, k3, k4⟩
          · refine .inl ⟨k3, k4, fun b c hb => ?_⟩
            rcases down hb with hb0 | ⟨_, id1, he, hb1⟩
            · have := hI.idlt hb0; omega
            · have : id = id1 := by omega
              subst this
              exact k5 b c hb1
          · exact .inr ⟨b, c, k3, up1 k4⟩
        · trivial
        · exact hok.elim
      | int k n => exact .int k n
      | bool b => exact .bool b
      | str s => exact .str s
      | lit v h => exact .lit v h
      | junk v => exact .junk v
      | sl own es A n c sz vals a1 a2 a3 a4 a5 a6 => exact flatB_sound (.sl own es A n c sz vals a1 a2 a3 a4 a5 a6) hx
      | agg cs vs a1 a2 a3 => exact flatB_sound (.agg cs vs a1 a2 a3) hx
      | tup cs vs a1 a2 => exact flatB_sound (.tup cs vs a1 a2) hx
      | ptr id off b c T cs a1 a2 => simp [ok1, flatB] at hx
      | eptr id p g i off v a1 a2 => simp [ok1, flatB] at hx
      | rptr x off b o vals a1 a2 a3 => simp [ok1, flatB] at hx
      | fn f cs vs a1 a2 => simp [ok1, flatB] at hx
      | map id b c kt vt es a1 a2 => simp [ok1, flatB] at hx
      | yld l r ts h hts => simp [ok1, flatB] at hx
    by_cases ht : ∃ rs, r = .tup rs
    · obtain ⟨rs, rfl⟩ := ht
      cases hv with
      | tup _ vs hn hall =>
        refine .tup _ _ (by simp [hn]) fun i x hx => ?_
        simp only [List.getElem?_map, Option.map_eq_some_iff] at hx
        obtain ⟨y, hy, rfl⟩ := hx
        exact one (List.all_eq_true.1 hr y (List.mem_of_getElem? hy)) (hall i y hy)
    · have hs := shR_one (fun rs he => ht ⟨rs, he⟩) L.length
      rw [hs.2]
      exact one (by rw [← hs.1]; exact hr) hv
  · refine ⟨hS.os, hS.tape, hS.output, hS.size, hE.ro, fun b hb ho => ?_⟩
    have := hS.out b hb (by simp [frz, ho])
    exact ⟨by rw [h2 (fun id p c he => by rw [ho] at he; cases he), this.1], this.2⟩

theorem RunL.lendOwn {P : Program} {k : Oper → Knd} {ops : Array Oper} {K : St → Prop} {o : Oper} {rest : List Oper} {s : St} {f : FuncId} {args : Array Operand} {ats : Array TypeId} {r : AV} {xs ys : List AV} {M : List AObj}
    (hg : guardA ops s o = some true) (ho : o.op = .call { callee := .value (.func f), args := args, argTypes := ats }) (hx : args.toList.map s.ev = xs) (hf : okFn P f = true) (hkd : Knd.le .C (k o) = true)
    (hl : xs.mapM (lendA s.L) = some ys) (h : Ct P f ys [] r M) (hr : okR r = true) (hM : M.all okO = true) (hk : R P k ops rest ({ s with L := s.L ++ M }.put o.dst (shR s.L.length r)) K) : RunL P k ops (o :: rest) s K :=
  .call hg ho hx hf hkd (.inr ⟨M, rfl⟩) (Ct.lendOwn h (lendL_sound hl) hr hM) hk

/-- The end of a call that gives what it owns. -/
theorem Fin.own {L L1 L' : List AObj} {r1 r : AV} (h : L1 = L') (hr : r1 = r) : K.Fin L L1 r1 L' r := by
  subst h hr
  intro γ0 w0 γ w v _ hI hv hE hS
  exact ⟨γ, hI, hv, hE, hS⟩

end Go.Proofs.Ytobdpkkmkbafbaa.K
/-
  A logic of values for Go's functions (part 19): a call that gives memory of its own, whatever its shape.
-/
namespace Go.Proofs.Ytobdpkkmkbafbaa.K
set_option linter.unusedVariables false
set_option linter.unusedSimpArgs false
open Go

mutual
/-- A value, told where the caller owned 'k' objects ahead of the call. -/
def shA (k : Nat) : AV → AV
  | .ref id p g n => .ref (id + k) p g n
  | .ptr id off => .ptr (id + k) off
  | .eptr id p g i off => .eptr (id + k) p g i off
  | .map id => .map (id + k)
  | .sl own es => .sl own (shL k es)
  | .agg cs => .agg (shL k cs)
  | .tup vs => .tup (shL k vs)
  | .rptr c off => .rptr (shA k c) off
  | .fn f cap => .fn f (shL k cap)
  | .yld l r ts => .yld l r (shL k ts)
  | x => x
def shL (k : Nat) : List AV → List AV
  | [] => []
  | x :: xs => shA k x :: shL k xs
end

theorem shL_eq (k : Nat) : ∀ xs, shL k xs = xs.map (shA k)
  | [] => by simp [shL]
  | x :: xs => by simp [shL, shL_eq k xs]

theorem shA_cells (k : Nat) (x : AV) : (shA k x).cells = x.cells.map (shA k) := by
  cases x <;> simp [shA, AV.cells, shL_eq]

theorem shA_slT {k : Nat} {x : AV} {ys : List AV} (h : shA k x = .sl true ys) : ∃ es, x = .sl true es ∧ ys = es.map (shA k) := by
  cases x <;> simp [shA] at h
  obtain ⟨rfl, rfl⟩ := h
  exact ⟨_, rfl, shL_eq k _⟩

def shO (k : Nat) : AObj → AObj
  | .box T cs => .box T (cs.map (shA k))
  | .vec T sz g es => .vec T sz g (es.map (shA k))
  | x => x

theorem sub_sh (k : Nat) : ∀ (p : Pth) (es : List AV), sub (es.map (shA k)) p = (sub es p).map (List.map (shA k))
  | [], es => rfl
  | (i, j) :: p, es => by
    simp only [sub, List.getElem?_map]
    cases he : es[i]? with
    | none => rfl
    | some e =>
      simp only [Option.map_some, shA_cells, List.getElem?_map]
      cases hc : e.cells[j]? with
      | none => rfl
      | some c =>
        simp only [Option.map_some]
        cases c with
        | sl own es' =>
          cases own with
          | true => simp only [shA, shL_eq]; exact sub_sh k p es'
          | false => simp only [shA]; rfl
        | _ => simp only [shA]; rfl

mutual
/-- Values that lead to no memory that is only read. -/
def okS : AV → Bool
  | .sl _ [] => true
  | .sl _ (_ :: _) => false
  | .rptr _ _ => false
  | .yld _ _ _ => false
  | .agg cs => okSL cs
  | .tup vs => okSL vs
  | .fn _ cap => okSL cap
  | _ => true
def okSL : List AV → Bool
  | [] => true
  | x :: xs => okS x && okSL xs
end

theorem okSL_mem {xs : List AV} : okSL xs = true ↔ ∀ x ∈ xs, okS x = true := by
  induction xs with
  | nil => simp [okSL]
  | cons x xs ih => simp [okSL, ih]

theorem okS_cells {x c : AV} (h : okS x = true) (hc : c ∈ x.cells) : okS c = true := by
  cases x <;> first
    | (simp only [AV.cells, List.mem_singleton] at hc; subst hc; exact h)
    | (simp only [AV.cells] at hc; simp only [okS] at h; exact okSL_mem.1 h c hc)

def okSO : AObj → Bool
  | .box _ cs => okSL cs
  | .vec _ _ _ es => okSL es
  | _ => true

/-- A view of the callee's that lies behind the caller's own. -/
structure Beh (γ1 : Nat → Gh) (M : List AObj) (γ' : Nat → Gh) (L' : List AObj) (k : Nat) (full : Bool) : Prop where
  get : ∀ (id : Nat), L'[id + k]? = (M[id]?).map (shO k)
  up : ∀ b id p c, γ1 b = .ow id p c → γ' b = .ow (id + k) p c
  down : ∀ b id p c, γ' b = .ow (id + k) p c → γ1 b = .ow id p c
  ro : full = true → ∀ b o, γ1 b = .ro o → γ' b = .ro o

theorem Beh.refOk {γ1 γ' : Nat → Gh} {M L' : List AObj} {k : Nat} {full : Bool} (B : Beh γ1 M γ' L' k full) {id : Nat} {p : Pth} {g n : Nat} {v : Value} (h : RefOk γ1 M id p g n v) : RefOk γ' L' (id + k) p g n v := by
  unfold RefOk at *
  rw [B.get]
  split at h
  · rename_i T sz g' es hL
    simp only [hL, Option.map_some, shO]
    refine ⟨h.1, fun hg => ?_⟩
    obtain ⟨es', k1, k2, k3⟩ := h.2 hg
    refine ⟨es'.map (shA k), by rw [sub_sh, k1]; rfl, by simpa using k2, ?_⟩
    rcases k3 with ⟨k3, k4, k5⟩ | ⟨b, c, k3, k4⟩
    · exact .inl ⟨k3, by simp [k4], fun b c hb => k5 b c (B.down _ _ _ _ hb)⟩
    · exact .inr ⟨b, c, k3, B.up _ _ _ _ k4⟩
  · rename_i o hne hL
    simp only [hL, Option.map_some]
    cases o <;> first | trivial | exact absurd rfl (hne _ _ _ _)
  · exact h.elim

theorem Beh.eptrOk {γ1 γ' : Nat → Gh} {M L' : List AObj} {k : Nat} {full : Bool} (B : Beh γ1 M γ' L' k full) {id : Nat} {p : Pth} {g i off : Nat} {v : Value} (h : EptrOk γ1 M id p g i off v) : EptrOk γ' L' (id + k) p g i off v := by
  unfold EptrOk at *
  rw [B.get]
  split at h
  · rename_i T sz g' es hL
    simp only [hL, Option.map_some, shO]
    refine ⟨h.1, fun hg => ?_⟩
    obtain ⟨es', e, b, c, s, k1, k2, k3, k4, k5, k6⟩ := h.2 hg
    refine ⟨es'.map (shA k), shA k e, b, c, s, by rw [sub_sh, k1]; rfl, by rw [List.getElem?_map, k2]; rfl, by rw [shA_cells, List.length_map]; exact k3, fun z hz => ?_, k5, B.up _ _ _ _ k6⟩
    obtain ⟨z', hz', rfl⟩ := List.mem_map.1 hz
    rw [shA_cells, List.length_map]; exact k4 z' hz'
  · rename_i o hne hL
    simp only [hL, Option.map_some]
    cases o <;> first | trivial | exact absurd rfl (hne _ _ _ _)
  · exact h.elim

theorem shA_cell {k : Nat} {x : AV} {j : Nat} {y : AV} (h : (shA k x).cells[j]? = some y) : ∃ y0, x.cells[j]? = some y0 ∧ y = shA k y0 := by
  rw [shA_cells, List.getElem?_map, Option.map_eq_some_iff] at h
  obtain ⟨y0, h1, h2⟩ := h
  exact ⟨y0, h1, h2.symm⟩

theorem Beh.rv {γ1 γ' : Nat → Gh} {M L' : List AObj} {k : Nat} {full : Bool} (B : Beh γ1 M γ' L' k full) {x : AV} {v : Value} (h : RV γ1 M x v) : full = true ∨ okS x = true → RV γ' L' (shA k x) v := by
  induction h with
  | int k n => intro _; exact .int k n
  | bool b => intro _; exact .bool b
  | str s => intro _; exact .str s
  | lit v h => intro _; exact .lit v h
  | sl own es A n c sz vals hn hc hsz h2 h1 h3 ih =>
    intro hok
    simp only [shA, shL_eq]
    cases es with
    | nil => exact .sl own [] A n c sz vals hn hc hsz (by simp) (by simp) (by simp)
    | cons e0 es0 =>
      by_cases hf : full = true
      · have get : ∀ {i : Nat} {e : AV} {j : Nat} {x : AV}, ((e0 :: es0).map (shA k))[i]? = some e → e.cells[j]? = some x → ∃ e1 x1, (e0 :: es0)[i]? = some e1 ∧ e1.cells[j]? = some x1 ∧ x = shA k x1 := by
          intro i e j x he hx
          rw [List.getElem?_map, Option.map_eq_some_iff] at he
          obtain ⟨e1, h4, rfl⟩ := he
          obtain ⟨x1, h5, h6⟩ := shA_cell hx
          exact ⟨e1, x1, h4, h5, h6⟩
        refine .sl own _ A n c sz vals (by simpa using hn) hc (fun e he => ?_) (fun i e j x he hx => ?_) (fun i e j x he hx => ?_) (fun i e j x he hx => ?_)
        · obtain ⟨e', he', rfl⟩ := List.mem_map.1 he
          rw [shA_cells, List.length_map]; exact hsz e' he'
        · obtain ⟨e1, x1, h4, h5, rfl⟩ := get he hx
          exact roCell_mono (B.ro hf) (h2 _ _ _ _ h4 h5)
        · obtain ⟨e1, x1, h4, h5, rfl⟩ := get he hx
          exact h1 _ _ _ _ h4 h5
        · obtain ⟨e1, x1, h4, h5, rfl⟩ := get he hx
          exact ih _ _ _ _ h4 h5 (.inl hf)
      · exfalso
        have hok' := hok.resolve_left hf
        simp [okS] at hok'
  | agg cs vs hn h1 h ih =>
    intro hok
    simp only [shA, shL_eq]
    refine .agg _ vs (by simpa using hn) h1 fun i x hx => ?_
    rw [List.getElem?_map, Option.map_eq_some_iff] at hx
    obtain ⟨y, hy, rfl⟩ := hx
    exact ih i y hy (hok.imp (fun h => h) fun h => okSL_mem.1 (by simpa [okS] using h) y (List.mem_of_getElem? hy))
  | tup cs vs hn h ih =>
    intro hok
    simp only [shA, shL_eq]
    refine .tup _ vs (by simpa using hn) fun i x hx => ?_
    rw [List.getElem?_map, Option.map_eq_some_iff] at hx
    obtain ⟨y, hy, rfl⟩ := hx
    exact ih i y hy (hok.imp (fun h => h) fun h => okSL_mem.1 (by simpa [okS] using h) y (List.mem_of_getElem? hy))
  | ref id p g n v h h1 => intro _; exact .ref _ _ _ _ _ (B.refOk h) h1
  | ptr id off b c T cs hL h => intro _; exact .ptr _ _ _ _ T (cs.map (shA k)) (by rw [B.get, hL]; rfl) (B.up _ _ _ _ h)
  | eptr id p g i off v h h1 => intro _; exact .eptr _ _ _ _ _ _ (B.eptrOk h) h1
  | rptr x off b o vals h2 h1 h3 ih =>
    intro hok
    rcases hok with hf | hok
    · simp only [shA]
      refine .rptr _ _ _ _ vals (fun j y hy => ?_) (fun j y hy => ?_) (fun j y hy => ?_)
      · obtain ⟨y0, h4, rfl⟩ := shA_cell hy
        exact roCell_mono (B.ro hf) (h2 _ _ h4)
      · obtain ⟨y0, h4, rfl⟩ := shA_cell hy
        exact h1 _ _ h4
      · obtain ⟨y0, h4, rfl⟩ := shA_cell hy
        exact ih _ _ h4 (.inl hf)
    · simp [okS] at hok
  | fn f cs vs hn h ih =>
    intro hok
    simp only [shA, shL_eq]
    refine .fn _ _ vs (by simpa using hn) fun i x hx => ?_
    rw [List.getElem?_map, Option.map_eq_some_iff] at hx
    obtain ⟨y, hy, rfl⟩ := hx
    exact ih i y hy (hok.imp (fun h => h) fun h => okSL_mem.1 (by simpa [okS] using h) y (List.mem_of_getElem? hy))
  | map id b c kt vt es hL h => intro _; exact .map _ _ _ kt vt es (by rw [B.get, hL]; rfl) (B.up _ _ _ _ h)
  | yld l r ts h hts ih =>
    intro hok
    rcases hok with hf | hok
    · simp only [shA, shL_eq]
      refine .yld l r _ (B.ro hf _ _ h) fun i x hx => ?_
      rw [List.getElem?_map, Option.map_eq_some_iff] at hx
      obtain ⟨y, hy, rfl⟩ := hx
      exact ih i y hy (.inl hf)
    · simp [okS] at hok
  | junk v => intro _; exact .junk v

theorem Beh.cv {γ1 γ' : Nat → Gh} {M L' : List AObj} {k : Nat} {full : Bool} (B : Beh γ1 M γ' L' k full) {id : Nat} {q : Pth} {x : AV} {v : Value} (h : CV γ1 M id q x v) (hok : full = true ∨ okS x = true) : CV γ' L' (id + k) q (shA k x) v := by
  by_cases ht : ∃ es, x = .sl true es
  · obtain ⟨es, rfl⟩ := ht
    simp only [CV, shA, shL_eq] at *
    rcases h with ⟨rfl, h2, h3⟩ | ⟨b, c, h1, h2⟩
    · exact .inl ⟨rfl, h2, fun b c hb => h3 b c (B.down _ _ _ _ hb)⟩
    · exact .inr ⟨b, c, by simpa using h1, B.up _ _ _ _ h2⟩
  · have hne : ∀ ys, shA k x ≠ .sl true ys := fun ys he => by
      obtain ⟨es, h1, _⟩ := shA_slT he
      exact ht ⟨es, h1⟩
    have h' : RV γ1 M x v := by
      unfold CV at h
      split at h
      · exact absurd ⟨_, rfl⟩ ht
      · exact h
    unfold CV
    split
    · rename_i ys he; exact absurd he (hne _)
    · exact B.rv h' hok

theorem sub_okS : ∀ {p : Pth} {es es' : List AV}, okSL es = true → sub es p = some es' → okSL es' = true
  | [], es, es', h, hs => by simp [sub] at hs; subst hs; exact h
  | (i, j) :: p, es, es', h, hs => by
    simp only [sub] at hs
    split at hs
    · rename_i e he
      split at hs
      · rename_i es2 hc
        have := okS_cells (okSL_mem.1 h e (List.mem_of_getElem? he)) (List.mem_of_getElem? hc)
        cases es2 with
        | nil => exact sub_okS rfl hs
        | cons a b => simp [okS] at this
      · cases hs
    · cases hs

theorem Beh.block {γ1 γ' : Nat → Gh} {M L' : List AObj} {k : Nat} {full : Bool} (B : Beh γ1 M γ' L' k full) {o : Obj} {id c : Nat} {p : Pth} (hok : full = true ∨ M.all okSO = true) (h : BlockRep γ1 M o id p c) : BlockRep γ' L' o (id + k) p c := by
  have hM : ∀ {x}, M[id]? = some x → full = true ∨ okSO x = true := fun hx => hok.imp (fun h => h) fun h => List.all_eq_true.1 h _ (List.mem_of_getElem? hx)
  unfold BlockRep at *
  rw [B.get]
  split at h
  · rename_i T cs hL
    have hM' := hM hL
    simp only [hL, Option.map_some, shO]
    obtain ⟨h1, arr, h2, h3, h4⟩ := h
    refine ⟨h1, arr, h2, by simpa using h3, fun j x hx => ?_⟩
    rw [List.getElem?_map, Option.map_eq_some_iff] at hx
    obtain ⟨y, hy, rfl⟩ := hx
    obtain ⟨v, a1, a2, a3⟩ := h4 j y hy
    exact ⟨v, a1, a2, B.rv a3 (hM'.imp (fun h => h) fun h => okSL_mem.1 (by simpa [okSO] using h) y (List.mem_of_getElem? hy))⟩
  · rename_i T sz g es hL
    have hM' := hM hL
    simp only [hL, Option.map_some, shO]
    obtain ⟨es', s, arr, T', h1, h2, h3, h4, h5, h6, h7⟩ := h
    refine ⟨es'.map (shA k), s, arr, T', by rw [sub_sh, h1]; rfl, h2, h3, h4, by simpa using h5, h6, fun z hz => ?_, fun i e j x he hx => ?_⟩
    · obtain ⟨z', hz', rfl⟩ := List.mem_map.1 hz
      rw [shA_cells, List.length_map]; exact h7.1 z' hz'
    · rw [List.getElem?_map, Option.map_eq_some_iff] at he
      obtain ⟨e0, he0, rfl⟩ := he
      obtain ⟨x0, hx0, rfl⟩ := shA_cell hx
      obtain ⟨v, a1, a2, a3⟩ := h7.2 i e0 j x0 he0 hx0
      exact ⟨v, a1, a2, B.cv a3 (hM'.imp (fun h => h) fun h => okS_cells (okSL_mem.1 (sub_okS (by simpa [okSO] using h) h1) e0 (List.mem_of_getElem? he0)) (List.mem_of_getElem? hx0))⟩
  · rename_i hL
    simp only [hL, Option.map_some, shO]
    exact h
  · exact h.elim

/-- What a call that gives memory of its own leaves, told where the caller owned 'L'. 'g0': the callee's view. -/
theorem Ct.behind {P : Program} {f : FuncId} {xs ys : List AV} {r : AV} {L M : List AObj} (full : Bool) (hok : full = true ∨ (okS r = true ∧ M.all okSO = true)) (h : Ct P f ys [] r M)
    (hargs : ∀ γ w (vs : Array Value), Inv γ L w → ArgsR γ L xs vs → ArgsR (if full then hide γ else frz γ w) [] ys vs) : Ct P f xs L (shA L.length r) (L ++ M.map (shO L.length)) := by
  intro γ w vs hI ha
  let γ0 : Nat → Gh := if full then hide γ else frz γ w
  have hro0 : ∀ b o, γ b = .ro o → γ0 b = .ro o := by
    intro b o hb
    by_cases hf : full = true <;> simp [γ0, hf, hide, frz, hb]
  have hI0 : Inv γ0 [] w := by
    by_cases hf : full = true
    · simp only [γ0, hf, if_true]
      refine ⟨fun b o hb => ?_, fun b id p c hb => ?_, fun b b' id p c c' hb => ?_, fun id T cs hL => by simp at hL, fun id kt vt es hL => by simp at hL⟩
      · unfold hide at hb
        split at hb
        · cases hb
        · exact hI.ro b o hb
      · unfold hide at hb
        split at hb
        · cases hb
        · rename_i hne; exact (hne _ _ _ hb).elim
      · unfold hide at hb
        split at hb
        · cases hb
        · rename_i hne; exact (hne _ _ _ hb).elim
    · simp only [γ0, hf]
      exact frz_inv hI
  refine (h γ0 w vs hI0 (hargs γ w vs hI ha)).mono ?_
  rintro e w' ⟨γ1, v, rfl, hI1, hv, _, hS⟩
  let γ' : Nat → Gh := fun b => match γ b with | .ow id p c => .ow id p c | _ => match γ1 b with | .ow id p c => .ow (id + L.length) p c | g => g
  have h1 : ∀ {b id p c}, γ b = .ow id p c → γ' b = .ow id p c ∧ (∀ id p c, γ1 b ≠ .ow id p c) ∧ w'.heap[b]? = w.heap[b]? ∧ (full = true → ∀ o, γ1 b ≠ .ro o) := by
    intro b id p c hb
    obtain ⟨o, ho, _⟩ := hI.ow _ _ _ _ hb
    have hlt := (Array.getElem?_eq_some_iff.1 ho).1
    by_cases hf : full = true
    · have := hS.out b hlt (by simp [γ0, hf, hide, hb])
      exact ⟨by simp [γ', hb], by rw [this.1]; simp, this.2, fun _ o => by rw [this.1]; simp⟩
    · have := hS.ro b o (by simp [γ0, hf, frz, hb, ho])
      exact ⟨by simp [γ', hb], by rw [this]; simp, by rw [hI1.ro b o this, ho], fun h => absurd h hf⟩
  have h2 : ∀ {b}, (∀ id p c, γ b ≠ .ow id p c) → γ' b = (match γ1 b with | .ow id p c => .ow (id + L.length) p c | g => g) := by
    intro b hb
    cases hg : γ b with
    | ow id p c => exact absurd hg (hb id p c)
    | out => simp [γ', hg]
    | ro o => simp [γ', hg]
  have up1 : ∀ {b id p c}, γ1 b = .ow id p c → γ' b = .ow (id + L.length) p c := by
    intro b id p c hb
    rw [h2 (fun id p c he => (h1 he).2.1 _ _ _ hb), hb]
  have down : ∀ {b id p c}, γ' b = .ow id p c → γ b = .ow id p c ∨ ((∀ id p c, γ b ≠ .ow id p c) ∧ ∃ id1, id = id1 + L.length ∧ γ1 b = .ow id1 p c) := by
    intro b id p c hb
    by_cases hx : ∃ id p c, γ b = .ow id p c
    · obtain ⟨id', p', c', he⟩ := hx
      rw [(h1 he).1] at hb; cases hb; exact .inl he
    · have hn : ∀ id p c, γ b ≠ .ow id p c := fun id p c he => hx ⟨id, p, c, he⟩
      rw [h2 hn] at hb
      cases hg : γ1 b with
      | ow id1 p1 c1 => rw [hg] at hb; cases hb; exact .inr ⟨hn, id1, rfl, rfl⟩
      | out => rw [hg] at hb; cases hb
      | ro o => rw [hg] at hb; cases hb
  have roD : ∀ b o, γ' b = .ro o → γ1 b = .ro o := by
    intro b o hb
    by_cases hx : ∃ id p c, γ b = .ow id p c
    · obtain ⟨id', p', c', he⟩ := hx
      rw [(h1 he).1] at hb; cases hb
    · rw [h2 (fun id p c he => hx ⟨id, p, c, he⟩)] at hb
      cases hg : γ1 b with
      | ow id1 p1 c1 => rw [hg] at hb; cases hb
      | out => rw [hg] at hb; cases hb
      | ro o1 => rw [hg] at hb; exact hb
  have hro : ∀ b o, γ b = .ro o → γ' b = .ro o := by
    intro b o hb
    rw [h2 (fun id p c he => by rw [hb] at he; cases he), hS.ro b o (hro0 b o hb)]
  have low : ∀ {b id p c}, γ' b = .ow id p c → id < L.length → γ b = .ow id p c := by
    intro b id p c hb hlt
    rcases down hb with h | ⟨_, id1, he, _⟩
    · exact h
    · omega
  have hE : Ext γ L γ' (L ++ M.map (shO L.length)) :=
    ⟨hro, fun id o hL => ⟨o, by rw [List.getElem?_append_left (List.getElem?_eq_some_iff.1 hL).1]; exact hL, OStep.refl o⟩, fun b id p c hb => .inl (h1 hb).1,
     fun id T sz g es T' sz' es' hL _ p e1 _ b c hb => low hb (List.getElem?_eq_some_iff.1 hL).1⟩
  have B : Beh γ1 M γ' (L ++ M.map (shO L.length)) L.length full := by
    refine ⟨fun id => ?_, fun b id p c hb => up1 hb, fun b id p c hb => ?_, fun hf b o hb => ?_⟩
    · rw [List.getElem?_append_right (by omega), List.getElem?_map]; congr 2; omega
    · rcases down hb with hb0 | ⟨_, id1, he, hb1⟩
      · have := hI.idlt hb0; omega
      · have : id = id1 := by omega
        subst this; exact hb1
    · rw [h2 (fun id p c he => (h1 he).2.2.2 hf o hb), hb]
  refine ⟨γ', v, rfl, ⟨fun b o hb => hI1.ro b o (roD b o hb), fun b id p c hb => ?_, fun b b' id p c c' hb hb' => ?_, fun id T cs hL => ?_, fun id kt vt es hL => ?_⟩, B.rv hv (hok.imp (fun h => h) And.left), hE, ?_⟩
  · rcases down hb with hb0 | ⟨hn, id1, rfl, hb1⟩
    · obtain ⟨o, ho, hrep⟩ := hI.ow _ _ _ _ hb0
      exact ⟨o, by rw [(h1 hb0).2.2.1]; exact ho, hrep.grow hE (hI.idlt hb0) (fun b p c hb => (h1 hb).1) (fun b p c hb => low hb (hI.idlt hb0))⟩
    · obtain ⟨o, ho, hrep⟩ := hI1.ow _ _ _ _ hb1
      exact ⟨o, ho, B.block (hok.imp (fun h => h) And.right) hrep⟩
  · rcases down hb with hb0 | ⟨hn, id1, rfl, hb1⟩ <;> rcases down hb' with hb0' | ⟨hn', id1', he, hb1'⟩
    · exact hI.inj _ _ _ _ _ _ hb0 hb0'
    · have := hI.idlt hb0; omega
    · have := hI.idlt hb0'; omega
    · have : id1 = id1' := by omega
      subst this
      exact hI1.inj _ _ _ _ _ _ hb1 hb1'
  · by_cases hid : id < L.length
    · rw [List.getElem?_append_left hid] at hL
      obtain ⟨b, c, hb⟩ := hI.box _ _ _ hL
      exact ⟨b, c, (h1 hb).1⟩
    · rw [show id = (id - L.length) + L.length by omega, B.get, Option.map_eq_some_iff] at hL
      obtain ⟨x, hx, hs⟩ := hL
      cases x <;> simp [shO] at hs
      obtain ⟨b, c, hb⟩ := hI1.box _ _ _ hx
      exact ⟨b, c, by have := up1 hb; rwa [show id - L.length + L.length = id by omega] at this⟩
  · by_cases hid : id < L.length
    · rw [List.getElem?_append_left hid] at hL
      obtain ⟨b, c, hb⟩ := hI.map _ _ _ _ hL
      exact ⟨b, c, (h1 hb).1⟩
    · rw [show id = (id - L.length) + L.length by omega, B.get, Option.map_eq_some_iff] at hL
      obtain ⟨x, hx, hs⟩ := hL
      cases x <;> simp [shO] at hs
      obtain ⟨b, c, hb⟩ := hI1.map _ _ _ _ hx
      exact ⟨b, c, by have := up1 hb; rwa [show id - L.length + L.length = id by omega] at this⟩
  · refine ⟨hS.os, hS.tape, hS.output, hS.size, hE.ro, fun b hb ho => ?_⟩
    have := hS.out b hb (by by_cases hf : full = true <;> simp [γ0, hf, hide, frz, ho])
    exact ⟨by rw [h2 (fun id p c he => by rw [ho] at he; cases he), this.1], this.2⟩

/-- The caller lends what it owns. -/
theorem Ct.lendG {P : Program} {f : FuncId} {xs ys : List AV} {r : AV} {L M : List AObj} (h : Ct P f ys [] r M) (hy : VwL L xs ys) (hr : okS r = true) (hM : M.all okSO = true) : Ct P f xs L (shA L.length r) (L ++ M.map (shO L.length)) :=
  Ct.behind false (.inr ⟨hr, hM⟩) h fun γ w vs hI ha => by
    refine ⟨by rw [ha.1]; exact hy.get.1, fun i y hi => ?_⟩
    obtain ⟨x, hx, hxy⟩ := hy.get.2 i y hi
    exact hxy γ w _ hI (ha.2 i x hx)

/-- The arguments are values alone. -/
theorem Ct.frameG {P : Program} {f : FuncId} {xs : List AV} {r : AV} {M : List AObj} (L : List AObj) (h : Ct P f xs [] r M) (hp : ∀ x ∈ xs, Pur x) : Ct P f xs L (shA L.length r) (L ++ M.map (shO L.length)) :=
  Ct.behind true (.inl rfl) h fun γ w vs hI ha =>
    ⟨ha.1, fun i x hx => hp x (List.mem_of_getElem? hx) _ _ _ _ _ (fun b o hb => by simp [hide, hb]) (ha.2 i x hx)⟩

theorem RunL.lendG {P : Program} {k : Oper → Knd} {ops : Array Oper} {K : St → Prop} {o : Oper} {rest : List Oper} {s : St} {f : FuncId} {args : Array Operand} {ats : Array TypeId} {r : AV} {xs ys : List AV} {M : List AObj}
    (hg : guardA ops s o = some true) (ho : o.op = .call { callee := .value (.func f), args := args, argTypes := ats }) (hx : args.toList.map s.ev = xs) (hf : okFn P f = true) (hkd : Knd.le .C (k o) = true)
    (hl : VwL s.L xs ys) (h : Ct P f ys [] r M) (hr : okS r = true) (hM : M.all okSO = true) (hk : R P k ops rest ({ s with L := s.L ++ M.map (shO s.L.length) }.put o.dst (shA s.L.length r)) K) : RunL P k ops (o :: rest) s K :=
  .call hg ho hx hf hkd (.inr ⟨_, rfl⟩) (Ct.lendG h hl hr hM) hk

theorem RunL.callG {P : Program} {k : Oper → Knd} {ops : Array Oper} {K : St → Prop} {o : Oper} {rest : List Oper} {s : St} {f : FuncId} {args : Array Operand} {ats : Array TypeId} {r : AV} {xs : List AV} {M : List AObj}
    (hg : guardA ops s o = some true) (ho : o.op = .call { callee := .value (.func f), args := args, argTypes := ats }) (hx : args.toList.map s.ev = xs) (hf : okFn P f = true) (hkd : Knd.le .C (k o) = true)
    (h : Ct P f xs [] r M) (hp : pureL xs = true) (hk : R P k ops rest ({ s with L := s.L ++ M.map (shO s.L.length) }.put o.dst (shA s.L.length r)) K) : RunL P k ops (o :: rest) s K :=
  .call hg ho hx hf hkd (.inr ⟨_, rfl⟩) (Ct.frameG s.L h (Pur.ofL hp)) hk

/-- The same as 'callv', its arguments in another order. -/
theorem RunL.callp {P : Program} {k : Oper → Knd} {ops : Array Oper} {K : St → Prop} {o : Oper} {rest : List Oper} {s : St} {f : FuncId} {args : Array Operand} {ats : Array TypeId} {r : AV} {xs : List AV}
    (hg : guardA ops s o = some true) (ho : o.op = .call { callee := .value (.func f), args := args, argTypes := ats }) (hf : okFn P f = true)
    (h : Ct P f xs [] r []) (hp : pureL xs = true) (hx : args.toList.map s.ev = xs) (hk : R P k ops rest (s.put o.dst r) K) : RunL P k ops (o :: rest) s K :=
  .callv hg ho hx hf h hp hk
theorem RunL.callgp {P : Program} {k : Oper → Knd} {ops : Array Oper} {K : St → Prop} {o : Oper} {rest : List Oper} {s : St} {f : FuncId} {args : Array Operand} {ats : Array TypeId} {r : AV} {xs : List AV} {M : List AObj}
    (hg : guardA ops s o = some true) (ho : o.op = .call { callee := .value (.func f), args := args, argTypes := ats }) (hf : okFn P f = true) (hkd : Knd.le .C (k o) = true)
    (h : Ct P f xs [] r M) (hp : pureL xs = true) (hx : args.toList.map s.ev = xs) (hk : R P k ops rest ({ s with L := s.L ++ M.map (shO s.L.length) }.put o.dst (shA s.L.length r)) K) : RunL P k ops (o :: rest) s K :=
  .callG hg ho hx hf hkd h hp hk
/-- A call of a closure over values, its arguments in another order. -/
theorem RunL.callcp {P : Program} {k : Oper → Knd} {ops : Array Oper} {K : St → Prop} {o : Oper} {rest : List Oper} {s : St} {x : Operand} {f : FuncId} {cap : List AV} {args : Array Operand} {ats : Array TypeId} {r : AV} {xs : List AV}
    (hg : guardA ops s o = some true) (ho : o.op = .call { callee := .value x, args := args, argTypes := ats }) (hc : s.ev x = .fn f cap) (hf : okFn P f = true) (hkd : Knd.le .C (k o) = true)
    (h : Ct P f xs [] r []) (hp : pureL xs = true) (hx : args.toList.map s.ev ++ cap = xs) (hk : R P k ops rest (s.put o.dst r) K) : RunL P k ops (o :: rest) s K :=
  .callcv hg ho hc hx hf hkd h hp hk
/-- A call that is lent what the caller owns; how that is seen is given. -/
theorem RunL.lendV {P : Program} {k : Oper → Knd} {ops : Array Oper} {K : St → Prop} {o : Oper} {rest : List Oper} {s : St} {f : FuncId} {args : Array Operand} {ats : Array TypeId} {r : AV} {xs ys : List AV}
    (hg : guardA ops s o = some true) (ho : o.op = .call { callee := .value (.func f), args := args, argTypes := ats }) (hf : okFn P f = true) (hkd : Knd.le .C (k o) = true)
    (h : Ct P f ys [] r []) (hl : VwL s.L xs ys) (hr : flatB r = true) (hx : args.toList.map s.ev = xs) (hk : R P k ops rest (s.put o.dst r) K) : RunL P k ops (o :: rest) s K :=
  .call hg ho hx hf hkd (.inr ⟨[], by simp⟩) (Ct.lend h hl hr) hk
theorem RunL.lendGV {P : Program} {k : Oper → Knd} {ops : Array Oper} {K : St → Prop} {o : Oper} {rest : List Oper} {s : St} {f : FuncId} {args : Array Operand} {ats : Array TypeId} {r : AV} {xs ys : List AV} {M : List AObj}
    (hg : guardA ops s o = some true) (ho : o.op = .call { callee := .value (.func f), args := args, argTypes := ats }) (hf : okFn P f = true) (hkd : Knd.le .C (k o) = true)
    (h : Ct P f ys [] r M) (hl : VwL s.L xs ys) (hr : okS r = true) (hM : M.all okSO = true) (hx : args.toList.map s.ev = xs) (hk : R P k ops rest ({ s with L := s.L ++ M.map (shO s.L.length) }.put o.dst (shA s.L.length r)) K) : RunL P k ops (o :: rest) s K :=
  .lendG hg ho hx hf hkd hl h hr hM hk
theorem RunL.callM {P : Program} {k : Oper → Knd} {ops : Array Oper} {K : St → Prop} {o : Oper} {rest : List Oper} {s : St} {f : FuncId} {args : Array Operand} {ats : Array TypeId} {r : AV} {L' : List AObj} {xs : List AV}
    (hg : guardA ops s o = some true) (ho : o.op = .call { callee := .value (.func f), args := args, argTypes := ats }) (hf : okFn P f = true) (hkd : Knd.le .C (k o) = true) (hal : isAlloc k o = false)
    (h : Ct P f xs s.L r L') (hx : args.toList.map s.ev = xs) (hk : R P k ops rest ({ s with L := L' }.put o.dst r) K) : RunL P k ops (o :: rest) s K :=
  .call hg ho hx hf hkd (.inl hal) h hk
/-- What a call gives, never written again. -/
theorem Ct.toV {P : Program} {f : FuncId} {args : List AV} {r y : AV} {M : List AObj} (h : Ct P f args [] r M) (hv : Vw M r y) : Ct P f args [] y [] := by
  intro γ w vs hI ha
  refine (h γ w vs hI ha).mono ?_
  rintro e w' ⟨γ', v, rfl, hI', hr, hE, hS⟩
  obtain ⟨γ2, k1, k2, k3, k4⟩ := Fin.value hv γ w γ' w' v hI hI' hr hE hS
  exact ⟨γ2, v, rfl, k1, k2, k3, k4⟩

/-! ### contracts whose end is found on the way -/
theorem ex1 {α : Type} {C Z : α → Prop} (M : α) (h1 : C M) (h2 : Z M) : ∃ M, C M ∧ Z M := ⟨M, h1, h2⟩

theorem Ct.ex {P : Program} (hm : P.follows .mixedOrders = true) (E : List FuncId) {f : FuncId} {fn : Func} {c : Code} {args : List AV} {L : List AObj} {Z : AV → List AObj → Prop} (hf : P.funcs[f]? = some fn) (hb : fn.body = some c)
    (h : ∃ r L', W P E c (FnEnd P fn L r L') (St.init fn args L) ∧ Z r L') : ∃ r L', Ct P f args L r L' ∧ Z r L' := by
  obtain ⟨r, L', h1, h2⟩ := h
  exact ⟨r, L', Ct.by_ hm E hf hb h1, h2⟩

/-- A loop that is left at a state that is found on the way. -/
theorem AWp.loop_ex {P : Program} {c : Code} {ι : Type} (st : ι → St) (I : ι → Prop) (m : ι → Nat) {Q : ι → (Exit → St → Prop) → Prop}
    (step : ∀ i, I i → (∃ q, Q i q ∧ AWp P c (ExThen (fun _ => False) q) (st i)) ∨ (∃ j, I j ∧ m j < m i ∧ (∀ q, Q j q → Q i q) ∧ AWp P c (fun e s' => e = .normal ∧ JL s'.t (st j).t ∧ s'.L = (st j).L) (st i))) :
    ∀ i, I i → ∃ q, Q i q ∧ AWp P (.loop c) q (st i) := by
  have key : ∀ n i, m i < n → I i → ∃ q, Q i q ∧ ∀ s, JL s.t (st i).t → s.L = (st i).L → ARounds P c q n s := by
    intro n
    induction n with
    | zero => intro i h; omega
    | succ n ih =>
      intro i hm hI
      rcases step i hI with ⟨q, hq, hw⟩ | ⟨j, hj, hlt, hQ, hw⟩
      · refine ⟨q, hq, fun s hs hL => ?_⟩
        have e : (⟨(st i).t, s.L⟩ : St) = st i := by rw [hL]
        refine AWp.junk hs ?_
        rw [e]
        exact hw.mono fun ex s' h => by
          cases ex with
          | normal => exact h.elim
          | _ => exact h
      · obtain ⟨q, hq, hr⟩ := ih j (by omega) hj
        refine ⟨q, hQ q hq, fun s hs hL => ?_⟩
        have e : (⟨(st i).t, s.L⟩ : St) = st i := by rw [hL]
        refine AWp.junk hs ?_
        rw [e]
        refine hw.mono fun ex s' ⟨he, h1, h2⟩ => ?_
        subst he
        exact hr s' h1 h2
  intro i hI
  obtain ⟨q, hq, h⟩ := key (m i + 1) i (by omega) hI
  exact ⟨q, hq, .loop _ (h _ (JL.refl _) rfl)⟩

theorem AWp.loop_exK {P : Program} {c : Code} {ι : Type} (st : ι → St) (I : ι → Prop) (m : ι → Nat) {Kq : AV → List AObj → Exit → St → Prop} {Z : AV → List AObj → Prop} {s : St} (i0 : ι) (hI : I i0) (hs : JL s.t (st i0).t ∧ s.L = (st i0).L)
    (step : ∀ i, I i → (∃ r L', AWp P c (ExThen (fun _ => False) (Kq r L')) (st i) ∧ Z r L') ∨ (∃ j, I j ∧ m j < m i ∧ AWp P c (fun e s' => e = .normal ∧ JL s'.t (st j).t ∧ s'.L = (st j).L) (st i))) :
    ∃ r L', AWp P (.loop c) (Kq r L') s ∧ Z r L' := by
  obtain ⟨q, ⟨r, L', rfl, hz⟩, hw⟩ := AWp.loop_ex (P := P) (c := c) st I m (Q := fun _ q => ∃ r L', q = Kq r L' ∧ Z r L') (fun i hi => by
    rcases step i hi with ⟨r, L', h1, h2⟩ | ⟨j, h1, h2, h3⟩
    · exact .inl ⟨_, ⟨r, L', rfl, h2⟩, h1⟩
    · exact .inr ⟨j, h1, h2, fun q hq => hq, h3⟩) i0 hI
  refine ⟨r, L', AWp.junk hs.1 ?_, hz⟩
  have e : (⟨(st i0).t, s.L⟩ : St) = st i0 := by rw [hs.2]
  rw [e]; exact hw

theorem AWp.nilB_ex {P : Program} {c : Code} {Kq : AV → List AObj → Exit → St → Prop} {Z : AV → List AObj → Prop} {s : St} (id j : Nat) (T : TypeId) (sz : Nat) {T0 : TypeId} {cs : List AV} (hL : s.L[id]? = some (.box T0 cs)) (hj : cs[j]? = some (.lit (.slice none 0 0)))
    (h : ∃ r L', AWp P c (Kq r L') ⟨s.t, s.L.set id (.box T0 (cs.set j (.ref s.L.length [] 0 0))) ++ [.vec T sz 0 []]⟩ ∧ Z r L') : ∃ r L', AWp P c (Kq r L') s ∧ Z r L' := by
  obtain ⟨r, L', h1, h2⟩ := h
  exact ⟨r, L', AWp.nilB id j T sz hL hj h1, h2⟩
theorem AWp.nil_ex {P : Program} {c : Code} {Kq : AV → List AObj → Exit → St → Prop} {Z : AV → List AObj → Prop} {s : St} (j : Nat) (T : TypeId) (sz : Nat) (hj : s.t[j]? = some (.lit (.slice none 0 0)))
    (h : ∃ r L', AWp P c (Kq r L') ⟨s.t.set j (.ref s.L.length [] 0 0), s.L ++ [.vec T sz 0 []]⟩ ∧ Z r L') : ∃ r L', AWp P c (Kq r L') s ∧ Z r L' := by
  obtain ⟨r, L', h1, h2⟩ := h
  exact ⟨r, L', AWp.nil j T sz hj h1, h2⟩

end Go.Proofs.Ytobdpkkmkbafbaa.K
/-
  A logic of values for Go's functions (part 20): the end of a call that gives rows of its own and forgets all else that it owned.
-/
namespace Go.Proofs.Ytobdpkkmkbafbaa.K
set_option linter.unusedVariables false
set_option linter.unusedSimpArgs false
open Go

mutual
/-- Values that lead to rows of the call's own at most. -/
def okT : AV → Bool
  | .sl _ [] => true
  | .sl _ (_ :: _) => false
  | .rptr _ _ => false
  | .ptr _ _ => false
  | .eptr _ _ _ _ _ => false
  | .map _ => false
  | .yld _ _ _ => false
  | .agg cs => okTL cs
  | .tup vs => okTL vs
  | .fn _ cap => okTL cap
  | _ => true
def okTL : List AV → Bool
  | [] => true
  | x :: xs => okT x && okTL xs
end
theorem okTL_mem {xs : List AV} : okTL xs = true ↔ ∀ x ∈ xs, okT x = true := by
  induction xs with
  | nil => simp [okTL]
  | cons x xs ih => simp [okTL, ih]
mutual
theorem okT_okS : ∀ {x : AV}, okT x = true → okS x = true
  | .sl _ [], _ => rfl
  | .sl _ (_ :: _), h => by simp [okT] at h
  | .rptr _ _, h => by simp [okT] at h
  | .ptr _ _, _ => rfl
  | .eptr _ _ _ _ _, _ => rfl
  | .map _, _ => rfl
  | .yld _ _ _, h => by simp [okT] at h
  | .agg cs, h => by simp only [okT] at h; simp only [okS]; exact okTL_okSL h
  | .tup cs, h => by simp only [okT] at h; simp only [okS]; exact okTL_okSL h
  | .fn _ cs, h => by simp only [okT] at h; simp only [okS]; exact okTL_okSL h
  | .int _ _, _ => rfl
  | .bool _, _ => rfl
  | .str _, _ => rfl
  | .ref _ _ _ _, _ => rfl
  | .lit _, _ => rfl
  | .junk, _ => rfl
theorem okTL_okSL : ∀ {xs : List AV}, okTL xs = true → okSL xs = true
  | [], _ => rfl
  | x :: xs, h => by
    simp only [okTL, Bool.and_eq_true] at h
    simp only [okSL, Bool.and_eq_true]
    exact ⟨okT_okS h.1, okTL_okSL h.2⟩
end
theorem okT_cells {x c : AV} (h : okT x = true) (hc : c ∈ x.cells) : okT c = true := by
  cases x <;> first
    | (simp only [AV.cells, List.mem_singleton] at hc; subst hc; exact h)
    | (simp only [AV.cells] at hc; simp only [okT] at h; exact okTL_mem.1 h c hc)

/-- Rows whose cells lead to rows at most. -/
def okTO : AObj → Bool
  | .vec _ _ _ es => okTL es && noOwn es
  | _ => false

/-- Only the rows 'S' are kept. -/
def keepS (S : List Nat) (L : List AObj) : List AObj := L.mapIdx fun i o => if S.contains i && okTO o then o else .dead

theorem keepS_get (S : List Nat) (L : List AObj) (i : Nat) : (keepS S L)[i]? = (L[i]?).map fun o => if S.contains i && okTO o then o else .dead := by
  simp [keepS, List.getElem?_mapIdx]

theorem keepS_in {S : List Nat} {L : List AObj} {i : Nat} {o : AObj} (hi : i ∈ S) (ho : okTO o = true) (hL : L[i]? = some o) : (keepS S L)[i]? = some o := by
  have : S.contains i = true := by simpa using hi
  rw [keepS_get, hL, Option.map_some, if_pos (by rw [this, ho]; rfl)]

theorem keepS_of {S : List Nat} {L : List AObj} {i : Nat} {o : AObj} (h : (keepS S L)[i]? = some o) : o = .dead ∧ (∃ o', L[i]? = some o') ∨ (L[i]? = some o ∧ okTO o = true ∧ S.contains i = true) := by
  rw [keepS_get, Option.map_eq_some_iff] at h
  obtain ⟨o', h1, h2⟩ := h
  split at h2
  · rename_i hc
    simp only [Bool.and_eq_true] at hc
    subst h2
    exact .inr ⟨h1, hc.2, hc.1⟩
  · exact .inl ⟨h2.symm, o', h1⟩

theorem keepS_okSO (S : List Nat) (L : List AObj) : (keepS S L).all okSO = true := by
  refine List.all_eq_true.2 fun o ho => ?_
  obtain ⟨i, hi, rfl⟩ := List.getElem_of_mem ho
  rcases keepS_of (List.getElem?_eq_getElem hi) with ⟨h, _⟩ | ⟨_, h, _⟩
  · rw [h]; rfl
  · generalize (keepS S L)[i] = o at h
    cases o <;> simp [okTO] at h
    simp only [okSO]; exact okTL_okSL h.1

def keepG (S : List Nat) (L : List AObj) (γ : Nat → Gh) : Nat → Gh := fun b =>
  match γ b with
  | .ow id p c => match L[id]? with | some o => if S.contains id && okTO o then .ow id p c else .out | none => .out
  | x => x

theorem keepG_ow {S : List Nat} {L : List AObj} {γ : Nat → Gh} {b id c : Nat} {p : Pth} (h : keepG S L γ b = .ow id p c) : γ b = .ow id p c ∧ ∃ o, L[id]? = some o ∧ okTO o = true ∧ (keepS S L)[id]? = some o := by
  unfold keepG at h
  split at h
  · rename_i id' p' c' hb
    split at h
    · rename_i o hL
      split at h
      · rename_i hc
        cases h
        simp only [Bool.and_eq_true] at hc
        exact ⟨hb, o, hL, hc.2, keepS_in (by simpa using hc.1) hc.2 hL⟩
      · cases h
    · cases h
  · rename_i hne
    exact absurd h (hne _ _ _)

theorem keepG_up {S : List Nat} {L : List AObj} {γ : Nat → Gh} {b id c : Nat} {p : Pth} {o : AObj} (hb : γ b = .ow id p c) (h : (keepS S L)[id]? = some o) (hd : o ≠ .dead) : keepG S L γ b = .ow id p c := by
  rcases keepS_of h with ⟨h1, _⟩ | ⟨h1, h2, h3⟩
  · exact absurd h1 hd
  · simp only [keepG, hb, h1]; rw [if_pos (by rw [h3, h2]; rfl)]

theorem keep_rv {S : List Nat} {L : List AObj} {γ : Nat → Gh} {x : AV} {v : Value} (h : RV γ L x v) : okT x = true → RV (keepG S L γ) (keepS S L) x v := by
  induction h with
  | int k n => intro _; exact .int k n
  | bool b => intro _; exact .bool b
  | str s => intro _; exact .str s
  | lit v h => intro _; exact .lit v h
  | sl own es A n c sz vals hn hc hsz h2 h1 h3 ih =>
    intro hok
    cases es with
    | nil => exact .sl own [] A n c sz vals hn hc hsz (by simp) (by simp) (by simp)
    | cons e es => simp [okT] at hok
  | agg cs vs hn h1 h ih => intro hok; exact .agg cs vs hn h1 fun i x hx => ih i x hx (okTL_mem.1 (by simpa [okT] using hok) x (List.mem_of_getElem? hx))
  | tup cs vs hn h ih => intro hok; exact .tup cs vs hn fun i x hx => ih i x hx (okTL_mem.1 (by simpa [okT] using hok) x (List.mem_of_getElem? hx))
  | ref id p g n v h h1 =>
    intro _
    refine .ref _ _ _ _ _ ?_ h1
    unfold RefOk at *
    split at h
    · rename_i T sz g' es hL
      by_cases hk : (S.contains id && okTO (.vec T sz g' es)) = true
      · have hkeep : (keepS S L)[id]? = some (.vec T sz g' es) := by rw [keepS_get, hL, Option.map_some, if_pos hk]
        rw [hkeep]
        refine ⟨h.1, fun hg => ?_⟩
        obtain ⟨es', k1, k2, k3⟩ := h.2 hg
        refine ⟨es', k1, k2, ?_⟩
        rcases k3 with ⟨k3, k4, k5⟩ | ⟨b, c, k3, k4⟩
        · exact .inl ⟨k3, k4, fun b c hb => k5 b c (keepG_ow hb).1⟩
        · exact .inr ⟨b, c, k3, keepG_up k4 hkeep (by simp)⟩
      · have hkeep : (keepS S L)[id]? = some .dead := by rw [keepS_get, hL, Option.map_some, if_neg hk]
        rw [hkeep]; trivial
    · rename_i o hne hL
      cases hk : (keepS S L)[id]? with
      | none => rw [keepS_get, hL] at hk; cases hk
      | some o' =>
        rcases keepS_of hk with ⟨h1, _⟩ | ⟨h1, _⟩
        · subst h1; trivial
        · rw [hL] at h1; cases h1
          cases o <;> first | trivial | exact absurd rfl (hne _ _ _ _)
    · exact h.elim
  | ptr id off b c T cs hL h => intro hok; simp [okT] at hok
  | eptr id p g i off v h h1 => intro hok; simp [okT] at hok
  | rptr x off b o vals h2 h1 h3 ih => intro hok; simp [okT] at hok
  | fn f cs vs hn h ih => intro hok; exact .fn f cs vs hn fun i x hx => ih i x hx (okTL_mem.1 (by simpa [okT] using hok) x (List.mem_of_getElem? hx))
  | map id b c kt vt es hL h => intro hok; simp [okT] at hok
  | yld l r ts h hts ih => intro hok; simp [okT] at hok
  | junk v => intro _; exact .junk v

/-- The end of a call that gives rows of its own. -/
theorem Fin.keep {L1 : List AObj} {r1 r : AV} (S : List Nat) (hr : okT r1 = true) (h : r1 = r) : K.Fin [] L1 r1 (keepS S L1) r := by
  subst h
  intro γ0 w0 γ w v hI0 hI hv hE hS
  refine ⟨keepG S L1 γ, ⟨fun b o hb => ?_, fun b id p c hb => ?_, fun b b' id p c c' hb hb' => hI.inj _ _ _ _ _ _ (keepG_ow hb).1 (keepG_ow hb').1, fun id T cs hL => ?_, fun id kt vt es hL => ?_⟩, keep_rv hv hr,
    ⟨fun b o hb => ?_, fun id o hL => by simp at hL, fun b id p c hb => ?_, fun id T sz g es T' sz' es' hL => by simp at hL⟩,
    hS.os, hS.tape, hS.output, hS.size, fun b o hb => ?_, fun b hb ho => ?_⟩
  · unfold keepG at hb
    split at hb
    · split at hb
      · split at hb <;> cases hb
      · cases hb
    · exact hI.ro b o hb
  · obtain ⟨hb0, o, hL, hok, hk⟩ := keepG_ow hb
    obtain ⟨o', ho', hrep⟩ := hI.ow _ _ _ _ hb0
    refine ⟨o', ho', ?_⟩
    unfold BlockRep at hrep ⊢
    rw [hL] at hrep
    rw [hk]
    cases o <;> simp [okTO] at hok
    rename_i T sz g es
    obtain ⟨es', s, arr, T', k1, k2, k3, k4, k5, k6, k7⟩ := hrep
    obtain ⟨rfl, rfl⟩ := noOwn_sub hok.2 k1
    refine ⟨es', s, arr, T', k1, k2, k3, k4, k5, k6, k7.1, fun i e j x he hx => ?_⟩
    obtain ⟨u, m1, m2, m3⟩ := k7.2 i e j x he hx
    exact ⟨u, m1, m2, (noOwn_CV hok.2 he hx).2 (keep_rv ((noOwn_CV hok.2 he hx).1 m3) (okT_cells (okTL_mem.1 hok.1 e (List.mem_of_getElem? he)) (List.mem_of_getElem? hx)))⟩
  · rcases keepS_of hL with ⟨h, _⟩ | ⟨_, h, _⟩
    · cases h
    · simp [okTO] at h
  · rcases keepS_of hL with ⟨h, _⟩ | ⟨_, h, _⟩
    · cases h
    · simp [okTO] at h
  · have := hE.ro b o hb
    simp [keepG, this]
  · have := hI0.idlt hb; simp at this
  · have := hS.ro b o hb
    simp [keepG, this]
  · have := hS.out b hb ho
    exact ⟨by simp [keepG, this.1], this.2⟩

def nilV : AV := .lit (.slice none 0 0)

end Go.Proofs.Ytobdpkkmkbafbaa.K
/-
  A logic of values for Go's functions (part 21): a call that is given a row of the caller's, which nobody writes any more.
-/
namespace Go.Proofs.Ytobdpkkmkbafbaa.K
set_option linter.unusedVariables false
set_option linter.unusedSimpArgs false
open Go

/-- The row 'j' is never written again; all else that is owned is out of sight. -/
def frzS (j : Nat) (γ : Nat → Gh) (w : World) : Nat → Gh := fun b =>
  match γ b with
  | .ow id _ _ => if id = j then (match w.heap[b]? with | some o => .ro o | none => .out) else .out
  | x => x

theorem frzS_ro {j : Nat} {γ : Nat → Gh} {w : World} : ∀ b o, γ b = .ro o → frzS j γ w b = .ro o := by
  intro b o h; simp [frzS, h]

/-- 'x', told with what the call owns, is 'y' once the row 'j' is not written any more. -/
def VwF (j : Nat) (L : List AObj) (x y : AV) : Prop := ∀ γ w v, Inv γ L w → RV γ L x v → RV (frzS j γ w) [] y v

theorem VwF.pur {j : Nat} {L : List AObj} {x : AV} (h : pureB x = true) : VwF j L x x := fun γ w v _ hv => Pur.of h γ L _ _ v frzS_ro hv

inductive VwFL (j : Nat) (L : List AObj) : List AV → List AV → Prop where
  | nil : VwFL j L [] []
  | cons {x y : AV} {xs ys : List AV} (h : VwF j L x y) (k : VwFL j L xs ys) : VwFL j L (x :: xs) (y :: ys)

theorem VwFL.get {j : Nat} {L : List AObj} {xs ys : List AV} (h : VwFL j L xs ys) : xs.length = ys.length ∧ ∀ (i : Nat) y, ys[i]? = some y → ∃ x, xs[i]? = some x ∧ VwF j L x y := by
  induction h with
  | nil => exact ⟨rfl, fun i y h => by simp at h⟩
  | cons h k ih =>
    refine ⟨by simp [ih.1], fun i y hi => ?_⟩
    cases i with
    | zero => simp at hi; subst hi; exact ⟨_, rfl, h⟩
    | succ i => simpa using ih.2 i y (by simpa using hi)

theorem VwF.agg {j : Nat} {L : List AObj} {xs ys : List AV} (h : VwFL j L xs ys) : VwF j L (.agg xs) (.agg ys) := by
  intro γ w v hI hv
  cases hv with
  | agg _ vs hn h1 h2 =>
    refine .agg _ _ (by rw [hn, h.get.1]) h1 fun i y hy => ?_
    obtain ⟨x, hx, hxy⟩ := h.get.2 i y hy
    exact hxy γ w _ hI (h2 i x hx)

theorem VwF.ref {id : Nat} {L : List AObj} {g n : Nat} {T : TypeId} {sz : Nat} {es : List AV} {o : Bool} (hL : L[id]? = some (.vec T sz g es)) (hn : n ≤ es.length)
    (hp : ∀ e ∈ es, ∀ c ∈ e.cells, Pur c ∧ ∀ xs, c ≠ .sl true xs) : VwF id L (.ref id [] g n) (.sl o (es.take n)) := by
  intro γ w v hI hv
  have hv1 := Vw.refPur (o := o) hL hn hp γ w v hI hv
  cases hv with
  | ref _ _ _ _ _ hok ho =>
    obtain ⟨_, _, _, es2, hL2, hs2, hn2, hv⟩ := hok.form (by simp [eptrNow, hL])
    rw [hL] at hL2; cases hL2
    simp only [sub, Option.some.injEq] at hs2
    subst hs2
    rcases hv with ⟨rfl, rfl, rfl, _⟩ | ⟨b, c, rfl, hb⟩
    · simp only [List.take_nil]
      exact .sl _ _ _ 0 0 0 (fun _ _ => undef) rfl (Nat.le_refl _) (by simp) (by simp) (by simp) (by simp)
    · obtain ⟨ob, hob, _⟩ := hI.ow _ _ _ _ hb
      generalize hA : (some (⟨b, 0, none⟩ : Addr)) = A at hv1
      cases hv1 with
      | sl _ _ _ _ _ s vals hn' hc' hsz h2 h1 h3 =>
        refine .sl _ _ _ _ _ s vals hn' hc' hsz ?_ h1 ?_
        · intro i e k x hi hk
          have := h2 i e k x hi hk
          rw [← hA] at this ⊢
          simp only [roCell, frz, frzS, hb, hob, if_true] at this ⊢
          exact this
        · intro i e k x hi hk
          have h0 := h3 i e k x hi hk
          have hi' : es[i]? = some e := by
            rw [List.getElem?_take] at hi
            split at hi
            · exact hi
            · cases hi
          obtain ⟨arr, s', T', harr, _, _, _, _, hrow⟩ := hI.rowCell hL rfl hb
          obtain ⟨u, u1, u2, u3⟩ := hrow.2 i e k x hi' hk
          obtain ⟨q1, q2⟩ := hp e (List.mem_of_getElem? hi') x (List.mem_of_getElem? hk)
          have hu : RV γ L x u := by
            unfold CV at u3
            split at u3
            · rename_i xs; exact absurd rfl (q2 xs)
            · exact u3
          have h4 := h2 i e k x hi hk
          rw [← hA] at h4
          simp only [roCell, frz, hb, harr, Nat.zero_add] at h4
          have hss : s' = s := by
            rw [← hrow.1 e (List.mem_of_getElem? hi'), ← hsz e (List.mem_of_getElem? hi)]
          subst hss
          rw [u1] at h4; cases h4
          exact q1 γ L _ _ _ frzS_ro hu

/-- A call whose result may share the row 'j'; the caller gives that row away. -/
theorem Ct.give {P : Program} {f : FuncId} {xs ys : List AV} {r : AV} {L : List AObj} {j : Nat} {T : TypeId} {sz g : Nat} {es : List AV} (hj : L[j]? = some (.vec T sz g es)) (h : Ct P f ys [] r []) (hy : VwFL j L xs ys) :
    Ct P f xs L r (L.set j .dead) := by
  intro γ w vs hI ha
  have hjl := (List.getElem?_eq_some_iff.1 hj).1
  have hno : ∀ b id p c, frzS j γ w b ≠ .ow id p c := by
    intro b id p c hb
    unfold frzS at hb
    split at hb
    · split at hb
      · split at hb <;> cases hb
      · cases hb
    · rename_i hne; exact hne _ _ _ hb
  have hI0 : Inv (frzS j γ w) [] w := by
    refine ⟨fun b o hb => ?_, fun b id p c hb => absurd hb (hno _ _ _ _), fun b b' id p c c' hb => absurd hb (hno _ _ _ _), fun id T cs hL => by simp at hL, fun id kt vt es hL => by simp at hL⟩
    unfold frzS at hb
    split at hb
    · split at hb
      · split at hb
        · rename_i o' ho'; cases hb; exact ho'
        · cases hb
      · cases hb
    · exact hI.ro b o hb
  have ha0 : ArgsR (frzS j γ w) [] ys vs := by
    refine ⟨by rw [ha.1]; exact hy.get.1, fun i y hi => ?_⟩
    obtain ⟨x, hx, hxy⟩ := hy.get.2 i y hi
    exact hxy γ w _ hI (ha.2 i x hx)
  refine (h (frzS j γ w) w vs hI0 ha0).mono ?_
  rintro e w' ⟨γ1, v, rfl, hI1, hv, _, hS⟩
  let γ' : Nat → Gh := fun b => match γ b with | .ow id p c => if id = j then γ1 b else .ow id p c | _ => γ1 b
  have hno1 : ∀ b id p c, γ1 b ≠ .ow id p c := by
    intro b id p c hb
    have := hI1.idlt hb
    simp at this
  have hA : ∀ {b id p c}, γ b = .ow id p c → id ≠ j → γ' b = .ow id p c ∧ γ1 b = .out ∧ w'.heap[b]? = w.heap[b]? := by
    intro b id p c hb hne
    obtain ⟨o, ho, _⟩ := hI.ow _ _ _ _ hb
    obtain ⟨h1, h2⟩ := hS.out b (List.getElem?_eq_some_iff.1 (by simpa using ho)).1 (by simp [frzS, hb, hne])
    exact ⟨by simp [γ', hb, hne], h1, h2⟩
  have hB : ∀ {b p c}, γ b = .ow j p c → γ' b = γ1 b ∧ ∃ o, γ1 b = .ro o := by
    intro b p c hb
    obtain ⟨o, ho, _⟩ := hI.ow _ _ _ _ hb
    exact ⟨by simp [γ', hb], o, hS.ro b o (by simp [frzS, hb, ho])⟩
  have hC : ∀ {b}, (∀ id p c, γ b ≠ .ow id p c) → γ' b = γ1 b := by
    intro b hb
    cases hg : γ b with
    | ow id p c => exact absurd hg (hb id p c)
    | out => simp [γ', hg]
    | ro o => simp [γ', hg]
  have h3 : ∀ {b id p c}, γ' b = .ow id p c → γ b = .ow id p c ∧ id ≠ j := by
    intro b id p c hb
    by_cases hx : ∃ id p c, γ b = .ow id p c
    · obtain ⟨id', p', c', he⟩ := hx
      by_cases hij : id' = j
      · subst hij; rw [(hB he).1] at hb; exact absurd hb (hno1 _ _ _ _)
      · rw [(hA he hij).1] at hb; cases hb; exact ⟨he, hij⟩
    · rw [hC (fun id p c he => hx ⟨id, p, c, he⟩)] at hb
      exact absurd hb (hno1 _ _ _ _)
  have h4 : ∀ b o, γ' b = .ro o → γ1 b = .ro o := by
    intro b o hb
    by_cases hx : ∃ id p c, γ b = .ow id p c
    · obtain ⟨id', p', c', he⟩ := hx
      by_cases hij : id' = j
      · subst hij; rw [(hB he).1] at hb; exact hb
      · rw [(hA he hij).1] at hb; cases hb
    · rw [hC (fun id p c he => hx ⟨id, p, c, he⟩)] at hb; exact hb
  have h5 : ∀ b o, γ1 b = .ro o → γ' b = .ro o := by
    intro b o hb
    by_cases hx : ∃ id p c, γ b = .ow id p c
    · obtain ⟨id', p', c', he⟩ := hx
      by_cases hij : id' = j
      · subst hij; rw [(hB he).1]; exact hb
      · rw [(hA he hij).2.1] at hb; cases hb
    · rw [hC (fun id p c he => hx ⟨id, p, c, he⟩)]; exact hb
  have hro : ∀ b o, γ b = .ro o → γ' b = .ro o := by
    intro b o hb
    rw [hC (fun id p c he => by rw [hb] at he; cases he)]
    exact hS.ro b o (frzS_ro b o hb)
  have hset : ∀ {id : Nat}, id ≠ j → (L.set j AObj.dead)[id]? = L[id]? := fun {id} hne => List.getElem?_set_ne (fun e => hne e.symm)
  have hself : (L.set j AObj.dead)[j]? = some .dead := List.getElem?_set_self hjl
  have hE : Ext γ L γ' (L.set j .dead) := by
    refine ⟨hro, fun id o hL => ?_, fun b id p c hb => ?_, fun id T1 sz1 g1 es1 T' sz' es' hL hL' p e1 _ b c hb => (h3 hb).1⟩
    · by_cases hij : id = j
      · subst hij; rw [hj] at hL; cases hL; exact ⟨_, hself, trivial⟩
      · exact ⟨o, by rw [hset hij]; exact hL, OStep.refl o⟩
    · by_cases hij : id = j
      · subst hij
        refine .inr fun o hL => ?_
        rw [hj] at hL; cases hL
        exact ⟨_, _, _, _, rfl, fun T' sz' es' hL' => by rw [hself] at hL'; cases hL'⟩
      · exact .inl (hA hb hij).1
  refine ⟨γ', v, rfl, ⟨fun b o hb => hI1.ro b o (h4 b o hb), fun b id p c hb => ?_, fun b b' id p c c' hb hb' => hI.inj _ _ _ _ _ _ (h3 hb).1 (h3 hb').1, fun id T cs hL => ?_, fun id kt vt es hL => ?_⟩, RV.lift h5 hv, hE, ?_⟩
  · obtain ⟨hb0, hne⟩ := h3 hb
    obtain ⟨o, ho, hrep⟩ := hI.ow _ _ _ _ hb0
    refine ⟨o, by rw [(hA hb0 hne).2.2]; exact ho, ?_⟩
    exact BlockRep.keep hE (hset hne) (fun b p c hb => (hA hb hne).1) (fun b p c hb => (h3 hb).1) hrep
  · by_cases hij : id = j
    · subst hij; rw [hself] at hL; cases hL
    · rw [hset hij] at hL
      obtain ⟨b, c, hb⟩ := hI.box _ _ _ hL
      exact ⟨b, c, (hA hb hij).1⟩
  · by_cases hij : id = j
    · subst hij; rw [hself] at hL; cases hL
    · rw [hset hij] at hL
      obtain ⟨b, c, hb⟩ := hI.map _ _ _ _ hL
      exact ⟨b, c, (hA hb hij).1⟩
  · refine ⟨hS.os, hS.tape, hS.output, hS.size, hE.ro, fun b hb ho => ?_⟩
    have := hS.out b hb (by simp [frzS, ho])
    exact ⟨by rw [hC (fun id p c he => by rw [ho] at he; cases he)]; exact this.1, this.2⟩

theorem RunL.give {P : Program} {k : Oper → Knd} {ops : Array Oper} {K : St → Prop} {o : Oper} {rest : List Oper} {s : St} {f : FuncId} {args : Array Operand} {ats : Array TypeId} {r : AV} {xs ys : List AV} {j : Nat}
    (hg : guardA ops s o = some true) (ho : o.op = .call { callee := .value (.func f), args := args, argTypes := ats }) (hf : okFn P f = true) (hkd : Knd.le .C (k o) = true) (hal : isAlloc k o = false)
    (h : Ct P f ys [] r []) (hj : ∃ T sz g es, s.L[j]? = some (.vec T sz g es)) (hy : VwFL j s.L xs ys) (hx : args.toList.map s.ev = xs) (hk : R P k ops rest ({ s with L := s.L.set j .dead }.put o.dst r) K) : RunL P k ops (o :: rest) s K :=
  by obtain ⟨T, sz, g, es, hj⟩ := hj; exact RunL.call hg ho hx hf hkd (.inl hal) (Ct.give hj h hy) hk

end Go.Proofs.Ytobdpkkmkbafbaa.K
/-
  A logic of values for Go's functions (part 22): maps of the call's own, with plain keys and plain elements.
-/
namespace Go.Proofs.Ytobdpkkmkbafbaa.K
set_option linter.unusedVariables false
set_option linter.unusedSimpArgs false
open Go Go.RowKit
open Go.Maps (Keyed)
open Go.ChangeMaps (setBlock heap_setBlock_same heap_setBlock_other)

/-- Values that are told by themselves. -/
def plain1 : AV → Bool
  | .int _ _ => true
  | .bool _ => true
  | .str _ => true
  | _ => false
def val1 : AV → Value
  | .int k n => .int k n
  | .bool b => .bool b
  | .str s => .string s
  | _ => undef
def plainK : AV → Bool
  | .agg cs => cs.all plain1
  | x => plain1 x
def valK : AV → Value
  | .agg cs => .agg (cs.map val1).toArray
  | x => val1 x
theorem val1_of {γ : Nat → Gh} {L : List AObj} {x : AV} {v : Value} (h : RV γ L x v) (hp : plain1 x = true) : v = val1 x := by
  cases h <;> first | rfl | (simp [plain1] at hp; done)
theorem rv_val1 {γ : Nat → Gh} {L : List AObj} {x : AV} (hp : plain1 x = true) : RV γ L x (val1 x) := by
  cases x <;> first | exact .int _ _ | exact .bool _ | exact .str _ | (simp [plain1] at hp; done)
theorem one_val1 {x : AV} (hp : plain1 x = true) : (val1 x).oneCell' = true := by
  cases x <;> first | rfl | (simp [plain1] at hp; done)
theorem valK_of {γ : Nat → Gh} {L : List AObj} {x : AV} {v : Value} (h : RV γ L x v) (hp : plainK x = true) : v = valK x := by
  cases h with
  | agg cs vs hn h1 h =>
    simp only [plainK, List.all_eq_true] at hp
    simp only [valK, Value.agg.injEq]
    apply Array.ext
    · simp [hn]
    · intro i h1 h2
      have hi : i < cs.length := by omega
      have := val1_of (h i cs[i] (by simp [hi])) (hp _ (List.getElem_mem _))
      simp only [Array.getD, h1, dite_true] at this
      simpa using this
  | int k n => rfl
  | bool b => rfl
  | str s => rfl
  | _ => simp [plainK, plain1] at hp
theorem rv_valK {γ : Nat → Gh} {L : List AObj} {x : AV} (hp : plainK x = true) : RV γ L x (valK x) := by
  cases x with
  | agg cs =>
    simp only [plainK, List.all_eq_true] at hp
    refine .agg _ _ (by simp) (fun v hv => ?_) (fun i x hx => ?_)
    · simp only [List.mem_toArray, List.mem_map] at hv
      obtain ⟨y, hy, rfl⟩ := hv
      exact one_val1 (hp y hy)
    · have hi := (List.getElem?_eq_some_iff.1 hx).1
      have e : (cs.map val1).toArray.getD i undef = val1 x := by
        rw [Array.getD_eq_getD_getElem?]; simp [hx]
      rw [e]
      exact rv_val1 (hp _ (List.mem_of_getElem? hx))
  | int k n => exact .int _ _
  | bool b => exact .bool _
  | str s => exact .str _
  | _ => simp [plainK, plain1] at hp

section
variable {κ ν : Type}
def entE (ek : κ → AV) (ev : ν → AV) (p : κ × ν) : AV × AV := (ek p.1, ev p.2)
def mapO (kt vt : TypeId) (ek : κ → AV) (ev : ν → AV) (m : List (κ × ν)) : AObj := .map kt vt (m.map (entE ek ev))

/-- How keys and elements of a map's type are told; 'z' is the element type's zero value. -/
structure MapT (P : Program) (kt vt : TypeId) (ek : κ → AV) (ev : ν → AV) (z : ν) : Prop where
  keyed : Keyed P kt
  pk : ∀ k, plainK (ek k) = true
  pv : ∀ v, plainK (ev v) = true
  one : ∀ v, (valK (ev v)).oneCell' = true
  inj : ∀ a b, valK (ek a) = valK (ek b) → a = b
  zero : zeroOf P vt = some (valK (ev z))

structure MapOk (P : Program) (kt : TypeId) (ek : κ → AV) (m : List (κ × ν)) : Prop where
  nd : (m.map Prod.fst).Nodup
  wf : ∀ k ∈ m.map Prod.fst, (keyOf P kt (valK (ek k))).isSome = true
theorem MapOk.nil {P : Program} {kt : TypeId} {ek : κ → AV} : MapOk P kt ek ([] : List (κ × ν)) := ⟨by simp, by simp⟩
variable {P : Program} {kt vt : TypeId} {ek : κ → AV} {ev : ν → AV} {z : ν}
theorem rep_ent (B : MapT P kt vt ek ev z) {m : List (κ × ν)} {arr : Array MapEntry} {clock : Nat} (h : MapRep (m.map (entE ek ev)) arr clock) (i : Nat) (e : MapEntry) (he : arr.toList[i]? = some e) :
    ∃ p, m[i]? = some p ∧ e.key = valK (ek p.1) ∧ e.val = valK (ev p.2) := by
  obtain ⟨h1, h2, h3⟩ := h
  have hi : i < arr.size := by simpa using (List.getElem?_eq_some_iff.1 he).1
  simp only [List.length_map] at h1
  have hm : m[i]? = some m[i] := List.getElem?_eq_getElem (by omega)
  obtain ⟨x, hx, k1, k2⟩ := h2 i (entE ek ev m[i]) (by simp [hm])
  rw [← Array.getElem?_toList, he] at hx
  cases hx
  exact ⟨m[i], hm, valK_of k1 (B.pk _), valK_of k2 (B.pv _)⟩

theorem find_run (B : MapT P kt vt ek ev z) {m : List (κ × ν)} {arr : Array MapEntry} {clock : Nat} (h : MapRep (m.map (entE ek ev)) arr clock) (M : MapOk P kt ek m) {x : κ} (hx : (keyOf P kt (valK (ek x))).isSome = true) (w : World) :
    ((Instr.findKey kt (valK (ek x)) arr.toList).run P w = .ok none w ∧ x ∉ m.map Prod.fst) ∨
    ∃ (j : Nat) (p : κ × ν) (e : MapEntry), (Instr.findKey kt (valK (ek x)) arr.toList).run P w = .ok (some (j, e.val)) w ∧ m[j]? = some p ∧ arr.toList[j]? = some e ∧ p.1 = x ∧ e.val = valK (ev p.2) ∧ e.key = valK (ek x) := by
  obtain ⟨lx, hlx⟩ := Option.isSome_iff_exists.1 hx
  have hall : ∀ e ∈ arr.toList, ∃ l, keyOf P kt e.key = some l := by
    intro e he
    obtain ⟨i, hi, rfl⟩ := List.getElem_of_mem he
    obtain ⟨p, hp, k1, _⟩ := rep_ent B h i _ (List.getElem?_eq_getElem hi)
    rw [k1]
    exact Option.isSome_iff_exists.1 (M.wf p.1 (List.mem_map.2 ⟨p, List.mem_of_getElem? hp, rfl⟩))
  rcases B.keyed.find w hlx arr.toList hall with ⟨h1, h2⟩ | ⟨j, e, h1, h2, h3⟩
  · refine .inl ⟨h1, fun hm => ?_⟩
    obtain ⟨p, hp, hpx⟩ := List.mem_map.1 hm
    obtain ⟨i, hi, hpi⟩ := List.getElem_of_mem hp
    have hia : i < arr.toList.length := by have := h.1; simp at this ⊢; omega
    obtain ⟨q, hq, k1, _⟩ := rep_ent B h i _ (List.getElem?_eq_getElem hia)
    rw [List.getElem?_eq_getElem hi] at hq
    cases hq
    exact h2 _ (List.getElem_mem hia) (by rw [k1, hpi, hpx])
  · obtain ⟨p, hp, k1, k2⟩ := rep_ent B h j e h2
    exact .inr ⟨j, p, e, h1, hp, h2, B.inj _ _ (by rw [← k1, h3]), k2, h3⟩

end

section
variable {κ ν : Type} [DecidableEq κ]
/-- What is known of a key. -/
def getM : List (κ × ν) → κ → Option ν
  | [], _ => none
  | (k, v) :: r, x => if k = x then some v else getM r x
/-- An element laid under a key. -/
def putM : List (κ × ν) → κ → ν → List (κ × ν)
  | [], x, y => [(x, y)]
  | (k, v) :: r, x, y => if k = x then (k, y) :: r else (k, v) :: putM r x y
theorem getM_putM (m : List (κ × ν)) (x : κ) (y : ν) (z : κ) : getM (putM m x y) z = if x = z then some y else getM m z := by
  induction m with
  | nil => simp [putM, getM]
  | cons p r ih =>
    obtain ⟨k, v⟩ := p
    simp only [putM]
    by_cases h : k = x
    · subst h
      rw [if_pos rfl]
      simp only [getM]
      by_cases hz : k = z
      · simp [hz]
      · simp [hz]
    · rw [if_neg h]
      simp only [getM, ih]
      by_cases hz : k = z
      · subst hz
        have : x ≠ k := fun e => h e.symm
        simp [this]
      · simp [hz]
theorem getM_none {m : List (κ × ν)} {x : κ} (h : x ∉ m.map Prod.fst) : getM m x = none := by
  induction m with
  | nil => rfl
  | cons p r ih =>
    simp only [List.map_cons, List.mem_cons, not_or] at h
    have hne : ¬ p.1 = x := fun e => h.1 e.symm
    simp only [getM, if_neg hne]
    exact ih h.2
theorem getM_at {m : List (κ × ν)} (hn : (m.map Prod.fst).Nodup) {j : Nat} {p : κ × ν} (h : m[j]? = some p) : getM m p.1 = some p.2 := by
  induction m generalizing j with
  | nil => simp at h
  | cons q r ih =>
    simp only [List.map_cons, List.nodup_cons] at hn
    cases j with
    | zero => simp at h; subst h; simp [getM]
    | succ j =>
      simp at h
      have hm : p.1 ∈ r.map Prod.fst := List.mem_map.2 ⟨p, List.mem_of_getElem? h, rfl⟩
      simp only [getM]
      rw [if_neg (fun e => hn.1 (by rw [e]; exact hm))]
      exact ih hn.2 h
theorem putM_new {m : List (κ × ν)} {x : κ} {y : ν} (h : x ∉ m.map Prod.fst) : putM m x y = m ++ [(x, y)] := by
  induction m with
  | nil => rfl
  | cons p r ih =>
    simp only [List.map_cons, List.mem_cons, not_or] at h
    have hne : ¬ p.1 = x := fun e => h.1 e.symm
    simp only [putM, if_neg hne, ih h.2, List.cons_append]
theorem putM_at {m : List (κ × ν)} (hn : (m.map Prod.fst).Nodup) {j : Nat} {p : κ × ν} {y : ν} (h : m[j]? = some p) : putM m p.1 y = m.set j (p.1, y) := by
  induction m generalizing j with
  | nil => simp at h
  | cons q r ih =>
    simp only [List.map_cons, List.nodup_cons] at hn
    cases j with
    | zero => simp at h; subst h; simp [putM]
    | succ j =>
      simp at h
      have hm : p.1 ∈ r.map Prod.fst := List.mem_map.2 ⟨p, List.mem_of_getElem? h, rfl⟩
      simp only [putM]
      rw [if_neg (fun e => hn.1 (by rw [e]; exact hm)), ih hn.2 h, List.set_cons_succ]
theorem putM_keys (m : List (κ × ν)) (x : κ) (y : ν) (z : κ) : z ∈ (putM m x y).map Prod.fst ↔ z = x ∨ z ∈ m.map Prod.fst := by
  induction m with
  | nil => simp [putM]
  | cons p r ih =>
    simp only [putM]
    by_cases h : p.1 = x
    · rw [if_pos h]; simp [h]
    · rw [if_neg h]
      simp only [List.map_cons, List.mem_cons, ih]
      constructor <;> rintro (h | h | h) <;> simp [h]
theorem putM_nodup {m : List (κ × ν)} (hn : (m.map Prod.fst).Nodup) (x : κ) (y : ν) : ((putM m x y).map Prod.fst).Nodup := by
  induction m with
  | nil => simp [putM]
  | cons p r ih =>
    simp only [List.map_cons, List.nodup_cons] at hn
    simp only [putM]
    by_cases h : p.1 = x
    · rw [if_pos h]; simpa using hn
    · rw [if_neg h]
      simp only [List.map_cons, List.nodup_cons]
      refine ⟨fun hm => ?_, ih hn.2⟩
      rcases (putM_keys r x y p.1).1 hm with e | e
      · exact h e
      · exact hn.1 e

theorem MapOk.put {P : Program} {kt : TypeId} {ek : κ → AV} {m : List (κ × ν)} (h : MapOk P kt ek m) {x : κ} (hx : (keyOf P kt (valK (ek x))).isSome = true) (y : ν) : MapOk P kt ek (putM m x y) :=
  ⟨putM_nodup h.nd x y, fun k hk => by
    rcases (putM_keys m x y k).1 hk with rfl | e
    · exact hx
    · exact h.wf k e⟩

variable {P : Program} {kt vt : TypeId} {ek : κ → AV} {ev : ν → AV} {z : ν}

def lookR (ev : ν → AV) (z : ν) (ok : Bool) (r : Option ν) : AV := if ok then .tup [ev (r.getD z), .bool r.isSome] else ev (r.getD z)

theorem zero_run {T : TypeId} {v : Value} (hz : zeroOf P T = some v) (w : World) : (zeroValue T).run P w = .ok v w := by
  unfold zeroOf at hz
  obtain ⟨i, hi, hz⟩ := Option.bind_eq_some_iff.1 hz
  simp [zeroValue, typeInfo, hi, hz]

theorem look_run (B : MapT P kt vt ek ev z) {m : List (κ × ν)} {arr : Array MapEntry} {clock : Nat} (h : MapRep (m.map (entE ek ev)) arr clock) (M : MapOk P kt ek m) {x : κ} (hx : (keyOf P kt (valK (ek x))).isSome = true)
    {w : World} {b : Nat} (hb : w.heap[b]? = some (.map arr clock)) {t : TypeId} (ht : P.underlying t = some (.map kt vt)) (ok : Bool) :
    ∃ v, (Instr.lookup t (.map (some b)) (valK (ek x)) ok).run P w = .ok v w ∧ ∀ γ L, RV γ L (lookR ev z ok (getM m x)) v := by
  obtain ⟨lx, hlx⟩ := Option.isSome_iff_exists.1 hx
  have two : ∀ (y : ν) (f : Bool) γ L, RV γ L (.tup [ev y, .bool f]) (.tuple #[valK (ev y), .bool f]) := fun y f γ L =>
    .tup _ _ rfl (fun i x hx => by
      match i, hx with
      | 0, hx => simp at hx; subst hx; exact rv_valK (B.pv _)
      | 1, hx => simp at hx; subst hx; exact .bool _
      | i + 2, hx => simp at hx)
  rcases find_run B h M hx w with ⟨h1, h2⟩ | ⟨j, p, e, h1, h2, h3, rfl, h4, h5⟩
  · rw [getM_none h2]
    refine ⟨if ok then .tuple #[valK (ev z), .bool false] else valK (ev z), by simp [Instr.lookup, run_underlying ht, MapKept.run_getObj_map hb, B.keyed.check w _ hlx, h1, zero_run B.zero, Result.andThen], fun γ L => ?_⟩
    cases ok
    · exact rv_valK (B.pv _)
    · exact two z false γ L
  · rw [getM_at M.nd h2]
    refine ⟨if ok then .tuple #[valK (ev p.2), .bool true] else valK (ev p.2), by simp [Instr.lookup, run_underlying ht, MapKept.run_getObj_map hb, B.keyed.check w _ hlx, h1, h4, Result.andThen], fun γ L => ?_⟩
    cases ok
    · exact rv_valK (B.pv _)
    · exact two p.2 true γ L

theorem put_run (B : MapT P kt vt ek ev z) {m : List (κ × ν)} {arr : Array MapEntry} {clock : Nat} (h : MapRep (m.map (entE ek ev)) arr clock) (M : MapOk P kt ek m) {x : κ} (hx : (keyOf P kt (valK (ek x))).isSome = true)
    {w : World} {b : Nat} (hb : w.heap[b]? = some (.map arr clock)) {t : TypeId} (ht : P.underlying t = some (.map kt vt)) (y : ν) :
    ∃ arr' clock', (Instr.mapUpdate t (.map (some b)) (valK (ek x)) (valK (ev y))).run P w = .ok () (setBlock w b (.map arr' clock')) ∧ MapRep ((putM m x y).map (entE ek ev)) arr' clock' := by
  obtain ⟨lx, hlx⟩ := Option.isSome_iff_exists.1 hx
  obtain ⟨r1, r2, r3⟩ := h
  simp only [List.length_map] at r1
  rcases find_run B ⟨by simpa using r1, r2, r3⟩ M hx w with ⟨h1, h2⟩ | ⟨j, p, e, h1, h2, h3, rfl, h4, h5⟩
  · refine ⟨arr.push ⟨valK (ek x), valK (ev y), clock⟩, clock + 1, by simp [Instr.mapUpdate, run_underlying ht, MapKept.run_getObj_map hb, B.keyed.check w _ hlx, h1, MapKept.run_setObj_map _ hb, Result.andThen, setBlock], ?_⟩
    rw [putM_new h2]
    refine ⟨by simp [r1], fun i e he => ?_, fun q hq => ?_⟩
    · rw [List.map_append] at he
      by_cases hi : i < m.length
      · rw [List.getElem?_append_left (by simpa using hi)] at he
        obtain ⟨q, hq, k1, k2⟩ := r2 i e he
        exact ⟨q, by rw [Array.getElem?_push_lt (by omega)]; rw [← hq, Array.getElem?_eq_getElem (by omega)], k1, k2⟩
      · have hi2 : i = m.length := by
          have := (List.getElem?_eq_some_iff.1 he).1
          simp at this; omega
        subst hi2
        rw [List.getElem?_append_right (by simp)] at he
        simp at he
        subst he
        exact ⟨⟨valK (ek x), valK (ev y), clock⟩, by rw [← r1]; simp, rv_valK (B.pk x), rv_valK (B.pv y)⟩
    · rcases Array.mem_push.1 hq with hq | rfl
      · have := r3 q hq; omega
      · exact Nat.lt_succ_self _
  · have hj : arr[j]? = some e := by rw [← Array.getElem?_toList]; exact h3
    have hjl := (Array.getElem?_eq_some_iff.1 hj).1
    have hstay := B.keyed.stays w hlx
    refine ⟨arr.modify j (fun e' => { e' with key := valK (ek p.1), val := valK (ev y) }), clock, by simp [Instr.mapUpdate, run_underlying ht, MapKept.run_getObj_map hb, B.keyed.check w _ hlx, h1, hj, h5, hstay, MapKept.run_setObj_map _ hb, Result.andThen, setBlock], ?_⟩
    rw [putM_at M.nd h2]
    refine ⟨by simp [r1], fun i q hq => ?_, fun q hq => ?_⟩
    · rw [List.map_set] at hq
      by_cases hi : j = i
      · subst hi
        rw [List.getElem?_set_self (by simp; omega)] at hq
        cases hq
        refine ⟨{ e with key := valK (ek p.1), val := valK (ev y) }, ?_, rv_valK (B.pk _), rv_valK (B.pv _)⟩
        rw [Array.getElem?_modify, hj]; simp
      · rw [List.getElem?_set_ne hi] at hq
        obtain ⟨q', hq', k1, k2⟩ := r2 i q hq
        refine ⟨q', ?_, k1, k2⟩
        rw [Array.getElem?_modify, hq', if_neg hi]
    · obtain ⟨i, hi, rfl⟩ := Array.getElem_of_mem hq
      simp only [Array.size_modify] at hi
      rw [Array.getElem_modify]
      have := r3 _ (Array.getElem_mem (xs := arr) (i := i) hi)
      split <;> exact this

/-- Looking a key up in a map of the call's own. -/
theorem look_sound (B : MapT P kt vt ek ev z) {o : Oper} {s : St} {t : TypeId} {xm xi : Operand} {ok : Bool} {id : Nat} {m : List (κ × ν)} {x : κ} (ho : o.op = .lookup t xm xi ok) (hm : s.ev xm = .map id) (hi : s.ev xi = ek x)
    (hL : s.L[id]? = some (mapO kt vt ek ev m)) (ht : P.underlying t = some (.map kt vt)) (M : MapOk P kt ek m) (hx : (keyOf P kt (valK (ek x))).isSome = true) : OpS P o s (s.put o.dst (lookR ev z ok (getM m x))) := by
  refine OpS.pure fun γ a w hr => ?_
  have h1 := hr.ev xm
  have h2 := hr.ev xi
  rw [hm] at h1
  rw [hi] at h2
  generalize hvm : a.eval xm = vm at h1
  have e2 := valK_of h2 (B.pk x)
  cases h1 with
  | map _ b c kt' vt' es hL' hb =>
    obtain ⟨ob, hob, hrep⟩ := hr.inv.ow _ _ _ _ hb
    unfold BlockRep at hrep
    rw [hL] at hrep
    obtain ⟨_, arr, clock, rfl, hrep⟩ := hrep
    obtain ⟨v, hv, hrv⟩ := look_run B hrep M hx hob ht ok
    exact ⟨v, by simp [execOp, ho, hvm, e2, hv], hrv _ _⟩

/-- Laying an element under a key. -/
theorem put_sound (B : MapT P kt vt ek ev z) {o : Oper} {s : St} {t : TypeId} {xm xi xv : Operand} {id : Nat} {m : List (κ × ν)} {x : κ} {y : ν} (ho : o.op = .mapUpdate t xm xi xv) (hm : s.ev xm = .map id) (hi : s.ev xi = ek x) (hv : s.ev xv = ev y)
    (hL : s.L[id]? = some (mapO kt vt ek ev m)) (ht : P.underlying t = some (.map kt vt)) (M : MapOk P kt ek m) (hx : (keyOf P kt (valK (ek x))).isSome = true) : OpS P o s ({ s with L := s.L.set id (mapO kt vt ek ev (putM m x y)) }.put o.dst .junk) := by
  intro γ a w K Q hr hK
  refine .inl ?_
  have h1 := hr.ev xm
  have h2 := hr.ev xi
  have h3 := hr.ev xv
  rw [hm] at h1
  rw [hi] at h2
  rw [hv] at h3
  generalize hvm : a.eval xm = vm at h1
  have e2 := valK_of h2 (B.pk x)
  have e3 := valK_of h3 (B.pv y)
  cases h1 with
  | map _ b c kt' vt' es hL' hb =>
    obtain ⟨ob, hob, hrep⟩ := hr.inv.ow _ _ _ _ hb
    unfold BlockRep at hrep
    rw [hL] at hrep
    obtain ⟨_, arr, clock, rfl, hrep⟩ := hrep
    obtain ⟨arr', clock', hrun, hrep'⟩ := put_run B hrep M hx hob ht y
    have hlt := (List.getElem?_eq_some_iff.1 hL).1
    obtain ⟨E, hI, hS⟩ := hr.inv.write (x' := mapO kt vt ek ev (putM m x y)) (w' := setBlock w b (.map arr' clock')) (o' := .map arr' clock') hb hL ⟨rfl, rfl⟩
      ⟨fun _ _ h => (by cases h), fun _ _ _ _ => ⟨_, _, _, rfl⟩⟩ (fun k hk => heap_setBlock_other hob _ hk) (heap_setBlock_same hob _) (by simp [setBlock]) rfl rfl rfl
      (fun E => by
        unfold BlockRep
        rw [List.getElem?_set_self hlt]
        exact ⟨rfl, _, _, rfl, hrep'⟩)
      (fun E b2 p2 c2 o2 hne hb2 hr2 => by
        exfalso
        unfold BlockRep at hr2
        simp only [hL, mapO] at hr2
        obtain ⟨rfl, _⟩ := hr2
        exact hne (hr.inv.inj _ _ _ _ _ _ hb2 hb))
    unfold Oper.wp execOp
    rw [ho]
    simp only [hvm, e2, e3, Sem.run_bind, hrun, Result.andThen_ok, Sem.run_pure]
    refine hK _ _ _ ((hr.mono E hI).put o.dst (.junk _)) (by rw [St.put_L]; exact E) hS

/-- A new map. -/
theorem make_sound_map {o : Oper} {s : St} {t : TypeId} (kt vt : TypeId) (ho : o.op = .makeMap t none) : OpS P o s ({ s with L := s.L ++ [AObj.map kt vt []] }.put o.dst (.map s.L.length)) := by
  intro γ a w K Q hr hK
  refine .inl ?_
  have hA := hr.inv.allocObj (.map #[] 0) (AObj.map kt vt []) 0 (fun E => by
    unfold BlockRep
    simp only [List.getElem?_append_right (Nat.le_refl _), Nat.sub_self, List.getElem?_cons_zero]
    exact ⟨trivial, _, _, rfl, by simp, by simp, by simp⟩)
  obtain ⟨E, hI, hS⟩ := hA
  unfold Oper.wp execOp
  rw [ho]
  have hrun : (Instr.makeMap t none).run P w = .ok (.map (some w.heap.size)) (w.alloc (.map #[] 0)) := rfl
  simp only [Option.map_none, Sem.run_bind, hrun, Result.andThen_ok, Sem.run_pure]
  refine hK _ _ _ ((hr.mono E hI).put o.dst (.map _ w.heap.size 0 kt vt [] ?_ ?_)) (by rw [St.put_L]; exact E) hS
  · simp
  · simp [newG]

theorem RunL.look (B : MapT P kt vt ek ev z) {k : Oper → Knd} {ops : Array Oper} {K : St → Prop} {o : Oper} {rest : List Oper} {s : St} {t : TypeId} {xm xi : Operand} {ok : Bool} {id : Nat} (m : List (κ × ν)) (x : κ)
    (hg : guardA ops s o = some true) (ho : o.op = .lookup t xm xi ok) (hm : s.ev xm = .map id) (hi : s.ev xi = ek x)
    (hL : s.L[id]? = some (mapO kt vt ek ev m)) (ht : P.underlying t = some (.map kt vt)) (M : MapOk P kt ek m) (hx : (keyOf P kt (valK (ek x))).isSome = true) (hkd : Knd.le .C (k o) = true)
    (hk : R P k ops rest (s.put o.dst (lookR ev z ok (getM m x))) K) : RunL P k ops (o :: rest) s K := by
  refine .op ⟨.C, lookR ev z ok (getM m x), s.L⟩ hkd ⟨⟨fun h _ => ⟨[], by simp⟩, fun h => (nomatch h)⟩, fun s1 ha hL1 => ⟨by rw [agree_guard ha]; exact hg, ?_⟩⟩ (R.sound hk)
  have hL1 : s1.L = s.L := hL1
  have e1 : s1.ev xm = .map id := by rw [agree_ev ha (by rw [ho]; simp [Op.operands]), hm]
  have e2 : s1.ev xi = ek x := by rw [agree_ev ha (by rw [ho]; simp [Op.operands]), hi]
  have := look_sound (P := P) (s := s1) B ho e1 e2 (by rw [hL1]; exact hL) ht M hx
  simp only [Sd.app]
  rw [← hL1]
  exact this

theorem RunL.put (B : MapT P kt vt ek ev z) {k : Oper → Knd} {ops : Array Oper} {K : St → Prop} {o : Oper} {rest : List Oper} {s : St} {t : TypeId} {xm xi xv : Operand} {id : Nat} (m : List (κ × ν)) (x : κ) (y : ν)
    (hg : guardA ops s o = some true) (ho : o.op = .mapUpdate t xm xi xv) (hm : s.ev xm = .map id) (hi : s.ev xi = ek x) (hv : s.ev xv = ev y)
    (hL : s.L[id]? = some (mapO kt vt ek ev m)) (ht : P.underlying t = some (.map kt vt)) (M : MapOk P kt ek m) (hx : (keyOf P kt (valK (ek x))).isSome = true) (hkd : Knd.le .C (k o) = true)
    (hk : R P k ops rest ({ s with L := s.L.set id (mapO kt vt ek ev (putM m x y)) }.put o.dst .junk) K) : RunL P k ops (o :: rest) s K := by
  have hal : isAlloc k o = false := by unfold isAlloc; rw [ho]
  refine .op ⟨.C, .junk, s.L.set id (mapO kt vt ek ev (putM m x y))⟩ hkd ⟨⟨fun h _ => (by rw [hal] at h; cases h), fun h => (nomatch h)⟩, fun s1 ha hL1 => ⟨by rw [agree_guard ha]; exact hg, ?_⟩⟩ (R.sound hk)
  have hL1 : s1.L = s.L := hL1
  have e1 : s1.ev xm = .map id := by rw [agree_ev ha (by rw [ho]; simp [Op.operands]), hm]
  have e2 : s1.ev xi = ek x := by rw [agree_ev ha (by rw [ho]; simp [Op.operands]), hi]
  have e3 : s1.ev xv = ev y := by rw [agree_ev ha (by rw [ho]; simp [Op.operands]), hv]
  have := put_sound (P := P) (s := s1) B ho e1 e2 e3 (by rw [hL1]; exact hL) ht M hx
  simp only [Sd.app]
  rw [← hL1]
  exact this

theorem RunL.newMap {k : Oper → Knd} {ops : Array Oper} {K : St → Prop} {o : Oper} {rest : List Oper} {s : St} {t : TypeId} (kt vt : TypeId)
    (hg : guardA ops s o = some true) (ho : o.op = .makeMap t none) (hkd : Knd.le .C (k o) = true)
    (hk : R P k ops rest ({ s with L := s.L ++ [AObj.map kt vt []] }.put o.dst (.map s.L.length)) K) : RunL P k ops (o :: rest) s K := by
  refine .op ⟨.C, .map s.L.length, s.L ++ [AObj.map kt vt []]⟩ hkd ⟨⟨fun h _ => ⟨_, rfl⟩, fun h => (nomatch h)⟩, fun s1 ha hL1 => ⟨by rw [agree_guard ha]; exact hg, ?_⟩⟩ (R.sound hk)
  have hL1 : s1.L = s.L := hL1
  have := make_sound_map (P := P) (s := s1) kt vt ho
  simp only [Sd.app]
  rw [← hL1]
  exact this
end

/-! ### keys that are pairs of whole numbers, or whole numbers -/
def ekP (p : Int × Int) : AV := .agg [.int .i64 p.1, .int .i64 p.2]
def ekI (q : IntKind) (n : Int) : AV := .int q n
theorem ekP_inj (a b : Int × Int) (h : valK (ekP a) = valK (ekP b)) : a = b := by
  obtain ⟨a1, a2⟩ := a
  obtain ⟨b1, b2⟩ := b
  simp [valK, ekP, val1] at h
  exact Prod.ext h.1 h.2
theorem ekI_inj (q : IntKind) (a b : Int) (h : valK (ekI q a) = valK (ekI q b)) : a = b := by
  simpa [valK, ekI, val1] using h
theorem mapT_pair {P : Program} {kt vt e : TypeId} (A : WideMaps.ArrKey P kt e 2) {ν : Type} {ev : ν → AV} {z : ν} (hv : ∀ v, plainK (ev v) = true) (ho : ∀ v, (valK (ev v)).oneCell' = true) (hz : zeroOf P vt = some (valK (ev z))) : MapT P kt vt ekP ev z :=
  ⟨Keyed.of_law A.law, fun _ => rfl, hv, ho, ekP_inj, hz⟩
theorem mapT_int {P : Program} {kt vt : TypeId} {q : IntKind} (hk : P.underlying kt = some (.int q)) {ν : Type} {ev : ν → AV} {z : ν} (hv : ∀ v, plainK (ev v) = true) (ho : ∀ v, (valK (ev v)).oneCell' = true) (hz : zeroOf P vt = some (valK (ev z))) : MapT P kt vt (ekI q) ev z :=
  ⟨Maps.int_keyed hk, fun _ => rfl, hv, ho, ekI_inj q, hz⟩
end Go.Proofs.Ytobdpkkmkbafbaa.K
/-
  A logic of values for Go's functions (part 23): a nil slice in a variable, told as a slice without elements.
-/
namespace Go.Proofs.Ytobdpkkmkbafbaa.K
set_option linter.unusedVariables false
set_option linter.unusedSimpArgs false
open Go Go.RowKit

theorem AWp.nilS {P : Program} {c : Code} {Q : Exit → St → Prop} {s : St} (id j : Nat) {T0 : TypeId} {cs : List AV} (hL : s.L[id]? = some (.box T0 cs)) (hj : cs[j]? = some (.lit (.slice none 0 0)))
    (h : AWp P c Q ⟨s.t, s.L.set id (.box T0 (cs.set j (.sl false [])))⟩) : AWp P c Q s := by
  intro ro γ a w hp hr
  have hlt := (List.getElem?_eq_some_iff.1 hL).1
  have hE : Ext γ s.L γ (s.L.set id (.box T0 (cs.set j (.sl false [])))) := .set hL ⟨rfl, by simp⟩
  have hI : Inv γ (s.L.set id (.box T0 (cs.set j (.sl false [])))) w := by
    refine ⟨hr.inv.ro, fun b id1 p c hb => ?_, hr.inv.inj, fun id1 T1 cs1 hL1 => ?_, fun id1 kt vt es hL1 => ?_⟩
    · obtain ⟨o, ho, hrep⟩ := hr.inv.ow _ _ _ _ hb
      refine ⟨o, ho, ?_⟩
      by_cases hi : id1 = id
      · subst hi
        unfold BlockRep at hrep ⊢
        simp only [hL] at hrep
        simp only [List.getElem?_set_self hlt]
        obtain ⟨h1, arr, h2, h3, h4⟩ := hrep
        refine ⟨h1, arr, h2, by simpa using h3, fun k x hx => ?_⟩
        by_cases hjk : j = k
        · subst hjk
          have hjl := (List.getElem?_eq_some_iff.1 hj).1
          simp [hjl] at hx
          subst hx
          obtain ⟨v, a1, a2, a3⟩ := h4 j _ hj
          refine ⟨v, a1, a2, ?_⟩
          cases a3
          exact .sl _ _ _ 0 0 0 (fun _ _ => undef) rfl (Nat.le_refl _) (by simp) (by simp) (by simp) (by simp)
        · rw [List.getElem?_set_ne hjk] at hx
          obtain ⟨v, a1, a2, a3⟩ := h4 k x hx
          exact ⟨v, a1, a2, a3.mono hE⟩
      · exact hrep.upd hE (List.getElem?_set_ne (fun e => hi e.symm))
    · by_cases hi2 : id = id1
      · subst hi2; exact hr.inv.box _ _ _ hL
      · rw [List.getElem?_set_ne hi2] at hL1; exact hr.inv.box _ _ _ hL1
    · by_cases hi2 : id = id1
      · subst hi2; simp [hlt] at hL1
      · rw [List.getElem?_set_ne hi2] at hL1; exact hr.inv.map _ _ _ _ hL1
  have hr' := hr.mono hE hI
  refine wpIn_mono (h ro γ a w hp hr') ?_
  rintro e a' w' ⟨γ', s', h1, h2, h3, h4⟩
  exact ⟨γ', s', h1, hE.trans h2, h3, h4⟩

theorem RunL.callp_ex {P : Program} {k : Oper → Knd} {ops : Array Oper} {K : AV → List AObj → St → Prop} {Z : AV → List AObj → Prop} {o : Oper} {rest : List Oper} {s : St} {f : FuncId} {args : Array Operand} {ats : Array TypeId} {r : AV} {xs : List AV}
    (hg : guardA ops s o = some true) (ho : o.op = .call { callee := .value (.func f), args := args, argTypes := ats }) (hf : okFn P f = true)
    (h : Ct P f xs [] r []) (hp : pureL xs = true) (hx : args.toList.map s.ev = xs) (hk : ∃ q L', R P k ops rest (s.put o.dst r) (K q L') ∧ Z q L') : ∃ q L', RunL P k ops (o :: rest) s (K q L') ∧ Z q L' := by
  obtain ⟨q, L', h1, h2⟩ := hk
  exact ⟨q, L', .callp hg ho hf h hp hx h1, h2⟩
theorem AWp.nilS_ex {P : Program} {c : Code} {Kq : AV → List AObj → Exit → St → Prop} {Z : AV → List AObj → Prop} {s : St} (id j : Nat) {T0 : TypeId} {cs : List AV} (hL : s.L[id]? = some (.box T0 cs)) (hj : cs[j]? = some (.lit (.slice none 0 0)))
    (h : ∃ r L', AWp P c (Kq r L') ⟨s.t, s.L.set id (.box T0 (cs.set j (.sl false [])))⟩ ∧ Z r L') : ∃ r L', AWp P c (Kq r L') s ∧ Z r L' := by
  obtain ⟨r, L', h1, h2⟩ := h
  exact ⟨r, L', AWp.nilS id j hL hj h1, h2⟩

end Go.Proofs.Ytobdpkkmkbafbaa.K
/-
  A logic of values for Go's functions (part 24): a call that is lent what the caller owns, and that only reads it: it may come before or behind other reading steps.
-/
namespace Go.Proofs.Ytobdpkkmkbafbaa.K
set_option linter.unusedVariables false
set_option linter.unusedSimpArgs false
open Go Go.RowKit

theorem RunL.lendB {P : Program} {k : Oper → Knd} {ops : Array Oper} {K : St → Prop} {o : Oper} {rest : List Oper} {s : St} {f : FuncId} {args : Array Operand} {ats : Array TypeId} {r : AV} {xs ys : List AV}
    (hg : guardA ops s o = some true) (ho : o.op = .call { callee := .value (.func f), args := args, argTypes := ats }) (hf : okFn P f = true) (hkd : Knd.le .B (k o) = true) (hW : ∀ i, isW k i = false ∧ rowsAt k i = false)
    (h : Ct P f ys [] r []) (hx : args.toList.map s.ev = xs) (hy : ∀ X, VwL (s.L ++ X) xs ys) (hr : flatB r = true) (hk : R P k ops rest (s.put o.dst r) K) : RunL P k ops (o :: rest) s K := by
  refine .op ⟨.B, r, []⟩ hkd ⟨⟨fun _ h => (nomatch h), fun h => (nomatch h)⟩, fun s1 ha hL => ⟨by rw [agree_guard ha]; exact hg, ?_⟩⟩ (R.sound hk)
  obtain ⟨L0, X, hX, hlen, hS⟩ := hL
  have e0 : L0 = s.L := by
    apply List.ext_getElem?
    intro i
    obtain ⟨w1, w2⟩ := hW i
    rcases hS i w1 with e | ⟨e, _⟩
    · exact e
    · rw [w2] at e; cases e
  subst e0
  have he : args.toList.map s1.ev = xs := by
    rw [← hx]
    exact map_congr_ev fun x hx => agree_ev ha (by rw [ho]; simp [Op.operands, Call.operands]; exact .inr (by simpa using hx))
  have hc : Ct P f (args.toList.map s1.ev) s1.L r s1.L := by
    rw [he, hX]
    exact Ct.lend h (hy X) hr
  have := call_sound (P := P) (s := s1) ho hf hc
  exact this

end Go.Proofs.Ytobdpkkmkbafbaa.K
/-
  An address of an array's element: the array lies in a variable of the call's own.
-/
namespace Go.Proofs.Ytobdpkkmkbafbaa.K
open Go Go.RowKit
set_option maxRecDepth 8000

theorem run_indexArr {P : Program} {t e : TypeId} {len : Nat} (w : World) (ht : P.underlying t = some (.array len e)) (hi : (P.info? e).isSome = true) (k : IntKind) (i : Int) (b off : Nat)
    (h0 : 0 ≤ i) (h1 : i < (len : Int)) :
    (Instr.indexAt t (.pointer (some ⟨b, off, none⟩)) (.int k i)).run P w = .ok (.pointer (some ⟨b, off + i.toNat * P.cellsOf e, none⟩)) w := by
  have hadd : (⟨b, off, none⟩ : Addr).add (i.toNat * P.cellsOf e) = ⟨b, off + i.toNat * P.cellsOf e, none⟩ := by unfold Addr.add; split <;> simp_all
  simp [Instr.indexAt, asIntOf, run_underlying ht, Instr.sureAddr, h0, h1, run_sizeOf w hi, hadd]
theorem indexArr_sound {P : Program} {o : Oper} {s : St} {t e : TypeId} {x i : Operand} {id off len : Nat} {ik : IntKind} {n : Int} (ho : o.op = .indexAddr t x i) (hx : s.ev x = .ptr id off) (hi : s.ev i = .int ik n)
    (ht : P.underlying t = some (.array len e)) (hsz : (P.info? e).isSome = true) (h0 : 0 ≤ n) (h1 : n < (len : Int)) : OpS P o s (s.put o.dst (.ptr id (off + n.toNat * P.cellsOf e))) := by
  refine OpS.pure fun γ a w hr => ?_
  have e1 := hr.ev x
  have e2 := hr.ev i
  rw [hx] at e1
  rw [hi] at e2
  unfold execOp
  rw [ho]
  generalize hu : a.eval x = u at e1
  generalize hv : a.eval i = v at e2
  cases e1 with
  | ptr _ _ b c T cs hL hb =>
    cases e2
    have := run_indexArr (P := P) w ht hsz ik n b off h0 h1
    exact ⟨_, by simp [hu, hv, this], .ptr _ _ _ _ _ _ hL hb⟩
/-- The address of an element of an own array. -/
theorem RunL.indexArr {P : Program} {k : Oper → Knd} {ops : Array Oper} {K : St → Prop} {o : Oper} {rest : List Oper} {s : St} {t e : TypeId} {x i : Operand} {id off len : Nat} {ik : IntKind} {n : Int}
    (hg : guardA ops s o = some true) (ho : o.op = .indexAddr t x i) (ht : P.underlying t = some (.array len e)) (hx : s.ev x = .ptr id off) (hi : s.ev i = .int ik n) (hsz : (P.info? e).isSome = true) (h0 : 0 ≤ n) (h1 : n < (len : Int))
    (h : R P k ops rest (s.put o.dst (.ptr id (off + n.toNat * P.cellsOf e))) K) : RunL P k ops (o :: rest) s K := by
  refine .op ⟨.A, .ptr id (off + n.toNat * P.cellsOf e), []⟩ rfl ⟨⟨fun _ h => (by cases h), fun h => (by cases h)⟩, fun s1 ha _ => ⟨by rw [agree_guard ha]; exact hg, ?_⟩⟩ (R.sound h)
  exact indexArr_sound ho (by rw [agree_ev ha (by rw [ho]; simp [Op.operands])]; exact hx) (by rw [agree_ev ha (by rw [ho]; simp [Op.operands])]; exact hi) ht hsz h0 h1
/-- A load that may look at a variable that results go to. -/
theorem RunL.loadX {P : Program} {k : Oper → Knd} {ops : Array Oper} {K : St → Prop} {o : Oper} {rest : List Oper} {s : St} {x : AV} (hg : guardA ops s o = some true) (hk : k o = .D) (hx : pureA P s o.op = some x)
    (h : R P k ops rest (s.put o.dst x) K) : RunL P k ops (o :: rest) s K := .loadD hg hk hx (R.sound h)

end Go.Proofs.Ytobdpkkmkbafbaa.K
/-
  Is a slice nil? (A slice without elements may be nil or not: both are told.)
-/
namespace Go.Proofs.Ytobdpkkmkbafbaa.K
set_option linter.unusedVariables false
set_option linter.unusedSimpArgs false
open Go Go.RowKit
set_option maxRecDepth 8000

theorem equalIn_nil {P : Program} {T e : TypeId} (w : World) (ht : P.underlying T = some (.slice e)) (d : Nat) (A : Option Addr) (n c : Nat) :
    (Op.equalIn (d + 1) T (.slice A n c) (.slice none 0 0)).run P w = .ok A.isNone w := by
  unfold Op.equalIn
  simp only [Sem.run_bind, run_underlying ht, Result.andThen_ok]
  cases A <;> simp
theorem run_isNil {P : Program} {T e : TypeId} (w : World) (ht : P.underlying T = some (.slice e)) (A : Option Addr) (n c : Nat) (ox oy : Operand) :
    (do eqGuard .eql T ox oy (.slice A n c) (.slice none 0 0); binOp .eql T (.slice A n c) (.slice none 0 0) : Sem Value).run P w = .ok (.bool A.isNone) w := by
  have hg : (eqGuard .eql T ox oy (.slice A n c) (.slice none 0 0)).run P w = .ok () w := by
    unfold eqGuard
    simp
  have he : Op.equal T (.slice A n c) (.slice none 0 0) = Op.equalIn Op.maxDepth T (.slice A n c) (.slice none 0 0) := rfl
  have h1 := equalIn_nil (P := P) w ht 9999 A n c
  have hd : Op.maxDepth = 9999 + 1 := rfl
  rw [hd] at he
  simp only [Sem.run_bind, hg, Result.andThen_ok, binOp]
  rw [he]
  generalize Op.equalIn (9999 + 1) T (.slice A n c) (.slice none 0 0) = m at *
  simp [h1]
theorem AWp.nilTest {P : Program} {id : Nat} {o1 o2 : Oper} {Q : Exit → St → Prop} {s : St} {x0 : Operand} {d1 d2 : Tmp} {T T2 e : TypeId} {own : Bool} {es : List AV}
    (h1 : o1.op = .move x0) (hd1 : o1.dst = some d1) (hg1 : o1.guard = none) (h2 : o2.op = .binOp .eql T (.tmp d1) (.const (.slice none 0 0)) T2) (hd2 : o2.dst = some d2) (hg2 : o2.guard = none)
    (ht : P.underlying T = some (.slice e)) (hx : s.ev x0 = .sl own es) (hlt : d1 < s.t.length) (hc : ∀ e ∈ es, e.cells ≠ [])
    (h : ∀ b, (es ≠ [] → b = false) → Q .normal ((s.put (some d1) (.sl own es)).put (some d2) (.bool b))) : AWp P (.region id #[o1, o2] false) Q s := by
  intro ro γ a w _ hr
  refine wpIn_region ?_
  have gA1 : guardA #[o1, o2] s o1 = some true := by unfold guardA; rw [hg1]
  have gA2 : ∀ s', guardA #[o1, o2] s' o2 = some true := fun s' => by unfold guardA; rw [hg2]
  have m1 : OpS P o1 s (s.put o1.dst (.sl own es)) := pureA_sound (by rw [h1]; simp only [pureA, hx])
  have hr2 : List.range (#[o1, o2] : Array Oper).size = [0, 1] := rfl
  rw [hr2]
  simp only [wpOpsIn, List.getElem?_toArray, List.getElem?_cons_zero, List.getElem?_cons_succ]
  rw [guardA_wanted hr gA1, if_pos rfl]
  refine m1.wpIn ro hr fun γ' a' w' hr' hE' hS' => ?_
  rw [guardA_wanted hr' (gA2 _), if_pos rfl]
  have hL : (s.put o1.dst (.sl own es)).L = s.L := St.put_L _ _ _
  have e1 := hr'.ev (.tmp d1)
  have hev : (s.put o1.dst (.sl own es)).ev (.tmp d1) = .sl own es := by
    rw [hd1]; simp [St.put, St.ev, hlt]
  rw [hev] at e1
  have key : ∃ b : Bool, (es ≠ [] → b = false) ∧ (execOp a'.eval o2).run P w' = .ok (.value (.bool b)) w' := by
    generalize hu : a'.eval (.tmp d1) = u at e1
    cases e1 with
    | sl _ _ A n c sz vals hn hc' hsz hq2 hq1 hq3 =>
      refine ⟨A.isNone, fun hne => ?_, ?_⟩
      · obtain ⟨z, zs, rfl⟩ := List.exists_cons_of_ne_nil hne
        obtain ⟨y, ys, hy⟩ := List.exists_cons_of_ne_nil (hc z (by simp))
        have := hq2 0 z 0 y rfl (by rw [hy]; rfl)
        obtain ⟨b, o, rfl⟩ := roCell_addr this
        rfl
      · unfold execOp
        rw [h2]
        have := run_isNil (P := P) w' ht A n c (.tmp d1) (.const (.slice none 0 0))
        have hc0 : a'.eval (.const (.slice none 0 0)) = .slice none 0 0 := rfl
        simp only [hu, hc0]
        simp only [Sem.run_bind] at this ⊢
        simp [this]
  obtain ⟨b, hb, hrun⟩ := key
  refine OpR.wpIn (.inl ?_) (fun c hc => by rw [h2] at hc; cases hc) ro
  unfold Oper.wp
  rw [hrun]
  refine ⟨γ', (s.put (some d1) (.sl own es)).put (some d2) (.bool b), ?_, ?_, hS', h b hb⟩
  · have := hr'.put o2.dst (RV.bool b)
    rw [hd1, hd2] at this
    rw [hd2]
    exact this
  · rw [St.put_L]
    rw [hd1] at hE'
    exact hE'

end Go.Proofs.Ytobdpkkmkbafbaa.K
/-
  Rows of the call's own that nobody writes any more are told as values from here on.
-/
namespace Go.Proofs.Ytobdpkkmkbafbaa.K
set_option linter.unusedVariables false
set_option linter.unusedSimpArgs false
open Go Go.RowKit

def frzM (D : List Nat) (γ : Nat → Gh) (w : World) : Nat → Gh := fun b =>
  match γ b with
  | .ow id p c => if id ∈ D then (match w.heap[b]? with | some o => .ro o | none => .out) else .ow id p c
  | x => x
theorem frzM_ro {D : List Nat} {γ : Nat → Gh} {w : World} : ∀ b o, γ b = .ro o → frzM D γ w b = .ro o := fun b o h => by simp [frzM, h]
def killS (D : List Nat) (L : List AObj) : List AObj := L.mapIdx fun i o => if i ∈ D then .dead else o
theorem killS_get (D : List Nat) (L : List AObj) (i : Nat) : (killS D L)[i]? = (L[i]?).map fun o => if i ∈ D then .dead else o := by
  simp [killS]
theorem killS_out {D : List Nat} {L : List AObj} {i : Nat} (h : i ∉ D) : (killS D L)[i]? = L[i]? := by
  rw [killS_get]; cases L[i]? <;> simp [h]
theorem killS_in {D : List Nat} {L : List AObj} {i : Nat} {o : AObj} (h : i ∈ D) (ho : L[i]? = some o) : (killS D L)[i]? = some .dead := by
  rw [killS_get, ho]; simp [h]
/-- 'x', told with what the call owns, is 'y' once the rows 'D' are not written any more. -/
def FrV (D : List Nat) (L : List AObj) (x y : AV) : Prop := ∀ γ w v, Inv γ L w → RV γ L x v → RV (frzM D γ w) (killS D L) y v
theorem FrV.pur {D : List Nat} {L : List AObj} {x : AV} (h : Pur x) : FrV D L x x := fun γ w v _ hv => h _ _ _ _ _ frzM_ro hv
theorem FrV.nil {D : List Nat} {L : List AObj} (o : Bool) : FrV D L (.lit (.slice none 0 0)) (.sl o []) := by
  intro γ w v hI hv
  cases hv
  exact .sl _ _ _ 0 0 0 (fun _ _ => undef) rfl (Nat.le_refl _) (by simp) (by simp) (by simp) (by simp)
theorem FrV.ptr {D : List Nat} {L : List AObj} {id off : Nat} {T : TypeId} {cs : List AV} (hD : id ∉ D) (hL : L[id]? = some (.box T cs)) : FrV D L (.ptr id off) (.ptr id off) := by
  intro γ w v hI hv
  cases hv with
  | ptr _ _ b c T' cs' hL' hb => exact .ptr _ _ b c T' cs' (by rw [killS_out hD]; exact hL') (by simp [frzM, hb, hD])
theorem FrV.ref {D : List Nat} {L : List AObj} {id g n : Nat} {p : Pth} {T : TypeId} {sz : Nat} {es es' ys : List AV} {o : Bool} (hD : id ∈ D) (hL : L[id]? = some (.vec T sz g es)) (hs : sub es p = some es') (hy : ys.length = n)
    (hall : ∀ (i : Nat) e y, es'[i]? = some e → ys[i]? = some y → y.cells.length = e.cells.length ∧ ∀ (j : Nat) c d, e.cells[j]? = some c → y.cells[j]? = some d → FrV D L (viewC id (p ++ [(i, j)]) g c) d) :
    FrV D L (.ref id p g n) (.sl o ys) := by
  intro γ w v hI hv
  cases hv with
  | ref _ _ _ _ _ hok ho =>
    obtain ⟨_, _, _, es2, hL2, hs2, hn, hv⟩ := hok.form (by simp [eptrNow, hL])
    rw [hL] at hL2; cases hL2
    rw [hs] at hs2; cases hs2
    rcases hv with ⟨rfl, rfl, rfl, _⟩ | ⟨b, c, rfl, hb⟩
    · have : ys = [] := List.eq_nil_of_length_eq_zero hy
      subst this
      exact .sl _ _ _ 0 0 0 (fun _ _ => undef) rfl (Nat.le_refl _) (by simp) (by simp) (by simp) (by simp)
    · obtain ⟨arr, s, T', harr, _, hasz, hlc, _, hrow⟩ := hI.rowCell hL hs hb
      have hsome : ∀ {i : Nat} {y : AV}, ys[i]? = some y → ∃ e, es'[i]? = some e := by
        intro i y hiy
        have := (List.getElem?_eq_some_iff.1 hiy).1
        exact ⟨es'[i]'(by omega), List.getElem?_eq_getElem (by omega)⟩
      have hcell : ∀ (i : Nat) y (j : Nat) d, ys[i]? = some y → y.cells[j]? = some d → ∃ u, arr[i * s + j]? = some u ∧ u.oneCell' = true ∧ RV (frzM D γ w) (killS D L) d u := by
        intro i y j d hiy hjd
        obtain ⟨e, he⟩ := hsome hiy
        obtain ⟨hlen, hcd⟩ := hall i e y he hiy
        have hj : j < e.cells.length := by rw [← hlen]; exact (List.getElem?_eq_some_iff.1 hjd).1
        have hc : e.cells[j]? = some e.cells[j] := List.getElem?_eq_getElem hj
        obtain ⟨u, h1, h2, h3⟩ := hrow.2 i e j _ he hc
        exact ⟨u, h1, h2, hcd j _ d hc hjd γ w u hI (RV.viewC hL hs he hc h2 h3)⟩
      refine .sl _ _ _ _ _ s (fun i j => arr.getD (i * s + j) undef) hy.symm (by omega) ?_ ?_ ?_ ?_
      · intro y hy'
        obtain ⟨i, hi, rfl⟩ := List.getElem_of_mem hy'
        have hiy : ys[i]? = some ys[i] := List.getElem?_eq_getElem hi
        obtain ⟨e, he⟩ := hsome hiy
        rw [(hall i e _ he hiy).1]
        exact hrow.1 e (List.mem_of_getElem? he)
      · intro i y j d hiy hjd
        obtain ⟨u, h1, _, _⟩ := hcell i y j d hiy hjd
        have hf : frzM D γ w b = .ro (.cells arr T' (0, 0)) := by simp [frzM, hb, harr, hD]
        simp only [roCell, hf, Nat.zero_add, h1]
        simp [Array.getD_eq_getD_getElem?, h1]
      · intro i y j d hiy hjd
        obtain ⟨u, h1, h2, _⟩ := hcell i y j d hiy hjd
        simpa [Array.getD_eq_getD_getElem?, h1] using h2
      · intro i y j d hiy hjd
        obtain ⟨u, h1, _, h3⟩ := hcell i y j d hiy hjd
        simpa [Array.getD_eq_getD_getElem?, h1] using h3


theorem AWp.freeze {P : Program} {c : Code} {Q : Exit → St → Prop} {s : St} (D : List Nat) {t' : List AV} (hlen : t'.length = s.t.length)
    (hT : ∀ (i : Nat) y, t'[i]? = some y → y = .junk ∨ ∃ x, s.t[i]? = some x ∧ FrV D s.L x y) (hv : ∀ id ∈ D, ∃ T sz g es, s.L[id]? = some (.vec T sz g es))
    (hL : ∀ id, id ∉ D → ∀ o, s.L[id]? = some o → o = .dead ∨ ∃ T cs, o = .box T cs ∧ ∀ x ∈ cs, Pur x) (h : AWp P c Q ⟨t', killS D s.L⟩) : AWp P c Q s := by
  intro ro γ a w hp hr
  have hI := hr.inv
  have h3 : ∀ {b id p c}, frzM D γ w b = .ow id p c → γ b = .ow id p c ∧ id ∉ D := by
    intro b id p c hb
    unfold frzM at hb
    split at hb
    · rename_i id' p' c' he
      split at hb
      · split at hb <;> cases hb
      · rename_i hd; cases hb; exact ⟨he, hd⟩
    · rename_i hne; exact absurd hb (hne _ _ _)
  have hk : ∀ {b id p c}, γ b = .ow id p c → id ∉ D → frzM D γ w b = .ow id p c := fun hb hd => by simp [frzM, hb, hd]
  have hI' : Inv (frzM D γ w) (killS D s.L) w := by
    refine ⟨fun b o hb => ?_, fun b id p c hb => ?_, fun b b' id p c c' hb hb' => hI.inj _ _ _ _ _ _ (h3 hb).1 (h3 hb').1, fun id T cs hq => ?_, fun id kt vt es hq => ?_⟩
    · unfold frzM at hb
      split at hb
      · split at hb
        · split at hb
          · rename_i o' ho'; cases hb; exact ho'
          · cases hb
        · cases hb
      · exact hI.ro b o hb
    · obtain ⟨hb0, hd⟩ := h3 hb
      obtain ⟨o, ho, hrep⟩ := hI.ow _ _ _ _ hb0
      refine ⟨o, ho, ?_⟩
      unfold BlockRep at hrep ⊢
      rw [killS_out hd]
      cases hq : s.L[id]? with
      | none => rw [hq] at hrep; exact hrep.elim
      | some ob =>
        rw [hq] at hrep
        rcases hL id hd ob hq with rfl | ⟨T, cs, rfl, hp⟩
        · exact hrep.elim
        · obtain ⟨q1, arr, q2, q3, q4⟩ := hrep
          refine ⟨q1, arr, q2, q3, fun j x hx => ?_⟩
          obtain ⟨v, v1, v2, v3⟩ := q4 j x hx
          exact ⟨v, v1, v2, hp x (List.mem_of_getElem? hx) _ _ _ _ _ frzM_ro v3⟩
    · by_cases hd : id ∈ D
      · obtain ⟨_, _, _, _, hz⟩ := hv id hd
        rw [killS_in hd hz] at hq; cases hq
      · rw [killS_out hd] at hq
        obtain ⟨b, c, hb⟩ := hI.box _ _ _ hq
        exact ⟨b, c, hk hb hd⟩
    · by_cases hd : id ∈ D
      · obtain ⟨_, _, _, _, hz⟩ := hv id hd
        rw [killS_in hd hz] at hq; cases hq
      · rw [killS_out hd] at hq
        obtain ⟨b, c, hb⟩ := hI.map _ _ _ _ hq
        exact ⟨b, c, hk hb hd⟩
  have hE : Ext γ s.L (frzM D γ w) (killS D s.L) := by
    refine ⟨frzM_ro, fun id o hq => ?_, fun b id p c hb => ?_, fun id T1 sz1 g1 es1 T' sz' es' hq hq' p e1 _ b c hb => (h3 hb).1⟩
    · by_cases hd : id ∈ D
      · obtain ⟨_, _, _, _, hz⟩ := hv id hd
        rw [hz] at hq; cases hq
        exact ⟨_, killS_in hd hz, trivial⟩
      · exact ⟨o, by rw [killS_out hd]; exact hq, OStep.refl o⟩
    · by_cases hd : id ∈ D
      · refine .inr fun o hq => ?_
        obtain ⟨_, _, _, _, hz⟩ := hv id hd
        rw [hz] at hq; cases hq
        exact ⟨_, _, _, _, rfl, fun T' sz' es' hq' => by rw [killS_in hd hz] at hq'; cases hq'⟩
      · exact .inl (hk hb hd)
  have hS : Stp γ w (frzM D γ w) w := ⟨rfl, rfl, rfl, Nat.le_refl _, frzM_ro, fun b _ hb => ⟨by simp [frzM, hb], rfl⟩⟩
  have hR : Rel (frzM D γ w) ⟨t', killS D s.L⟩ a w := ⟨hr.defers.mono frzM_ro, by rw [hr.size]; exact hlen.symm, fun i y hy => by
    rcases hT i y hy with rfl | ⟨x, hx, hxy⟩
    · exact .junk _
    · exact hxy γ w _ hI (hr.tmps i x hx), hI'⟩
  refine wpIn_mono (h ro _ a w hp hR) ?_
  rintro e a' w' ⟨γ2, s2, k1, k2, k3, k4⟩
  exact ⟨γ2, s2, k1, hE.trans k2, hS.trans k3, k4⟩

end Go.Proofs.Ytobdpkkmkbafbaa.K
