/-
  A logic of values for Go's functions (part 11): the steps, as a function.
-/
import Derived.Test.YtolfjeedgedblaaKD
namespace Go.Proofs.Ytolfjeedgedblaa.K
set_option linter.unusedVariables false
set_option linter.unusedSimpArgs false
open Go Go.RowKit

/-- What an operation without a call hangs on. -/
def kindP : Op → Knd
  | .move _ => .A
  | .assign _ => .A
  | .pick _ _ _ => .A
  | .binOp _ _ _ _ _ => .A
  | .unOp _ _ _ => .A
  | .convert _ _ _ => .A
  | .field _ _ _ => .A
  | .index _ _ _ => .A
  | .extract _ _ => .A
  | .makeFunc _ _ _ => .A
  | .build _ _ => .A
  | .buildSlice _ _ _ => .A
  | .load _ _ => .B
  | .nilCheck _ => .B
  | .fieldAddr _ _ _ => .B
  | .indexAddr _ _ _ => .B
  | .slice _ _ _ _ _ => .B
  | .call c => match c.callee with | .builtin .len => .B | .builtin .max => .A | .builtin .min => .A | _ => .C
  | _ => .C

theorem loadA_congr {P : Program} {s s1 : St} (h : s1.L = s.L) (t : TypeId) (x : AV) : loadA P s1 t x = loadA P s t x := by
  unfold loadA; rw [h]

theorem map_congr_ev {s s1 : St} {l : List Operand} (h : ∀ x ∈ l, s1.ev x = s.ev x) : l.map s1.ev = l.map s.ev := List.map_congr_left h

theorem pureA_congr {P : Program} {s s1 : St} {op : Op} (h : ∀ x ∈ op.operands, s1.ev x = s.ev x) (hL : kindP op ≠ .A → s1.L = s.L) : pureA P s1 op = pureA P s op := by
  cases op with
  | move x => simp only [pureA]; rw [h x (by simp [Op.operands])]
  | assign x => simp only [pureA]; rw [h x (by simp [Op.operands])]
  | pick c a b => simp only [pureA]; rw [h c (by simp [Op.operands]), h a (by simp [Op.operands]), h b (by simp [Op.operands])]
  | load t a => simp only [pureA]; rw [h a (by simp [Op.operands]), loadA_congr (hL (by simp [kindP]))]
  | nilCheck x => simp only [pureA]; rw [h x (by simp [Op.operands]), hL (by simp [kindP])]
  | binOp op t x y ty => simp only [pureA]; rw [h x (by simp [Op.operands]), h y (by simp [Op.operands])]
  | unOp op t x => simp only [pureA]; rw [h x (by simp [Op.operands])]
  | convert a b x => simp only [pureA]; rw [h x (by simp [Op.operands])]
  | fieldAddr t x f => simp only [pureA]; rw [h x (by simp [Op.operands]), hL (by simp [kindP])]
  | field t x f => simp only [pureA]; rw [h x (by simp [Op.operands])]
  | indexAddr t x i => simp only [pureA]; rw [h x (by simp [Op.operands]), h i (by simp [Op.operands]), hL (by simp [kindP])]
  | index t x i => simp only [pureA]; rw [h x (by simp [Op.operands]), h i (by simp [Op.operands])]
  | slice t x lo hi mx =>
    cases mx with
    | some m => rfl
    | none =>
      simp only [pureA]
      rw [h x (by simp [Op.operands]), hL (by simp [kindP])]
      have e1 : lo.map s1.ev = lo.map s.ev := by cases lo with | none => rfl | some l => simp [h l (by simp [Op.operands])]
      have e2 : hi.map s1.ev = hi.map s.ev := by cases hi with | none => rfl | some l => simp [h l (by simp [Op.operands])]
      rw [e1, e2]
  | extract t i => simp only [pureA]; rw [h t (by simp [Op.operands])]
  | makeFunc fn first cap =>
    simp only [pureA, funcA]
    rw [map_congr_ev (l := cap.toList) (fun x hx => h x (by simp [Op.operands]; exact .inr (by simpa using hx)))]
  | build t parts =>
    simp only [pureA]
    congr 1
    refine List.map_congr_left fun p hp => ?_
    rw [h p.2 (by simp only [Op.operands]; simp only [List.mem_toArray, List.mem_map]; exact ⟨p, hp, rfl⟩)]
  | call c =>
    obtain ⟨cal, args, ats⟩ := c
    simp only [pureA, callA]
    cases cal with
    | builtin b =>
      have hm : ∀ x ∈ args.toList, s1.ev x = s.ev x := fun x hx => h x (by simp [Op.operands, Call.operands]; simpa using hx)
      cases b <;> try rfl
      · have hL' := hL (by simp [kindP])
        generalize args.toList = l at *
        generalize ats.toList = m at *
        match l, m with
        | [x], [t] => simp only [hm x (by simp), hL']
        | [], _ => rfl
        | [x], [] => rfl
        | [x], _ :: _ :: _ => rfl
        | _ :: _ :: _, _ => rfl
      · generalize args.toList = l at *
        match l with
        | [x, y] => simp only [hm x (by simp), hm y (by simp)]
        | [] => rfl
        | [x] => rfl
        | _ :: _ :: _ :: _ => rfl
      · generalize args.toList = l at *
        match l with
        | [x, y] => simp only [hm x (by simp), hm y (by simp)]
        | [] => rfl
        | [x] => rfl
        | _ :: _ :: _ :: _ => rfl
    | value f => rfl
    | invoke r m => rfl
  | _ => rfl

/-- Shall a literal slice be a row of the call's own? (Asked of 'k' by an operation that no code here has.) -/
def litK (k : Oper → Knd) (o : Oper) : Bool := k { o with op := .waits 0 } == .A

/-- Does a store go to a variable that only results go to? -/
def storeW (k : Oper → Knd) (o : Oper) (p : AV) : Bool := k o == .W && (match p with | .ptr id _ => isW k id | _ => false)
/-- Does an append go to a row that only results go to? -/
def appW (k : Oper → Knd) (o : Oper) (p : AV) : Bool := k o == .W && (match p with | .ref id _ _ _ => isW k id || rowsW k | _ => false)
/-- A reading step may not look at such a variable. -/
def rdA (k : Oper → Knd) : AV → Bool
  | .ptr id _ => !isW k id
  | .ref id _ _ _ => !isW k id && !rowsW k
  | .eptr id _ _ _ _ => !isW k id && !rowsW k
  | _ => true
def rdB (k : Oper → Knd) (s : St) : Op → Bool
  | .load _ a => rdA k (s.ev a)
  | .nilCheck a => rdA k (s.ev a)
  | .fieldAddr _ a _ => rdA k (s.ev a)
  | .indexAddr _ a _ => rdA k (s.ev a)
  | .slice _ a _ _ _ => rdA k (s.ev a)
  | .call c => match c.callee, c.args.toList with | .builtin .len, [a] => rdA k (s.ev a) | _, _ => true
  | _ => true

/-- One operation without a call. -/
def stepD (P : Program) (k : Oper → Knd) (s : St) (o : Oper) : Option Sd :=
  match o.op with
  | .box T x => if (s.ev x).solid then some ⟨.C, .ptr s.L.length 0, s.L ++ [AObj.box T (s.ev x).cells]⟩ else none
  | .alloc T =>
    match zeroOf P T with
    | some z => if z.cells.all (·.oneCell') then some ⟨.C, .ptr s.L.length 0, s.L ++ [AObj.box T (z.cells.toList.map absV)]⟩ else none
    | none => none
  | .store t p x =>
    match o.dst with
    | none =>
      match storeA P s t (s.ev p) (s.ev x) with
      | some s' => some ⟨if storeW k o (s.ev p) then .W else .C, .junk, s'.L⟩
      | none => match storeE P s t (s.ev p) (s.ev x) with | some s' => some ⟨.C, .junk, s'.L⟩ | none => none
    | some _ => none
  | .buildSlice t n parts =>
    if (n == 0 || litK k o) = true then
      match litElems P t n (parts.toList.map fun p => (p.1, s.ev p.2)) with
      | some (e, es) => some ⟨.C, .ref s.L.length [] 0 n, s.L ++ [AObj.vec e (P.cellsOf e) 0 es]⟩
      | none => none
    else match litA P t n (parts.toList.map fun p => (p.1, s.ev p.2)) with | some x => some ⟨.A, x, []⟩ | none => none
  | .makeSlice t x y => match makeA P s t (s.ev x) (s.ev y) with | some r => some ⟨.C, r.1, r.2⟩ | none => none
  | .call ⟨.builtin .append, args, ats⟩ =>
    match args.toList, ats.toList with
    | [x, y], [t, t'] => (match appendA P s t t' (s.ev x) (s.ev y) with | some r => some ⟨if appW k o (s.ev x) then .W else .C, r.1, r.2⟩ | none => none)
    | _, _ => none
  | op => if rdB k s op = true then (match pureA P s op with | some x => some ⟨kindP op, x, []⟩ | none => none) else none

theorem appendA_set {P : Program} {s : St} {t t' : TypeId} {id g n : Nat} {p : Pth} {y : AV} {r : AV × List AObj} (h : appendA P s t t' (.ref id p g n) y = some r) : ∃ o', r.2 = s.L.set id o' ∧ isRow s.L[id]? ∧ isRow (some o') := by
  unfold appendA at h
  split at h
  case h_2 => cases h
  split at h
  case isFalse => cases h
  split at h
  · rename_i e
    cases e
    split at h
    case h_2 => cases h
    rename_i hL
    split at h
    case isFalse => cases h
    split at h
    · cases h; exact ⟨_, rfl, ⟨_, _, _, _, hL⟩, ⟨_, _, _, _, rfl⟩⟩
    · split at h
      · cases h; exact ⟨_, rfl, ⟨_, _, _, _, hL⟩, ⟨_, _, _, _, rfl⟩⟩
      · cases h
  · rename_i e; cases e
  · cases h
theorem storeA_set {P : Program} {s s' : St} {t : TypeId} {id off : Nat} {x : AV} (h : storeA P s t (.ptr id off) x = some s') : ∃ o', s'.L = s.L.set id o' := by
  unfold storeA at h
  dsimp only at h
  repeat' split at h
  all_goals first | (cases h; done) | (cases h; exact ⟨_, rfl⟩)

/-- A reading step finds the same where no object turned that it reads. -/
theorem eptrNow_eq {L L0 : List AObj} {id g : Nat} (h : L0[id]? = L[id]?) : eptrNow L0 id g = eptrNow L id g := by unfold eptrNow; rw [h]
theorem pureA_W {P : Program} {k : Oper → Knd} {s : St} {L0 : List AObj} {op : Op} (hW : ∀ i, isW k i = false → SameAt k s.L L0 i) (hr : rdB k s op = true) : pureA P { s with L := L0 } op = pureA P s op := by
  have hev : ∀ y, ({ s with L := L0 } : St).ev y = s.ev y := fun y => by cases y <;> rfl
  have hf : ({ s with L := L0 } : St).ev = s.ev := funext hev
  have lp : ∀ {id off : Nat}, rdA k (.ptr id off) = true → SameAt k s.L L0 id := fun h => hW _ (by simpa [rdA] using h)
  have lr : ∀ {id g n : Nat} {p : Pth}, rdA k (.ref id p g n) = true → L0[id]? = s.L[id]? := fun h => by
    simp only [rdA, Bool.and_eq_true, Bool.not_eq_true'] at h
    rcases hW _ h.1 with e | ⟨e, _⟩
    · exact e
    · rw [h.2] at e; cases e
  have le : ∀ {id g i off : Nat} {p : Pth}, rdA k (.eptr id p g i off) = true → L0[id]? = s.L[id]? := fun h => by
    simp only [rdA, Bool.and_eq_true, Bool.not_eq_true'] at h
    rcases hW _ h.1 with e | ⟨e, _⟩
    · exact e
    · rw [h.2] at e; cases e
  cases op
  case slice t x lo hi mx =>
    cases mx with
    | some m => rfl
    | none =>
      simp only [pureA, hf]
      simp only [rdB] at hr
      generalize s.ev x = y at *
      cases y <;> simp only [sliceA] <;> try rfl
      rename_i id p g n
      rw [eptrNow_eq (lr hr)]
  case load t a =>
    simp only [pureA, hf]
    simp only [rdB] at hr
    generalize s.ev a = y at *
    cases y <;> simp only [loadA] <;> try rfl
    · rcases lp hr with e | ⟨_, ⟨_, _, _, _, e1⟩, ⟨_, _, _, _, e2⟩⟩
      · rw [e]
      · rw [e1, e2]
    · rw [le hr]
  case nilCheck a =>
    simp only [pureA, hf]
    simp only [rdB] at hr
    generalize s.ev a = y at *
    cases y <;> simp only <;> try rfl
    rw [eptrNow_eq (le hr)]
  case fieldAddr t a f =>
    simp only [pureA, hf]
    simp only [rdB] at hr
    generalize s.ev a = y at *
    cases y <;> simp only <;> try rfl
    rw [eptrNow_eq (le hr)]
  case indexAddr t a i =>
    simp only [pureA, hf]
    simp only [rdB] at hr
    generalize s.ev a = y at *
    cases y <;> simp only <;> try rfl
    rename_i id p g n
    have hq := lr hr
    simp only [indexRefA, hq]
  case call c =>
    obtain ⟨cal, args, ats⟩ := c
    simp only [pureA, callA, hf]
    cases cal with
    | builtin b =>
      by_cases hb : b = .len
      · subst hb
        simp only [rdB] at hr
        generalize args.toList = l at *
        generalize ats.toList = m at *
        match l, m with
        | [x], [t] =>
          simp only at hr ⊢
          generalize s.ev x = y at *
          cases y with
          | ref id p g n => simp only [lenA]; rw [eptrNow_eq (lr hr)]
          | lit v =>
            by_cases hv : v = .slice none 0 0
            · subst hv; rfl
            · have hn : ∀ L, lenA P L t (.lit v) = none := fun L => by unfold lenA; split <;> simp_all
              rw [hn, hn]
          | _ => rfl
        | [], _ => rfl
        | [x], [] => rfl
        | [x], _ :: _ :: _ => rfl
        | _ :: _ :: _, _ => rfl
      · generalize args.toList = l at *
        generalize ats.toList = m at *
        cases b <;> first | rfl | exact absurd rfl hb | (rcases l with _ | ⟨x, _ | ⟨y, _ | ⟨z, l⟩⟩⟩ <;> rfl)
    | value f => rfl
    | invoke r m => rfl
  case makeFunc fn first cap => simp only [pureA, funcA, hf]
  all_goals simp only [pureA, hf]

theorem storeA_t {P : Program} {s s' : St} {t : TypeId} {p x : AV} (h : storeA P s t p x = some s') : s'.t = s.t := by
  unfold storeA at h
  repeat' split at h
  all_goals first | (cases h; done) | (cases h; rfl)

theorem storeA_congr {P : Program} {s s1 : St} (hL : s1.L = s.L) (t : TypeId) (p x : AV) {s' : St} (h : storeA P s t p x = some s') : storeA P s1 t p x = some { s1 with L := s'.L } := by
  unfold storeA at *
  rw [hL]
  repeat' split at h
  all_goals first | (cases h; done) | skip
  rename_i hL' hc _ _ _
  simp only [hc, and_self, if_true]
  cases h
  rfl

theorem storeE_congr {P : Program} {s s1 : St} (hL : s1.L = s.L) (t : TypeId) (p x : AV) {s' : St} (h : storeE P s t p x = some s') : storeE P s1 t p x = some { s1 with L := s'.L } ∧ s'.t = s.t := by
  unfold storeE at *
  rw [hL]
  repeat' split at h
  all_goals first | (cases h; done) | skip
  rename_i hc
  have hg := hc.1.1
  subst hg
  rw [if_pos hc]
  cases h
  exact ⟨rfl, rfl⟩

theorem kindP_W (op : Op) : kindP op ≠ .W := by
  cases op <;> first | (simp [kindP]; done) | skip
  rename_i c
  obtain ⟨cal, args, ats⟩ := c
  simp only [kindP]
  split <;> simp
theorem kindP_pure {P : Program} {s : St} {op : Op} {x : AV} (h : pureA P s op = some x) : kindP op ≠ .C := by
  cases op <;> first | (simp [kindP]; done) | (simp [pureA] at h; done) | skip
  rename_i c
  obtain ⟨cal, args, ats⟩ := c
  simp only [pureA, callA] at h
  split at h
  · split at h
    · intro hk; simp [kindP] at hk
    · intro hk; simp [kindP] at hk
    · intro hk; simp [kindP] at hk
    · cases h
  · cases h

theorem eptrNow_mono {L X : List AObj} {id g : Nat} (h : eptrNow L id g = true) : eptrNow (L ++ X) id g = true := by
  unfold eptrNow at *
  split at h
  · rename_i hL
    rw [List.getElem?_append_left (List.getElem?_eq_some_iff.1 hL).1, hL]
    exact h
  · cases h
theorem loadA_mono {P : Program} {s : St} {X : List AObj} {t : TypeId} {x y : AV} (h : loadA P s t x = some y) : loadA P { s with L := s.L ++ X } t x = some y := by
  cases x <;> simp only [loadA] at h ⊢ <;> try exact h
  · split at h
    · rename_i hL
      rw [List.getElem?_append_left (List.getElem?_eq_some_iff.1 hL).1, hL]
      exact h
    · cases h
  · split at h
    · rename_i hL
      rw [List.getElem?_append_left (List.getElem?_eq_some_iff.1 hL).1, hL]
      exact h
    · cases h
theorem indexRefA_mono {P : Program} {L X : List AObj} {t : TypeId} {x i y : AV} (h : indexRefA P L t x i = some y) : indexRefA P (L ++ X) t x i = some y := by
  unfold indexRefA at *
  split at h
  · split at h
    · rename_i hi
      rw [if_pos hi]
      split at h
      · split at h
        · rename_i hL
          simp only [List.getElem?_append_left (List.getElem?_eq_some_iff.1 hL).1, hL]
          exact h
        · cases h
      · cases h
    · cases h
  · cases h
theorem sliceA_mono {P : Program} {L X : List AObj} {t : TypeId} {x y : AV} {lo hi : Option AV} (h : sliceA P L t x lo hi = some y) : sliceA P (L ++ X) t x lo hi = some y := by
  cases x <;> simp only [sliceA] at h ⊢ <;> try exact h
  split at h
  · split at h
    · rename_i hc
      rw [if_pos ⟨hc.1, hc.2.1, hc.2.2.1, eptrNow_mono hc.2.2.2⟩]
      exact h
    · cases h
  · cases h
theorem lenA_mono {P : Program} {L X : List AObj} {t : TypeId} {x y : AV} (h : lenA P L t x = some y) : lenA P (L ++ X) t x = some y := by
  unfold lenA at *
  split at h
  · exact h
  · exact h
  · exact h
  · split at h
    · split at h
      · rename_i hc
        simp only [eptrNow_mono hc, if_true]; exact h
      · cases h
    · cases h
  · cases h
/-- A reading step finds the same where the call owns more. -/
theorem pureA_mono {P : Program} {s : St} {X : List AObj} {op : Op} {x : AV} (h : pureA P s op = some x) : pureA P { s with L := s.L ++ X } op = some x := by
  have hev : ∀ y, ({ s with L := s.L ++ X } : St).ev y = s.ev y := fun y => by cases y <;> rfl
  have hf : ({ s with L := s.L ++ X } : St).ev = s.ev := funext hev
  cases op
  case slice t x lo hi mx =>
    cases mx with
    | some m => simp [pureA] at h
    | none => simp only [pureA, hf] at h ⊢; exact sliceA_mono h
  case load t a => simp only [pureA, hf] at h ⊢; exact loadA_mono h
  case nilCheck a =>
    simp only [pureA, hf] at h ⊢
    split at h
    · exact h
    · exact h
    · split at h
      · rename_i hc; rw [if_pos (eptrNow_mono hc)]; exact h
      · cases h
    · exact h
    · cases h
  case fieldAddr t a f =>
    simp only [pureA, hf] at h ⊢
    split at h
    · split at h
      · rename_i hc; rw [if_pos (eptrNow_mono hc)]; exact h
      · cases h
    · exact h
  case indexAddr t a i =>
    simp only [pureA, hf] at h ⊢
    split at h
    · exact indexRefA_mono h
    · exact h
  case call c =>
    simp only [pureA, callA, hf] at h ⊢
    split at h
    · split at h
      · exact lenA_mono h
      · exact h
      · exact h
      · cases h
    · cases h
  case makeFunc fn first cap => simp only [pureA, funcA, hf] at h ⊢; exact h
  all_goals first | (simp only [pureA, hf] at h ⊢; exact h) | (simp [pureA] at h; done)

theorem makeA_more {P : Program} {s : St} {t : TypeId} {x y : AV} {r : AV × List AObj} (h : makeA P s t x y = some r) : ∃ X, r.2 = s.L ++ X := by
  unfold makeA at h
  repeat' split at h
  all_goals first | (cases h; done) | (cases h; exact ⟨_, rfl⟩)

theorem stepD_valid {P : Program} {ops : Array Oper} {k : Oper → Knd} {s : St} {o : Oper} {d : Sd} (hg : guardA ops s o = some true) (h : stepD P k s o = some d) : Valid P k ops o d s := by
  refine ⟨⟨fun hal hC => ?_, fun hW => ?_⟩, ?_⟩
  · unfold stepD at h
    split at h
    · split at h
      · cases h; exact ⟨_, rfl⟩
      · cases h
    · split at h
      · split at h
        · cases h; exact ⟨_, rfl⟩
        · cases h
      · cases h
    · rename_i ho
      simp [isAlloc, ho] at hal
    · rename_i t n parts ho
      split at h
      · split at h
        · cases h; exact ⟨_, rfl⟩
        · cases h
      · split at h
        · cases h; cases hC
        · cases h
    · rename_i t x y ho
      split at h
      · rename_i r hr
        cases h
        exact makeA_more hr
      · cases h
    · rename_i ho
      simp [isAlloc, ho] at hal
    · split at h
      · split at h
        · rename_i hx
          cases h
          exact absurd hC (kindP_pure hx)
        · cases h
      · cases h
  · unfold stepD at h
    split at h
    · split at h
      · cases h; cases hW
      · cases h
    · split at h
      · split at h
        · cases h; cases hW
        · cases h
      · cases h
    · split at h
      · split at h
        · rename_i s' hs
          cases h
          simp only at hW
          split at hW
          · rename_i hst
            simp only [storeW, Bool.and_eq_true] at hst
            generalize s.ev _ = y at *
            split at hst
            · rename_i id off
              obtain ⟨o', ho'⟩ := storeA_set hs
              exact ⟨id, o', .inl hst.2, ho'⟩
            · cases hst.2
          · cases hW
        · split at h
          · cases h; cases hW
          · cases h
      · cases h
    · split at h
      · split at h
        · cases h; cases hW
        · cases h
      · split at h
        · cases h; cases hW
        · cases h
    · split at h
      · cases h; cases hW
      · cases h
    · split at h
      · split at h
        · rename_i r hr
          cases h
          simp only at hW
          split at hW
          · rename_i hst
            simp only [appW, Bool.and_eq_true] at hst
            generalize s.ev _ = y at *
            split at hst
            · rename_i id q g n
              obtain ⟨o', ho', k1, k2⟩ := appendA_set hr
              simp only [Bool.or_eq_true] at hst
              rcases hst.2 with h2 | h2
              · exact ⟨id, o', .inl h2, ho'⟩
              · exact ⟨id, o', .inr ⟨h2, k1, k2⟩, ho'⟩
            · cases hst.2
          · cases hW
        · cases h
      · cases h
    · split at h
      · split at h
        · rename_i hx
          cases h
          simp only at hW
          exact absurd hW (kindP_W _)
        · cases h
      · cases h
  intro s1 ha hL
  refine ⟨by rw [agree_guard ha]; exact hg, ?_⟩
  have hev : ∀ x ∈ o.op.operands, s1.ev x = s.ev x := fun x hx => agree_ev ha hx
  unfold stepD at h
  split at h
  · rename_i T x ho
    split at h
    · rename_i hx
      cases h
      have hL : s1.L = s.L := hL
      have e := hev x (by simp [ho, Op.operands])
      have := box_sound (P := P) (s := s1) ho (by rw [e]; exact (AV.solid_spec hx).1) (by rw [e]; exact (AV.solid_spec hx).2)
      rw [e, hL] at this
      exact this
    · cases h
  · rename_i T ho
    split at h
    · rename_i z hz
      split at h
      · rename_i h1
        cases h
        have hL : s1.L = s.L := hL
        have := alloc_sound (P := P) (s := s1) ho hz h1
        rw [hL] at this
        exact this
      · cases h
    · cases h
  · rename_i t p x ho
    split at h
    · rename_i hd
      split at h
      · rename_i s' hs
        cases h
        have hL : s1.L = s.L := by
          by_cases hw : storeW k o (s.ev p) = true
          · simp only [hw, if_true] at hL; exact hL
          · simp only [hw] at hL; exact hL
        have := store_sound (P := P) (s := s1) ho hd (by
          rw [hev p (by simp [ho, Op.operands]), hev x (by simp [ho, Op.operands])]
          exact storeA_congr hL t _ _ hs)
        by_cases hw : storeW k o (s.ev p) = true
        · simp only [Sd.app, hd, St.put, hw, if_true]
          exact this
        · simp only [Sd.app, hd, St.put, hw]
          exact this
      · split at h
        · rename_i s' hs
          cases h
          have hL : s1.L = s.L := hL
          have := storeE_sound (P := P) (s := s1) ho hd (by
            rw [hev p (by simp [ho, Op.operands]), hev x (by simp [ho, Op.operands])]
            exact (storeE_congr hL t _ _ hs).1)
          simp only [Sd.app, hd, St.put]
          exact this
        · cases h
    · cases h
  · rename_i t n parts ho
    have e1 : (parts.toList.map fun p => (p.1, s1.ev p.2)) = parts.toList.map fun p => (p.1, s.ev p.2) :=
      List.map_congr_left fun p hp => by rw [hev p.2 (by simp only [ho, Op.operands]; simp only [List.mem_toArray, List.mem_map]; exact ⟨p, hp, rfl⟩)]
    split at h
    · split at h
      · rename_i e es hx
        cases h
        have hL : s1.L = s.L := hL
        have := litOwn_sound (P := P) (s := s1) (e := e) (es := es) ho (by rw [e1]; exact hx)
        rw [hL] at this
        exact this
      · cases h
    · split at h
      · rename_i x hx
        cases h
        exact lit_sound (P := P) (s := s1) ho (by rw [e1]; exact hx)
      · cases h
  · rename_i t x y ho
    split at h
    · rename_i r hr
      cases h
      have hL : s1.L = s.L := hL
      have hx := hev x (by simp [ho, Op.operands])
      have hy := hev y (by simp [ho, Op.operands])
      have e3 : makeA P s1 t (s1.ev x) (s1.ev y) = some (r.1, r.2) := by
        rw [hx, hy]
        unfold makeA at hr ⊢
        rw [hL]; exact hr
      exact make_sound (P := P) (s := s1) ho e3
    · cases h
  · rename_i args ats ho
    split at h
    · rename_i x y t t' ha1 ha2
      split at h
      · rename_i r hr
        cases h
        have hL : s1.L = s.L := by
          by_cases hw : appW k o (s.ev x) = true
          · simp only [hw, if_true] at hL; exact hL
          · simp only [hw] at hL; exact hL
        have e1 : args = #[x, y] := by apply Array.toList_inj.1; rw [ha1]
        have e2 : ats = #[t, t'] := by apply Array.toList_inj.1; rw [ha2]
        subst e1 e2
        have hx := hev x (by simp [ho, Op.operands, Call.operands])
        have hy := hev y (by simp [ho, Op.operands, Call.operands])
        have e3 : appendA P s1 t t' (s1.ev x) (s1.ev y) = some (r.1, r.2) := by
          rw [hx, hy]
          unfold appendA at hr ⊢
          rw [hL]; exact hr
        have := append_sound (P := P) (s := s1) ho e3
        by_cases hw : appW k o (s.ev x) = true
        · simp only [Sd.app, hw, if_true]
          exact this
        · simp only [Sd.app, hw]
          exact this
      · cases h
    · cases h
  · split at h
    case isFalse => cases h
    rename_i hrd
    split at h
    · rename_i x hx
      cases h
      have hne0 : kindP o.op ≠ .C := kindP_pure hx
      have hneW : kindP o.op ≠ .W := kindP_W _
      have hs : pureA P s1 o.op = some x := by
        cases hk : kindP o.op with
        | C => exact absurd hk hne0
        | W => exact absurd hk hneW
        | A => rw [pureA_congr (P := P) (s := s) (s1 := s1) hev (fun h => absurd hk h)]; exact hx
        | B =>
          dsimp only at hL
          rw [hk] at hL
          obtain ⟨L0, X, hX, hlen, hW⟩ := hL
          rw [pureA_congr (P := P) (s := { s with L := L0 ++ X }) (s1 := s1) (fun x hx => by rw [hev x hx]; cases x <;> rfl) (fun _ => hX)]
          have h2 : pureA P { s with L := L0 } o.op = some x := by rw [pureA_W hW hrd]; exact hx
          exact pureA_mono (s := { s with L := L0 }) h2
      have hne : kindP o.op ≠ .C := kindP_pure hx
      have := pureA_sound (P := P) hs
      unfold Sd.app
      dsimp only
      cases hk : kindP o.op with
      | C => exact absurd hk hne
      | W => exact absurd hk hneW
      | A => exact this
      | B => exact this
    · cases h

/-- A step of a region, then what follows. -/
def Rs (P : Program) (k : Oper → Knd) (ops : Array Oper) (next : St → (St → Prop) → Prop) : Option Sd → Oper → List Oper → St → (St → Prop) → Prop
  | some d, o, rest, s, K => d.kind.le (k o) = true ∧ next (d.app o s) K
  | none, o, rest, s, K => RunL P k ops (o :: rest) s K
/-- A step behind its guard. -/
def Rg (P : Program) (k : Oper → Knd) (ops : Array Oper) (next : St → (St → Prop) → Prop) : Option Bool → Oper → List Oper → St → (St → Prop) → Prop
  | some true, o, rest, s, K => Rs P k ops next (stepD P k s o) o rest s K
  | some false, o, rest, s, K => next (s.put o.dst (.tup [])) K
  | none, o, rest, s, K => RunL P k ops (o :: rest) s K
/-- The operations of a region, one behind another, as far as they are told without a call. -/
def R (P : Program) (k : Oper → Knd) (ops : Array Oper) : List Oper → St → (St → Prop) → Prop
  | [], s, K => K s
  | o :: rest, s, K => Rg P k ops (R P k ops rest) (guardA ops s o) o rest s K

theorem R.sound {P : Program} {k : Oper → Knd} {ops : Array Oper} : ∀ {l : List Oper} {s : St} {K : St → Prop}, R P k ops l s K → RunL P k ops l s K
  | [], s, K, h => .nil h
  | o :: rest, s, K, h => by
    unfold R at h
    cases hg : guardA ops s o with
    | none => rw [hg] at h; exact h
    | some b =>
      rw [hg] at h
      cases b with
      | false => exact .off hg (R.sound h)
      | true =>
        simp only [Rg] at h
        cases hs : stepD P k s o with
        | none => rw [hs] at h; exact h
        | some d => rw [hs] at h; exact .op _ h.1 (stepD_valid hg hs) (R.sound h.2)

theorem Rg.split {P : Program} {k : Oper → Knd} {ops : Array Oper} {next : St → (St → Prop) → Prop} {b : Bool} {o : Oper} {rest : List Oper} {s : St} {K : St → Prop}
    (ht : b = true → Rg P k ops next (some b) o rest s K) (hf : b = false → Rg P k ops next (some b) o rest s K) : Rg P k ops next (some b) o rest s K := by
  cases b
  · exact hf rfl
  · exact ht rfl

/-- A call of a function whose contract is over values alone. -/
theorem RunL.callv {P : Program} {k : Oper → Knd} {ops : Array Oper} {K : St → Prop} {o : Oper} {rest : List Oper} {s : St} {f : FuncId} {args : Array Operand} {ats : Array TypeId} {r : AV} {xs : List AV}
    (hg : guardA ops s o = some true) (ho : o.op = .call { callee := .value (.func f), args := args, argTypes := ats }) (hx : args.toList.map s.ev = xs) (hf : okFn P f = true)
    (h : Ct P f xs [] r []) (hp : pureL xs = true) (hk : R P k ops rest (s.put o.dst r) K) : RunL P k ops (o :: rest) s K := by
  refine .op ⟨.A, r, []⟩ rfl ⟨⟨fun _ h => (nomatch h), fun h => (nomatch h)⟩, fun s1 ha hL => ⟨by rw [agree_guard ha]; exact hg, ?_⟩⟩ (R.sound hk)
  have he : args.toList.map s1.ev = xs := by
    rw [← hx]
    exact map_congr_ev fun x hx => agree_ev ha (by rw [ho]; simp [Op.operands, Call.operands]; exact .inr (by simpa using hx))
  have := call_sound (P := P) (s := s1) ho hf (he ▸ h.frame s1.L (Pur.ofL hp))
  exact this

/-- A call of a function that works on what the caller owns. -/
theorem RunL.call {P : Program} {k : Oper → Knd} {ops : Array Oper} {K : St → Prop} {o : Oper} {rest : List Oper} {s : St} {f : FuncId} {args : Array Operand} {ats : Array TypeId} {r : AV} {L' : List AObj} {xs : List AV}
    (hg : guardA ops s o = some true) (ho : o.op = .call { callee := .value (.func f), args := args, argTypes := ats }) (hx : args.toList.map s.ev = xs) (hf : okFn P f = true) (hkd : Knd.le .C (k o) = true) (hal : isAlloc k o = false ∨ ∃ X, L' = s.L ++ X)
    (h : Ct P f xs s.L r L') (hk : R P k ops rest ({ s with L := L' }.put o.dst r) K) : RunL P k ops (o :: rest) s K := by
  refine .op ⟨.C, r, L'⟩ hkd ⟨⟨fun h _ => hal.resolve_left (by rw [h]; exact fun e => (nomatch e)), fun h => (nomatch h)⟩, fun s1 ha hL => ⟨by rw [agree_guard ha]; exact hg, ?_⟩⟩ (R.sound hk)
  have he : args.toList.map s1.ev = xs := by
    rw [← hx]
    exact map_congr_ev fun x hx => agree_ev ha (by rw [ho]; simp [Op.operands, Call.operands]; exact .inr (by simpa using hx))
  have hL : s1.L = s.L := hL
  exact call_sound (P := P) (s := s1) ho hf (by rw [he, hL]; exact h)

/-- A call of a closure. -/
theorem RunL.callc {P : Program} {k : Oper → Knd} {ops : Array Oper} {K : St → Prop} {o : Oper} {rest : List Oper} {s : St} {x : Operand} {f : FuncId} {cap : List AV} {args : Array Operand} {ats : Array TypeId} {r : AV} {L' : List AObj} {xs : List AV}
    (hg : guardA ops s o = some true) (ho : o.op = .call { callee := .value x, args := args, argTypes := ats }) (hc : s.ev x = .fn f cap) (hx : args.toList.map s.ev ++ cap = xs) (hf : okFn P f = true) (hkd : Knd.le .C (k o) = true) (hal : isAlloc k o = false ∨ ∃ X, L' = s.L ++ X)
    (h : Ct P f xs s.L r L') (hk : R P k ops rest ({ s with L := L' }.put o.dst r) K) : RunL P k ops (o :: rest) s K := by
  refine .op ⟨.C, r, L'⟩ hkd ⟨⟨fun h _ => hal.resolve_left (by rw [h]; exact fun e => (nomatch e)), fun h => (nomatch h)⟩, fun s1 ha hL => ⟨by rw [agree_guard ha]; exact hg, ?_⟩⟩ (R.sound hk)
  have he : args.toList.map s1.ev = args.toList.map s.ev :=
    map_congr_ev fun y hy => agree_ev ha (by rw [ho]; simp [Op.operands, Call.operands]; exact .inr (by simpa using hy))
  have hx1 : s1.ev x = .fn f cap := by rw [agree_ev ha (by rw [ho]; simp [Op.operands, Call.operands])]; exact hc
  have hL : s1.L = s.L := hL
  exact callc_sound (P := P) (s := s1) ho hx1 hf (by rw [he, hx, hL]; exact h)

end Go.Proofs.Ytolfjeedgedblaa.K
