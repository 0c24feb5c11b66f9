/-
  A logic of values for Go's functions (part 17): a call to which the caller lends what it owns.
-/
import Derived.Test.YtolfjeedgedblaaK15
namespace Go.Proofs.Ytolfjeedgedblaa.K
set_option linter.unusedVariables false
set_option linter.unusedSimpArgs false
open Go

mutual
/-- Values without any memory. -/
def flatB : AV → Bool
  | .int _ _ => true
  | .bool _ => true
  | .str _ => true
  | .lit _ => true
  | .junk => true
  | .sl _ [] => true
  | .agg cs => flatL cs
  | .tup cs => flatL cs
  | _ => false
def flatL : List AV → Bool
  | [] => true
  | x :: xs => flatB x && flatL xs
end

theorem flatL_mem {xs : List AV} : flatL xs = true ↔ ∀ x ∈ xs, flatB x = true := by
  induction xs with
  | nil => simp [flatL]
  | cons x xs ih => simp [flatL, ih]

theorem flatB_sound {γ γ' : Nat → Gh} {L L' : List AObj} {x : AV} {v : Value} (hv : RV γ L x v) : flatB x = true → RV γ' L' x v := by
  induction hv with
  | int k n => intro _; exact .int k n
  | bool b => intro _; exact .bool b
  | str s => intro _; exact .str s
  | lit v h => intro _; exact .lit v h
  | sl own es A n c sz vals hn hc hsz h2 h1 h3 ih =>
    intro hp
    cases es with
    | nil => exact .sl own [] A n c sz vals hn hc hsz (by simp) (by simp) (by simp)
    | cons e es => simp [flatB] at hp
  | agg cs vs hn h1 h ih => intro hp; simp only [flatB] at hp; exact .agg cs vs hn h1 (fun i x hx => ih i x hx (flatL_mem.1 hp x (List.mem_of_getElem? hx)))
  | tup cs vs hn h ih => intro hp; simp only [flatB] at hp; exact .tup cs vs hn (fun i x hx => ih i x hx (flatL_mem.1 hp x (List.mem_of_getElem? hx)))
  | ref id p g n v h h1 => intro hp; simp [flatB] at hp
  | ptr id off b c T cs hL' h => intro hp; simp [flatB] at hp
  | eptr id p g i off v h h1 => intro hp; simp [flatB] at hp
  | rptr x off b o vals h2 h1 h3 ih => intro hp; simp [flatB] at hp
  | fn f cs vs hn h ih => intro hp; simp [flatB] at hp
  | map id b c kt vt es hL' h => intro hp; simp [flatB] at hp
  | junk v => intro _; exact .junk v

theorem frz_inv {γ : Nat → Gh} {L : List AObj} {w : World} (hI : Inv γ L w) : Inv (frz γ w) [] w := by
  have hno : ∀ b id p c, frz γ w b ≠ .ow id p c := by
    intro b id p c hb
    unfold frz at hb
    split at hb
    · split at hb <;> cases hb
    · rename_i hne; exact hne _ _ _ hb
  refine ⟨fun b o hb => ?_, fun b id p c hb => absurd hb (hno _ _ _ _), fun b b' id p c c' hb => absurd hb (hno _ _ _ _), fun id T cs hL => by simp at hL, fun id kt vt es hL => by simp at hL⟩
  unfold frz at hb
  split at hb
  · split at hb
    · cases hb; assumption
    · cases hb
  · exact hI.ro b o hb

/-- A contract over values alone; the caller lends what it owns: what comes back leads to no memory. -/
theorem Ct.lend {P : Program} {f : FuncId} {xs ys : List AV} {r : AV} {L : List AObj} (h : Ct P f ys [] r []) (hy : VwL L xs ys) (hr : flatB r = true) : Ct P f xs L r L := by
  intro γ w vs hI ha
  have hI0 := frz_inv hI
  have ha0 : ArgsR (frz γ w) [] ys vs := by
    refine ⟨by rw [ha.1]; exact hy.get.1, fun i y hi => ?_⟩
    obtain ⟨x, hx, hxy⟩ := hy.get.2 i y hi
    exact hxy γ w _ hI (ha.2 i x hx)
  refine (h (frz γ w) w vs hI0 ha0).mono ?_
  rintro e w' ⟨γ1, v, rfl, hI1, hv, _, hS⟩
  let γ' : Nat → Gh := fun b => match γ b with | .ow id p c => .ow id p c | _ => γ1 b
  have h1 : ∀ {b id p c}, γ b = .ow id p c → γ' b = .ow id p c ∧ (∃ o, γ1 b = .ro o) ∧ w'.heap[b]? = w.heap[b]? := by
    intro b id p c hb
    obtain ⟨o, ho, _⟩ := hI.ow _ _ _ _ hb
    have := hS.ro b o (by simp [frz, hb, ho])
    exact ⟨by simp [γ', hb], ⟨o, this⟩, by rw [hI1.ro b o this, ho]⟩
  have h2 : ∀ {b}, (∀ id p c, γ b ≠ .ow id p c) → γ' b = γ1 b := by
    intro b hb
    cases hg : γ b with
    | ow id p c => exact absurd hg (hb id p c)
    | out => simp [γ', hg]
    | ro o => simp [γ', hg]
  have hno1 : ∀ b id p c, γ1 b ≠ .ow id p c := by
    intro b id p c hb
    have := hI1.idlt hb
    simp at this
  have h3 : ∀ {b id p c}, γ' b = .ow id p c → γ b = .ow id p c := by
    intro b id p c hb
    by_cases hx : ∃ id p c, γ b = .ow id p c
    · obtain ⟨id', p', c', he⟩ := hx
      rw [(h1 he).1] at hb; cases hb; exact he
    · rw [h2 (fun id p c he => hx ⟨id, p, c, he⟩)] at hb
      exact absurd hb (hno1 _ _ _ _)
  have h4 : ∀ b o, γ' b = .ro o → γ1 b = .ro o := by
    intro b o hb
    by_cases hx : ∃ id p c, γ b = .ow id p c
    · obtain ⟨id', p', c', he⟩ := hx
      rw [(h1 he).1] at hb; cases hb
    · rw [h2 (fun id p c he => hx ⟨id, p, c, he⟩)] at hb; exact hb
  have hro : ∀ b o, γ b = .ro o → γ' b = .ro o := by
    intro b o hb
    rw [h2 (fun id p c he => by rw [hb] at he; cases he)]
    exact hS.ro b o (frz_ro b o hb)
  have hE : Ext γ L γ' L :=
    ⟨hro, fun id o hL => ⟨o, hL, OStep.refl o⟩, fun b id p c hb => .inl (h1 hb).1, fun id T sz g es T' sz' es' _ _ p e1 _ b c hb => h3 hb⟩
  refine ⟨γ', v, rfl, ⟨fun b o hb => hI1.ro b o (h4 b o hb), fun b id p c hb => ?_, fun b b' id p c c' hb hb' => hI.inj _ _ _ _ _ _ (h3 hb) (h3 hb'), fun id T cs hL => ?_, fun id kt vt es hL => ?_⟩, flatB_sound hv hr, hE, ?_⟩
  · have hb0 := h3 hb
    obtain ⟨o, ho, hrep⟩ := hI.ow _ _ _ _ hb0
    refine ⟨o, by rw [(h1 hb0).2.2]; exact ho, ?_⟩
    have := hrep.grow (X := []) (γ' := γ') (by simpa using hE) (hI.idlt hb0) (fun b p c hb => (h1 hb).1) (fun b p c hb => h3 hb)
    simpa using this
  · obtain ⟨b, c, hb⟩ := hI.box _ _ _ hL
    exact ⟨b, c, (h1 hb).1⟩
  · obtain ⟨b, c, hb⟩ := hI.map _ _ _ _ hL
    exact ⟨b, c, (h1 hb).1⟩
  · refine ⟨hS.os, hS.tape, hS.output, hS.size, hE.ro, fun b hb ho => ?_⟩
    have := hS.out b hb (by simp [frz, ho])
    exact ⟨by rw [h2 (fun id p c he => by rw [ho] at he; cases he)]; exact this.1, this.2⟩

/-- A pointer to a variable of the call's own, lent. -/
theorem Vw.ptr {L : List AObj} {id off : Nat} {T : TypeId} {cs : List AV} (hL : L[id]? = some (.box T cs)) (hp : pureL cs = true) : Vw L (.ptr id off) (.rptr (.agg cs) off) := by
  intro γ w v hI hv
  cases hv with
  | ptr _ _ b c T' cs' hL' hb =>
    rw [hL] at hL'; cases hL'
    obtain ⟨o, ho, hrep⟩ := hI.ow _ _ _ _ hb
    unfold BlockRep at hrep
    rw [hL] at hrep
    obtain ⟨_, arr, rfl, hsz, hall⟩ := hrep
    have hf : frz γ w b = .ro (.cells arr T (0, 0)) := by simp [frz, hb, ho]
    have := RV.rptr (γ := frz γ w) (L := []) (.agg cs) off b 0 (fun j => arr.getD j undef) ?_ ?_ ?_
    · simpa using this
    · intro j y hj
      obtain ⟨u, h1, _, _⟩ := hall j y hj
      simp [roCell, hf, h1, Array.getD_eq_getD_getElem?]
    · intro j y hj
      obtain ⟨u, h1, h2, _⟩ := hall j y hj
      simp [h1, h2, Array.getD_eq_getD_getElem?]
    · intro j y hj
      obtain ⟨u, h1, _, h3⟩ := hall j y hj
      simp only [Array.getD_eq_getD_getElem?, h1, Option.getD_some]
      exact pureB_sound frz_ro h3 (pureL_mem.1 hp y (List.mem_of_getElem? hj))

theorem Vw.fn {L : List AObj} {f : FuncId} {xs ys : List AV} (h : VwL L xs ys) : Vw L (.fn f xs) (.fn f ys) := by
  intro γ w v hI hv
  cases hv with
  | fn _ _ vs hn hall =>
    refine .fn _ _ _ (by rw [hn]; exact h.get.1) fun i y hy => ?_
    obtain ⟨x, hx, hxy⟩ := h.get.2 i y hy
    exact hxy γ w _ hI (hall i x hx)

/-- The lent view of values, computed. -/
def lendA (L : List AObj) : AV → Option AV
  | .ptr id off => match L[id]? with
    | some (.box _ cs) => if pureL cs then some (.rptr (.agg cs) off) else none
    | _ => none
  | .ref id [] g n => match L[id]? with
    | some (.vec _ _ g' es) => if g = g' ∧ n ≤ es.length ∧ es.all (fun e => e.cells.all fun c => pureB c && (match c with | .sl true _ => false | _ => true)) then some (.sl false (es.take n)) else none
    | _ => none
  | .fn f [] => some (.fn f [])
  | .fn f [.ptr id off] => match L[id]? with
    | some (.box _ cs) => if pureL cs then some (.fn f [.rptr (.agg cs) off]) else none
    | _ => none
  | .fn f [.ptr id off, .ptr id' off'] => match L[id]?, L[id']? with
    | some (.box _ cs), some (.box _ cs') => if pureL cs && pureL cs' then some (.fn f [.rptr (.agg cs) off, .rptr (.agg cs') off']) else none
    | _, _ => none
  | x => if pureB x then some x else none

theorem lendA_sound {L : List AObj} {x y : AV} (h : lendA L x = some y) : Vw L x y := by
  unfold lendA at h
  split at h
  · split at h
    · rename_i hL
      split at h
      · cases h; exact Vw.ptr hL (by assumption)
      · cases h
    · cases h
  · split at h
    · rename_i T sz g' es hL
      split at h
      · rename_i hc
        obtain ⟨rfl, hn, hall⟩ := hc
        cases h
        refine Vw.refPur hL hn fun e he c hcc => ?_
        have := List.all_eq_true.1 (List.all_eq_true.1 hall e he) c hcc
        simp only [Bool.and_eq_true] at this
        exact ⟨.of this.1, fun xs hx => by subst hx; simp at this⟩
      · cases h
    · cases h
  · cases h; exact .pur (.fn (by simp))
  · split at h
    · rename_i hL
      split at h
      · cases h; exact Vw.fn (.cons (Vw.ptr hL (by assumption)) .nil)
      · cases h
    · cases h
  · split at h
    · rename_i hL hL'
      split at h
      · rename_i hc
        cases h
        simp only [Bool.and_eq_true] at hc
        exact Vw.fn (.cons (Vw.ptr hL hc.1) (.cons (Vw.ptr hL' hc.2) .nil))
      · cases h
    · cases h
  · split at h
    · cases h; exact .pur (.of (by assumption))
    · cases h

theorem lendL_sound {L : List AObj} : ∀ {xs ys : List AV}, xs.mapM (lendA L) = some ys → VwL L xs ys
  | [], ys, h => by simp at h; subst h; exact .nil
  | x :: xs, ys, h => by
    simp only [List.mapM_cons, Option.bind_eq_bind, Option.bind_eq_some_iff, Option.pure_def, Option.some.injEq] at h
    obtain ⟨y, h1, zs, h2, rfl⟩ := h
    exact .cons (lendA_sound h1) (lendL_sound h2)

/-- A call that is lent what the caller owns. -/
theorem RunL.lend {P : Program} {k : Oper → Knd} {ops : Array Oper} {K : St → Prop} {o : Oper} {rest : List Oper} {s : St} {f : FuncId} {args : Array Operand} {ats : Array TypeId} {r : AV} {xs ys : List AV}
    (hg : guardA ops s o = some true) (ho : o.op = .call { callee := .value (.func f), args := args, argTypes := ats }) (hx : args.toList.map s.ev = xs) (hf : okFn P f = true) (hkd : Knd.le .C (k o) = true)
    (hl : xs.mapM (lendA s.L) = some ys) (h : Ct P f ys [] r []) (hr : flatB r = true) (hk : R P k ops rest (s.put o.dst r) K) : RunL P k ops (o :: rest) s K :=
  .call hg ho hx hf hkd (.inr ⟨[], by simp⟩) (Ct.lend h (lendL_sound hl) hr) hk

/-- A call of a closure over values. -/
theorem RunL.callcv {P : Program} {k : Oper → Knd} {ops : Array Oper} {K : St → Prop} {o : Oper} {rest : List Oper} {s : St} {x : Operand} {f : FuncId} {cap : List AV} {args : Array Operand} {ats : Array TypeId} {r : AV} {xs : List AV}
    (hg : guardA ops s o = some true) (ho : o.op = .call { callee := .value x, args := args, argTypes := ats }) (hc : s.ev x = .fn f cap) (hx : args.toList.map s.ev ++ cap = xs) (hf : okFn P f = true) (hkd : Knd.le .C (k o) = true)
    (h : Ct P f xs [] r []) (hp : pureL xs = true) (hk : R P k ops rest (s.put o.dst r) K) : RunL P k ops (o :: rest) s K :=
  .callc hg ho hc hx hf hkd (.inr ⟨[], by simp⟩) (h.frame s.L (Pur.ofL hp)) hk

/-! ### a slice that is nil, told as a row of the call's own -/
theorem AWp.nil {P : Program} {c : Code} {Q : Exit → St → Prop} {s : St} (j : Nat) (T : TypeId) (sz : Nat) (hj : s.t[j]? = some (.lit (.slice none 0 0)))
    (h : AWp P c Q ⟨s.t.set j (.ref s.L.length [] 0 0), s.L ++ [.vec T sz 0 []]⟩) : AWp P c Q s := by
  intro γ a w hr
  have hE := Ext.more γ s.L [AObj.vec T sz 0 []]
  have hI := hr.inv.moreVec T sz
  have hr' : Rel γ ⟨s.t.set j (.ref s.L.length [] 0 0), s.L ++ [AObj.vec T sz 0 []]⟩ a w := by
    have hm := hr.mono hE hI
    refine ⟨hm.defers, by simpa using hm.size, fun i x hx => ?_, hI⟩
    by_cases hij : j = i
    · subst hij
      have hlt := (List.getElem?_eq_some_iff.1 hj).1
      simp [hlt] at hx
      subst hx
      have hv := hr.tmps j _ hj
      generalize a.tmps.getD j undef = v at hv
      cases hv
      refine .ref _ _ _ _ _ ?_ rfl
      unfold RefOk
      simp only [List.getElem?_append_right (Nat.le_refl _), Nat.sub_self, List.getElem?_cons_zero]
      refine ⟨Nat.le_refl _, fun _ => ⟨[], rfl, Nat.le_refl _, .inl ⟨by trivial, by trivial, fun b c hb => ?_⟩⟩⟩
      have := hr.inv.idlt hb
      omega
    · rw [List.getElem?_set_ne hij] at hx
      exact hm.tmps i x hx
  refine wp_mono (h γ a w hr') ?_
  rintro e a' w' ⟨γ', s', h1, h2, h3, h4⟩
  exact ⟨γ', s', h1, hE.trans h2, h3, h4⟩

end Go.Proofs.Ytolfjeedgedblaa.K
