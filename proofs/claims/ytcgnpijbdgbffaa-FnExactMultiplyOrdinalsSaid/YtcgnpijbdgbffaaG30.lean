/-
  Ordinals: products.
-/
import Derived.Test.YtcgnpijbdgbffaaG27
namespace Go.Proofs.Ytcgnpijbdgbffaa.K
set_option linter.unusedVariables false
set_option linter.unusedSimpArgs false
open Go

/-- The row 'j' is never written again; all else that is owned is out of sight. -/
def frzS (j : Nat) (γ : Nat → Gh) (w : World) : Nat → Gh := fun b =>
  match γ b with
  | .ow id _ _ => if id = j then (match w.heap[b]? with | some o => .ro o | none => .out) else .out
  | x => x

theorem frzS_ro {j : Nat} {γ : Nat → Gh} {w : World} : ∀ b o, γ b = .ro o → frzS j γ w b = .ro o := by
  intro b o h; simp [frzS, h]

/-- 'x', told with what the call owns, is 'y' once the row 'j' is not written any more. -/
def VwF (j : Nat) (L : List AObj) (x y : AV) : Prop := ∀ γ w v, Inv γ L w → RV γ L x v → RV (frzS j γ w) [] y v

theorem VwF.pur {j : Nat} {L : List AObj} {x : AV} (h : pureB x = true) : VwF j L x x := fun γ w v _ hv => Pur.of h γ L _ _ v frzS_ro hv

inductive VwFL (j : Nat) (L : List AObj) : List AV → List AV → Prop where
  | nil : VwFL j L [] []
  | cons {x y : AV} {xs ys : List AV} (h : VwF j L x y) (k : VwFL j L xs ys) : VwFL j L (x :: xs) (y :: ys)

theorem VwFL.get {j : Nat} {L : List AObj} {xs ys : List AV} (h : VwFL j L xs ys) : xs.length = ys.length ∧ ∀ (i : Nat) y, ys[i]? = some y → ∃ x, xs[i]? = some x ∧ VwF j L x y := by
  induction h with
  | nil => exact ⟨rfl, fun i y h => by simp at h⟩
  | cons h k ih =>
    refine ⟨by simp [ih.1], fun i y hi => ?_⟩
    cases i with
    | zero => simp at hi; subst hi; exact ⟨_, rfl, h⟩
    | succ i => simpa using ih.2 i y (by simpa using hi)

theorem VwF.agg {j : Nat} {L : List AObj} {xs ys : List AV} (h : VwFL j L xs ys) : VwF j L (.agg xs) (.agg ys) := by
  intro γ w v hI hv
  cases hv with
  | agg _ vs hn h1 h2 =>
    refine .agg _ _ (by rw [hn, h.get.1]) h1 fun i y hy => ?_
    obtain ⟨x, hx, hxy⟩ := h.get.2 i y hy
    exact hxy γ w _ hI (h2 i x hx)

theorem VwF.ref {id : Nat} {L : List AObj} {g n : Nat} {T : TypeId} {sz : Nat} {es : List AV} {o : Bool} (hL : L[id]? = some (.vec T sz g es)) (hn : n ≤ es.length)
    (hp : ∀ e ∈ es, ∀ c ∈ e.cells, Pur c ∧ ∀ xs, c ≠ .sl true xs) : VwF id L (.ref id [] g n) (.sl o (es.take n)) := by
  intro γ w v hI hv
  have hv1 := Vw.refPur (o := o) hL hn hp γ w v hI hv
  cases hv with
  | ref _ _ _ _ _ hok ho =>
    obtain ⟨_, _, _, es2, hL2, hs2, hn2, hv⟩ := hok.form (by simp [eptrNow, hL])
    rw [hL] at hL2; cases hL2
    simp only [sub, Option.some.injEq] at hs2
    subst hs2
    rcases hv with ⟨rfl, rfl, rfl, _⟩ | ⟨b, c, rfl, hb⟩
    · simp only [List.take_nil]
      exact .sl _ _ _ 0 0 0 (fun _ _ => undef) rfl (Nat.le_refl _) (by simp) (by simp) (by simp) (by simp)
    · obtain ⟨ob, hob, _⟩ := hI.ow _ _ _ _ hb
      generalize hA : (some (⟨b, 0, none⟩ : Addr)) = A at hv1
      cases hv1 with
      | sl _ _ _ _ _ s vals hn' hc' hsz h2 h1 h3 =>
        refine .sl _ _ _ _ _ s vals hn' hc' hsz ?_ h1 ?_
        · intro i e k x hi hk
          have := h2 i e k x hi hk
          rw [← hA] at this ⊢
          simp only [roCell, frz, frzS, hb, hob, if_true] at this ⊢
          exact this
        · intro i e k x hi hk
          have h0 := h3 i e k x hi hk
          have hi' : es[i]? = some e := by
            rw [List.getElem?_take] at hi
            split at hi
            · exact hi
            · cases hi
          obtain ⟨arr, s', T', harr, _, _, _, _, hrow⟩ := hI.rowCell hL rfl hb
          obtain ⟨u, u1, u2, u3⟩ := hrow.2 i e k x hi' hk
          obtain ⟨q1, q2⟩ := hp e (List.mem_of_getElem? hi') x (List.mem_of_getElem? hk)
          have hu : RV γ L x u := by
            unfold CV at u3
            split at u3
            · rename_i xs; exact absurd rfl (q2 xs)
            · exact u3
          have h4 := h2 i e k x hi hk
          rw [← hA] at h4
          simp only [roCell, frz, hb, harr, Nat.zero_add] at h4
          have hss : s' = s := by
            rw [← hrow.1 e (List.mem_of_getElem? hi'), ← hsz e (List.mem_of_getElem? hi)]
          subst hss
          rw [u1] at h4; cases h4
          exact q1 γ L _ _ _ frzS_ro hu

/-- A call whose result may share the row 'j'; the caller gives that row away. -/
theorem Ct.give {P : Program} {f : FuncId} {xs ys : List AV} {r : AV} {L : List AObj} {j : Nat} {T : TypeId} {sz g : Nat} {es : List AV} (hj : L[j]? = some (.vec T sz g es)) (h : Ct P f ys [] r []) (hy : VwFL j L xs ys) :
    Ct P f xs L r (L.set j .dead) := by
  intro γ w vs hI ha
  have hjl := (List.getElem?_eq_some_iff.1 hj).1
  have hno : ∀ b id p c, frzS j γ w b ≠ .ow id p c := by
    intro b id p c hb
    unfold frzS at hb
    split at hb
    · split at hb
      · split at hb <;> cases hb
      · cases hb
    · rename_i hne; exact hne _ _ _ hb
  have hI0 : Inv (frzS j γ w) [] w := by
    refine ⟨fun b o hb => ?_, fun b id p c hb => absurd hb (hno _ _ _ _), fun b b' id p c c' hb => absurd hb (hno _ _ _ _), fun id T cs hL => by simp at hL, fun id kt vt es hL => by simp at hL⟩
    unfold frzS at hb
    split at hb
    · split at hb
      · split at hb
        · rename_i o' ho'; cases hb; exact ho'
        · cases hb
      · cases hb
    · exact hI.ro b o hb
  have ha0 : ArgsR (frzS j γ w) [] ys vs := by
    refine ⟨by rw [ha.1]; exact hy.get.1, fun i y hi => ?_⟩
    obtain ⟨x, hx, hxy⟩ := hy.get.2 i y hi
    exact hxy γ w _ hI (ha.2 i x hx)
  refine (h (frzS j γ w) w vs hI0 ha0).mono ?_
  rintro e w' ⟨γ1, v, rfl, hI1, hv, _, hS⟩
  let γ' : Nat → Gh := fun b => match γ b with | .ow id p c => if id = j then γ1 b else .ow id p c | _ => γ1 b
  have hno1 : ∀ b id p c, γ1 b ≠ .ow id p c := by
    intro b id p c hb
    have := hI1.idlt hb
    simp at this
  have hA : ∀ {b id p c}, γ b = .ow id p c → id ≠ j → γ' b = .ow id p c ∧ γ1 b = .out ∧ w'.heap[b]? = w.heap[b]? := by
    intro b id p c hb hne
    obtain ⟨o, ho, _⟩ := hI.ow _ _ _ _ hb
    obtain ⟨h1, h2⟩ := hS.out b (List.getElem?_eq_some_iff.1 (by simpa using ho)).1 (by simp [frzS, hb, hne])
    exact ⟨by simp [γ', hb, hne], h1, h2⟩
  have hB : ∀ {b p c}, γ b = .ow j p c → γ' b = γ1 b ∧ ∃ o, γ1 b = .ro o := by
    intro b p c hb
    obtain ⟨o, ho, _⟩ := hI.ow _ _ _ _ hb
    exact ⟨by simp [γ', hb], o, hS.ro b o (by simp [frzS, hb, ho])⟩
  have hC : ∀ {b}, (∀ id p c, γ b ≠ .ow id p c) → γ' b = γ1 b := by
    intro b hb
    cases hg : γ b with
    | ow id p c => exact absurd hg (hb id p c)
    | out => simp [γ', hg]
    | ro o => simp [γ', hg]
  have h3 : ∀ {b id p c}, γ' b = .ow id p c → γ b = .ow id p c ∧ id ≠ j := by
    intro b id p c hb
    by_cases hx : ∃ id p c, γ b = .ow id p c
    · obtain ⟨id', p', c', he⟩ := hx
      by_cases hij : id' = j
      · subst hij; rw [(hB he).1] at hb; exact absurd hb (hno1 _ _ _ _)
      · rw [(hA he hij).1] at hb; cases hb; exact ⟨he, hij⟩
    · rw [hC (fun id p c he => hx ⟨id, p, c, he⟩)] at hb
      exact absurd hb (hno1 _ _ _ _)
  have h4 : ∀ b o, γ' b = .ro o → γ1 b = .ro o := by
    intro b o hb
    by_cases hx : ∃ id p c, γ b = .ow id p c
    · obtain ⟨id', p', c', he⟩ := hx
      by_cases hij : id' = j
      · subst hij; rw [(hB he).1] at hb; exact hb
      · rw [(hA he hij).1] at hb; cases hb
    · rw [hC (fun id p c he => hx ⟨id, p, c, he⟩)] at hb; exact hb
  have h5 : ∀ b o, γ1 b = .ro o → γ' b = .ro o := by
    intro b o hb
    by_cases hx : ∃ id p c, γ b = .ow id p c
    · obtain ⟨id', p', c', he⟩ := hx
      by_cases hij : id' = j
      · subst hij; rw [(hB he).1]; exact hb
      · rw [(hA he hij).2.1] at hb; cases hb
    · rw [hC (fun id p c he => hx ⟨id, p, c, he⟩)]; exact hb
  have hro : ∀ b o, γ b = .ro o → γ' b = .ro o := by
    intro b o hb
    rw [hC (fun id p c he => by rw [hb] at he; cases he)]
    exact hS.ro b o (frzS_ro b o hb)
  have hset : ∀ {id : Nat}, id ≠ j → (L.set j AObj.dead)[id]? = L[id]? := fun {id} hne => List.getElem?_set_ne (fun e => hne e.symm)
  have hself : (L.set j AObj.dead)[j]? = some .dead := List.getElem?_set_self hjl
  have hE : Ext γ L γ' (L.set j .dead) := by
    refine ⟨hro, fun id o hL => ?_, fun b id p c hb => ?_, fun id T1 sz1 g1 es1 T' sz' es' hL hL' p e1 _ b c hb => (h3 hb).1⟩
    · by_cases hij : id = j
      · subst hij; rw [hj] at hL; cases hL; exact ⟨_, hself, trivial⟩
      · exact ⟨o, by rw [hset hij]; exact hL, OStep.refl o⟩
    · by_cases hij : id = j
      · subst hij
        refine .inr fun o hL => ?_
        rw [hj] at hL; cases hL
        exact ⟨_, _, _, _, rfl, fun T' sz' es' hL' => by rw [hself] at hL'; cases hL'⟩
      · exact .inl (hA hb hij).1
  refine ⟨γ', v, rfl, ⟨fun b o hb => hI1.ro b o (h4 b o hb), fun b id p c hb => ?_, fun b b' id p c c' hb hb' => hI.inj _ _ _ _ _ _ (h3 hb).1 (h3 hb').1, fun id T cs hL => ?_, fun id kt vt es hL => ?_⟩, RV.lift h5 hv, hE, ?_⟩
  · obtain ⟨hb0, hne⟩ := h3 hb
    obtain ⟨o, ho, hrep⟩ := hI.ow _ _ _ _ hb0
    refine ⟨o, by rw [(hA hb0 hne).2.2]; exact ho, ?_⟩
    exact BlockRep.keep hE (hset hne) (fun b p c hb => (hA hb hne).1) (fun b p c hb => (h3 hb).1) hrep
  · by_cases hij : id = j
    · subst hij; rw [hself] at hL; cases hL
    · rw [hset hij] at hL
      obtain ⟨b, c, hb⟩ := hI.box _ _ _ hL
      exact ⟨b, c, (hA hb hij).1⟩
  · by_cases hij : id = j
    · subst hij; rw [hself] at hL; cases hL
    · rw [hset hij] at hL
      obtain ⟨b, c, hb⟩ := hI.map _ _ _ _ hL
      exact ⟨b, c, (hA hb hij).1⟩
  · refine ⟨hS.os, hS.tape, hS.output, hS.size, hE.ro, fun b hb ho => ?_⟩
    have := hS.out b hb (by simp [frzS, ho])
    exact ⟨by rw [hC (fun id p c he => by rw [ho] at he; cases he)]; exact this.1, this.2⟩

theorem RunL.give {P : Program} {k : Oper → Knd} {ops : Array Oper} {K : St → Prop} {o : Oper} {rest : List Oper} {s : St} {f : FuncId} {args : Array Operand} {ats : Array TypeId} {r : AV} {xs ys : List AV} {j : Nat}
    (hg : guardA ops s o = some true) (ho : o.op = .call { callee := .value (.func f), args := args, argTypes := ats }) (hf : okFn P f = true) (hkd : Knd.le .C (k o) = true) (hal : isAlloc k o = false)
    (h : Ct P f ys [] r []) (hj : ∃ T sz g es, s.L[j]? = some (.vec T sz g es)) (hy : VwFL j s.L xs ys) (hx : args.toList.map s.ev = xs) (hk : R P k ops rest ({ s with L := s.L.set j .dead }.put o.dst r) K) : RunL P k ops (o :: rest) s K :=
  by obtain ⟨T, sz, g, es, hj⟩ := hj; exact RunL.call hg ho hx hf hkd (.inl hal) (Ct.give hj h hy) hk

end Go.Proofs.Ytcgnpijbdgbffaa.K

namespace Go.Proofs.Ytcgnpijbdgbffaa.K
set_option linter.unusedVariables false
set_option linter.unusedSimpArgs false
open Go Go.RowKit

theorem AWp.nilS {P : Program} {c : Code} {Q : Exit → St → Prop} {s : St} (id j : Nat) {T0 : TypeId} {cs : List AV} (hL : s.L[id]? = some (.box T0 cs)) (hj : cs[j]? = some (.lit (.slice none 0 0)))
    (h : AWp P c Q ⟨s.t, s.L.set id (.box T0 (cs.set j (.sl false [])))⟩) : AWp P c Q s := by
  intro γ a w hr
  have hlt := (List.getElem?_eq_some_iff.1 hL).1
  have hE : Ext γ s.L γ (s.L.set id (.box T0 (cs.set j (.sl false [])))) := .set hL ⟨rfl, by simp⟩
  have hI : Inv γ (s.L.set id (.box T0 (cs.set j (.sl false [])))) w := by
    refine ⟨hr.inv.ro, fun b id1 p c hb => ?_, hr.inv.inj, fun id1 T1 cs1 hL1 => ?_, fun id1 kt vt es hL1 => ?_⟩
    · obtain ⟨o, ho, hrep⟩ := hr.inv.ow _ _ _ _ hb
      refine ⟨o, ho, ?_⟩
      by_cases hi : id1 = id
      · subst hi
        unfold BlockRep at hrep ⊢
        simp only [hL] at hrep
        simp only [List.getElem?_set_self hlt]
        obtain ⟨h1, arr, h2, h3, h4⟩ := hrep
        refine ⟨h1, arr, h2, by simpa using h3, fun k x hx => ?_⟩
        by_cases hjk : j = k
        · subst hjk
          have hjl := (List.getElem?_eq_some_iff.1 hj).1
          simp [hjl] at hx
          subst hx
          obtain ⟨v, a1, a2, a3⟩ := h4 j _ hj
          refine ⟨v, a1, a2, ?_⟩
          cases a3
          exact .sl _ _ _ 0 0 0 (fun _ _ => undef) rfl (Nat.le_refl _) (by simp) (by simp) (by simp) (by simp)
        · rw [List.getElem?_set_ne hjk] at hx
          obtain ⟨v, a1, a2, a3⟩ := h4 k x hx
          exact ⟨v, a1, a2, a3.mono hE⟩
      · exact hrep.upd hE (List.getElem?_set_ne (fun e => hi e.symm))
    · by_cases hi2 : id = id1
      · subst hi2; exact hr.inv.box _ _ _ hL
      · rw [List.getElem?_set_ne hi2] at hL1; exact hr.inv.box _ _ _ hL1
    · by_cases hi2 : id = id1
      · subst hi2; simp [hlt] at hL1
      · rw [List.getElem?_set_ne hi2] at hL1; exact hr.inv.map _ _ _ _ hL1
  have hr' := hr.mono hE hI
  refine wp_mono (h γ a w hr') ?_
  rintro e a' w' ⟨γ', s', h1, h2, h3, h4⟩
  exact ⟨γ', s', h1, hE.trans h2, h3, h4⟩

theorem RunL.callp_ex {P : Program} {k : Oper → Knd} {ops : Array Oper} {K : AV → List AObj → St → Prop} {Z : AV → List AObj → Prop} {o : Oper} {rest : List Oper} {s : St} {f : FuncId} {args : Array Operand} {ats : Array TypeId} {r : AV} {xs : List AV}
    (hg : guardA ops s o = some true) (ho : o.op = .call { callee := .value (.func f), args := args, argTypes := ats }) (hf : okFn P f = true)
    (h : Ct P f xs [] r []) (hp : pureL xs = true) (hx : args.toList.map s.ev = xs) (hk : ∃ q L', R P k ops rest (s.put o.dst r) (K q L') ∧ Z q L') : ∃ q L', RunL P k ops (o :: rest) s (K q L') ∧ Z q L' := by
  obtain ⟨q, L', h1, h2⟩ := hk
  exact ⟨q, L', .callp hg ho hf h hp hx h1, h2⟩
theorem AWp.nilS_ex {P : Program} {c : Code} {Kq : AV → List AObj → Exit → St → Prop} {Z : AV → List AObj → Prop} {s : St} (id j : Nat) {T0 : TypeId} {cs : List AV} (hL : s.L[id]? = some (.box T0 cs)) (hj : cs[j]? = some (.lit (.slice none 0 0)))
    (h : ∃ r L', AWp P c (Kq r L') ⟨s.t, s.L.set id (.box T0 (cs.set j (.sl false [])))⟩ ∧ Z r L') : ∃ r L', AWp P c (Kq r L') s ∧ Z r L' := by
  obtain ⟨r, L', h1, h2⟩ := h
  exact ⟨r, L', AWp.nilS id j hL hj h1, h2⟩

end Go.Proofs.Ytcgnpijbdgbffaa.K

namespace Go.Proofs.Ytcgnpijbdgbffaa
open Go K Od
set_option linter.unusedSimpArgs false
set_option linter.unusedVariables false
set_option maxHeartbeats 1600000
set_option maxRecDepth 8000

theorem cmp_swap {a b : Od} (h : cmpT a b < 0) : 0 < cmpT b a := by have := cmpT_anti a b; omega
theorem cmp_head {e e' r r' : Od} {c c' : Int} (h : 0 < cmpT e e') : 0 < cmpT (.cons e c r) (.cons e' c' r') := by
  rw [cmpT_cons, if_pos (by omega)]; exact h
theorem cmp_coef {e r r' : Od} {c c' : Int} (h : c' < c) : 0 < cmpT (.cons e c r) (.cons e c' r') := by
  rw [cmpT_cons, cmpT_refl, if_neg (by omega), if_pos (by omega)]; unfold cmpI; omega
theorem cmp_tail {e r r' : Od} {c : Int} : cmpT (.cons e c r) (.cons e c r') = cmpT r r' := by
  rw [cmpT_cons, cmpT_refl, if_neg (by omega), if_neg (by simp)]
/-- What is added on the right counts. -/
theorem plus_mono {f s' : Od} {m : Int} (hm : 1 ≤ m) : ∀ {a t : Od} {p : Option Od}, desc p a → 0 < cmpT (.cons f m s') t → 0 < cmpT (plusT a (.cons f m s')) (plusT a t)
  | .nil, .nil, _, _, h => h
  | .nil, .cons g n t', _, _, h => h
  | .cons x k q, .nil, p, hd, h => by
    have ih := plus_mono (f := f) (s' := s') hm (a := q) (t := .nil) hd.2 (by simp [cmpT])
    simp only [plusT, plusA] at ih ⊢
    rcases Int.lt_trichotomy (cmpT x f) 0 with h1 | h1 | h1
    · rw [if_neg (by omega), if_neg (by omega), plusA_all hd.2 (Int.le_of_lt h1)]
      exact cmp_head (cmp_swap h1)
    · rw [if_neg (by omega), if_pos h1]
      exact cmp_coef (by omega)
    · rw [if_pos h1, cmp_tail]; exact ih
  | .cons x k q, .cons g n t', p, hd, h => by
    have ih := plus_mono hm (a := q) (t := .cons g n t') hd.2 h
    simp only [plusT, plusA] at ih ⊢
    have hfg : cmpT f g = 0 ∨ 0 < cmpT f g := by
      rw [cmpT_cons] at h
      by_cases q1 : cmpT f g = 0
      · exact .inl q1
      · rw [if_pos q1] at h; exact .inr h
    rcases Int.lt_trichotomy (cmpT x f) 0 with h1 | h1 | h1
    · rw [if_neg (show ¬ 0 < cmpT x f by omega), if_neg (show ¬ cmpT x f = 0 by omega), plusA_all hd.2 (Int.le_of_lt h1)]
      rcases Int.lt_trichotomy (cmpT x g) 0 with g1 | g1 | g1
      · rw [if_neg (show ¬ 0 < cmpT x g by omega), if_neg (show ¬ cmpT x g = 0 by omega), plusA_all hd.2 (Int.le_of_lt g1)]; exact h
      · rw [if_neg (show ¬ 0 < cmpT x g by omega), if_pos g1]; exact cmp_head (cmp_swap h1)
      · rw [if_pos g1]; exact cmp_head (cmp_swap h1)
    · have hx := cmpT_zero h1
      subst hx
      rw [if_neg (show ¬ 0 < cmpT x x by omega), if_pos h1]
      rcases hfg with h2 | h2
      · have hg := cmpT_zero h2
        subst hg
        rw [if_neg (show ¬ 0 < cmpT x x by omega), if_pos h1]
        rw [cmpT_cons, h1, if_neg (by omega)] at h
        by_cases hmn : m = n
        · subst hmn
          rw [if_neg (by simp)] at h
          rw [cmp_tail]; exact h
        · rw [if_pos hmn] at h
          exact cmp_coef (by unfold cmpI at h; omega)
      · rw [if_pos h2]; exact cmp_coef (by omega)
    · have h2 : 0 < cmpT x g := by
        rcases hfg with h2 | h2
        · have := cmpT_zero h2; subst this; exact h1
        · exact cmpT_trans h1 h2
      rw [if_pos h1, if_pos h2, cmp_tail]; exact ih

/-! ### products -/
def prodI (e : Od) (c : Int) (r : Od) : Od → Od
  | .nil => .nil
  | .cons t k q => if isZ t then (Od.cons e (c * k) r).app (prodI e c r q) else .cons (plusT e t) k (prodI e c r q)
def prodT : Od → Od → Od
  | .nil, _ => .nil
  | .cons e c r, b => prodI e c r b
/-- What the reference adds for a term. -/
def partP (e : Od) (c : Int) (r t : Od) (k : Int) : Od := if isZ t then .cons e (c * k) r else .cons (plusT e t) k .nil
def timesO (e : Od) (c : Int) (r : Od) : Od → Od → Od
  | o, .nil => o
  | o, .cons t k q => timesO e c r (odPlusT o (partP e c r t k)) q
theorem prodI_cons (e r t q : Od) (c k : Int) : prodI e c r (.cons t k q) = (partP e c r t k).app (prodI e c r q) := by
  unfold partP
  simp only [prodI]
  split <;> rfl
theorem timesO_cons (e r o t q : Od) (c k : Int) : timesO e c r o (.cons t k q) = timesO e c r (odPlusT o (partP e c r t k)) q := rfl

/-- The first coefficients of the exponents are at least 1. -/
def pos1 : Od → Prop
  | .nil => True
  | .cons _ c _ => 1 ≤ c
def pos1T : Od → Prop
  | .nil => True
  | .cons e _ r => pos1 e ∧ pos1T r
theorem prodI_app (e r : Od) (c : Int) : ∀ d q : Od, prodI e c r (d.app q) = (prodI e c r d).app (prodI e c r q)
  | .nil, q => rfl
  | .cons t k d, q => by
    show prodI e c r (.cons t k (d.app q)) = _
    rw [prodI_cons, prodI_cons, prodI_app e r c d q, app_assoc]
theorem desc_app : ∀ {d q : Od} {p : Option Od}, desc p (d.app q) → ∃ p, desc p q
  | .nil, _, p, h => ⟨p, h⟩
  | .cons _ _ d, _, _, h => desc_app (d := d) h.2
theorem pos_app : ∀ {d q : Od}, pos1T (d.app q) → pos1T q
  | .nil, _, h => h
  | .cons _ _ d, _, h => pos_app (d := d) h.2
theorem part_desc {e r t : Od} {c k : Int} (hr : desc (some e) r) : desc none (partP e c r t k) := by
  unfold partP
  split
  · exact ⟨rfl, hr⟩
  · exact ⟨rfl, trivial⟩
/-- One step of the reference. -/
theorem prod_step {e r d t q : Od} {c k : Int} (he : desc none e) (hr : desc (some e) r) (hb : desc none (d.app (.cons t k q))) (hp : pos1T (d.app (.cons t k q))) :
    odPlusT (prodI e c r d) (partP e c r t k) = prodI e c r (d.app (.cons t k .nil)) := by
  rw [prodI_app, prodI_cons]
  show _ = (prodI e c r d).app ((partP e c r t k).app .nil)
  rw [app_nil]
  rcases od_last d with rfl | ⟨d1, u, n, rfl⟩
  · show odPlusT .nil (partP e c r t k) = partP e c r t k
    rw [plus_eq (p := none) (q := none) (show desc none Od.nil from trivial) (part_desc hr)]
    unfold partP
    split <;> rfl
  · rw [app_assoc] at hb hp
    obtain ⟨p, h1⟩ := desc_app hb
    have h2 : pos1T (.cons u n (.cons t k q)) := pos_app hp
    have hlt : 0 < cmpT u t := by
      have h3 : below (some u) t = true := h1.2.1
      simpa [below] using h3
    have hu : isZ u = false := by
      cases u with
      | nil => cases t <;> simp [cmpT] at hlt
      | cons _ _ _ => rfl
    obtain ⟨f, m, s, hs, hm⟩ : ∃ f m s, u = Od.cons f m s ∧ 1 ≤ m := by
      cases u with
      | nil => simp [isZ] at hu
      | cons f m s => exact ⟨f, m, s, rfl, h2.1⟩
    have hmo : 0 < cmpT (plusT e u) (plusT e t) := by
      rw [hs] at hlt ⊢
      exact plus_mono hm he hlt
    have hx : prodI e c r (d1.app (.cons u n .nil)) = (prodI e c r d1).app (.cons (plusT e u) n .nil) := by
      rw [prodI_app, prodI_cons]
      show (prodI e c r d1).app ((partP e c r u n).app .nil) = _
      rw [app_nil]; simp [partP, hu]
    have hd : desc (some (plusT e u)) (partP e c r t k) := by
      unfold partP
      cases ht : isZ t
      · exact ⟨by simpa [below] using hmo, trivial⟩
      · have := isZ_nil ht
        subst this
        have h4 : 0 < cmpT (plusT e u) e := hmo
        exact ⟨by simpa [below] using h4, hr⟩
    rw [hx, odPlus_end _ n hd, app_assoc]; rfl
theorem prodI_sz (e r : Od) (c : Int) (h : e.sz + r.sz ≤ 29) : ∀ b : Od, (prodI e c r b).sz ≤ 60 * b.len + b.sz
  | .nil => by simp [prodI, sz]
  | .cons t k q => by
    have h1 := prodI_sz e r c h q
    have h2 := plusT_sz e t
    rw [prodI_cons, sz_app]
    unfold partP
    simp only [len, sz]
    split
    · simp only [sz]; omega
    · simp only [sz]; omega
theorem plusA_rngW {f s : Od} {m : Int} (hs : rng (.cons f m s)) : ∀ {a : Od}, rng a → rngW (plusA f m s a)
  | .nil, _ => rngW_of hs
  | .cons x k q, h => by
    have ih := plusA_rngW hs h.2.2.2
    have h1 := h.1
    have h2 := h.2.1
    have h3 := hs.1
    have h4 := hs.2.1
    simp only [plusA]
    split
    · exact ⟨by omega, by omega, rngW_of h.2.2.1, ih⟩
    · split
      · exact ⟨by omega, by omega, rngW_of h.2.2.1, rngW_of hs.2.2.2⟩
      · exact ih
theorem plusT_rngW {a b : Od} (ha : rng a) (hb : rng b) : rngW (plusT a b) := by
  cases b with
  | nil => exact rngW_of ha
  | cons f m s => exact plusA_rngW hb ha
theorem bnd_ofW {m : Int} {a : Od} (h : bndW m a) (hm : m ≤ m) : bndW m a := h
theorem plus_okG (a b : Od) (ha : a.sz ≤ 1048576) (hb : b.sz ≤ 1048576) (ra : rng a) (rb : rng b) : Ct Try.prog 69 [av a, av b] [] (av (plusT a b)) [] :=
  plus_ok a b ha hb (m := 1000000) (by omega) (rng_bnd ra ha) (rng_bnd rb hb)

/-! ### the program's -/
structure PrS where
  d : Od
  q : Od
  g : Nat
  X : List AObj

theorem product_ok (a b : Od) (ha : a.sz ≤ 29) (hb : b.sz ≤ 29) (ra : rng a) (rb : rng b) : Ct Try.prog 76 [av a, av b] [] (av (prodT a b)) [] := by
  cases a with
  | nil =>
    refine Ct.by_ hmix [] Try.func76 rfl ?_
    simp only [run0, run1, run2, run3, run4, run5, run6, run7, run8, run9, run10, run11, run12, run13, run14, run15, run16, run17, run18, run19, run20, run21, run22, reduceCtorEq, Nat.reduceEqDiff, Nat.reduceAdd, Nat.reduceSub, Nat.reduceLeDiff, indexAddrA, indexRefA, appendA, strA, Nat.reduceMul, Nat.zero_mul, Nat.reduceMod, Int.reduceEq, Int.reduceLT, Int.reduceLE, Nat.reduceLT, Nat.lt_irrefl, Nat.reduceBEq, tys0, tys1, tys2, tys3, tys4, tys5, tys6, tys7, tys8, tys9, tys10, Try.ntmps76, Try.results76, av]
    refine RunL.callp rfl rfl ok_f57 (isZero_ok .nil) (by first | rfl | simp only [pureL, pureB, Bool.and_self, Bool.and_true, Bool.true_and, Od.elems_pure, Od.pay_pure, Od.av_pure]) rfl ?_
    simp only [run0, run1, run2, run3, run4, run5, run6, run7, run8, run9, run10, run11, run12, run13, run14, run15, run16, run17, run18, run19, run20, run21, run22, reduceCtorEq, Nat.reduceEqDiff, Nat.reduceAdd, Nat.reduceSub, Nat.reduceLeDiff, indexAddrA, indexRefA, appendA, strA, Nat.reduceMul, Nat.zero_mul, Nat.reduceMod, Int.reduceEq, Int.reduceLT, Int.reduceLE, Nat.reduceLT, Nat.lt_irrefl, Nat.reduceBEq, tys0, tys1, tys2, tys3, tys4, tys5, tys6, tys7, tys8, tys9, tys10, Try.ntmps76, Try.results76, isZ]
    exact Fin.value (Vw.agg (.cons (Vw.nil false) .nil))
  | cons e c r =>
    have hla := len_le (.cons e c r)
    have hlb := len_le b
    have hel : elems (.cons e c r) = .agg [.sl false (elems e), .int .i64 c] :: elems r := rfl
    have hzs : e.sz + r.sz ≤ 29 := by simp only [sz] at ha; omega
    have hl1 : (Od.cons e c r).len = r.len + 1 := rfl
    have hz : isZ (.cons e c r) = false := rfl
    have hdg : degT (.cons e c r) = e := rfl
    have ra' := ra
    have hpt : prodT (.cons e c r) b = prodI e c r b := rfl
    rw [hpt]
    generalize hae : (Od.cons e c r) = a at *
    refine Ct.by_ hmix [] Try.func76 rfl ?_
    simp only [run0, run1, run2, run3, run4, run5, run6, run7, run8, run9, run10, run11, run12, run13, run14, run15, run16, run17, run18, run19, run20, run21, run22, reduceCtorEq, Nat.reduceEqDiff, Nat.reduceAdd, Nat.reduceSub, Nat.reduceLeDiff, indexAddrA, indexRefA, appendA, strA, Nat.reduceMul, Nat.zero_mul, Nat.reduceMod, Int.reduceEq, Int.reduceLT, Int.reduceLE, Nat.reduceLT, Nat.lt_irrefl, Nat.reduceBEq, tys0, tys1, tys2, tys3, tys4, tys5, tys6, tys7, tys8, tys9, tys10, Try.ntmps76, Try.results76, av]
    refine RunL.callp rfl rfl ok_f57 (isZero_ok a) (by first | rfl | simp only [pureL, pureB, Bool.and_self, Bool.and_true, Bool.true_and, Od.elems_pure, Od.pay_pure, Od.av_pure]) rfl ?_
    simp only [run0, run1, run2, run3, run4, run5, run6, run7, run8, run9, run10, run11, run12, run13, run14, run15, run16, run17, run18, run19, run20, run21, run22, reduceCtorEq, Nat.reduceEqDiff, Nat.reduceAdd, Nat.reduceSub, Nat.reduceLeDiff, indexAddrA, indexRefA, appendA, strA, Nat.reduceMul, Nat.zero_mul, Nat.reduceMod, Int.reduceEq, Int.reduceLT, Int.reduceLE, Nat.reduceLT, Nat.lt_irrefl, Nat.reduceBEq, tys0, tys1, tys2, tys3, tys4, tys5, tys6, tys7, tys8, tys9, tys10, Try.ntmps76, Try.results76, hz, elems_length]
    refine AWp.nilB 3 0 53 2 rfl rfl ?_
    simp only [run0, run1, run2, run3, run4, run5, run6, run7, run8, run9, run10, run11, run12, run13, run14, run15, run16, run17, run18, run19, run20, run21, run22, reduceCtorEq, Nat.reduceEqDiff, Nat.reduceAdd, Nat.reduceSub, Nat.reduceLeDiff, indexAddrA, indexRefA, appendA, strA, Nat.reduceMul, Nat.zero_mul, Nat.reduceMod, Int.reduceEq, Int.reduceLT, Int.reduceLE, Nat.reduceLT, Nat.lt_irrefl, Nat.reduceBEq, tys0, tys1, tys2, tys3, tys4, tys5, tys6, tys7, tys8, tys9, tys10, Try.ntmps76, Try.results76]
    refine AWp.loop_inv (ι := PrS) (fun p => ⟨[.agg [.sl false (elems a)], .agg [.sl false (elems b)], .ptr 0 0, .ptr 1 0, .ptr 2 0, .ptr 3 0, .junk, .junk, .junk, .junk, .junk, .junk, .junk, .sl false (elems b), .int .i64 b.len, .int .i64 p.d.len, .junk, .junk, .junk, .junk, .junk, .junk, .junk, .junk, .junk, .junk, .junk, .junk, .junk, .junk, .junk, .junk, .junk, .junk, .junk, .junk, .junk, .junk, .junk, .junk, .junk, .junk, .junk, .junk, .junk, .junk, .junk, .junk, .junk, .junk, .junk, .junk, .junk, .junk, .junk, .junk, .junk, .junk, .junk, .junk, .junk],
        .box 29 [.sl false (elems a)] :: .box 29 [.sl false (elems b)] :: .box 29 [nilV] :: .box 29 [.ref 4 [] p.g (prodI e c r p.d).len] :: .vec 53 2 p.g (elems (prodI e c r p.d)) :: p.X⟩)
      (fun p => b = p.d.app p.q) (fun p => p.q.len) ⟨.nil, b, 0, []⟩ rfl ⟨by simp only [len, Int.natCast_zero]; repeat constructor, rfl⟩ ?_
    rintro ⟨d, q, g, X⟩ h1
    simp only at h1
    refine W.sound hmix (E := []) ?_
    have hds : d.sz ≤ b.sz := by rw [h1, sz_app]; omega
    have hdl : d.len ≤ b.len := by rw [h1, len_app]; omega
    have hps := prodI_sz e r c hzs d
    have hpl := len_le (prodI e c r d)
    have f3 : (prodI e c r d).len ≤ 137438953471 := by omega
    have f4 := elems_noOwn (prodI e c r d)
    cases q with
    | nil =>
      obtain ⟨e1, rfl⟩ := od_end h1
      simp only [run0, run1, run2, run3, run4, run5, run6, run7, run8, run9, run10, run11, run12, run13, run14, run15, run16, run17, run18, run19, run20, run21, run22, reduceCtorEq, Nat.reduceEqDiff, Nat.reduceAdd, Nat.reduceSub, Nat.reduceLeDiff, indexAddrA, indexRefA, appendA, strA, Nat.reduceMul, Nat.zero_mul, Nat.reduceMod, Int.reduceEq, Int.reduceLT, Int.reduceLE, Nat.reduceLT, Nat.lt_irrefl, Nat.reduceBEq, tys0, tys1, tys2, tys3, tys4, tys5, tys6, tys7, tys8, tys9, tys10, Try.ntmps76, Try.results76, elems_length, e1]
      exact Fin.value (Vw.agg (.cons (Vw_elems (T := 53) rfl rfl rfl) .nil))
    | cons t k q =>
      obtain ⟨e1, e2, e5, hlt, hn, _⟩ := od_step h1 (by omega)
      have rt : rng (.cons t k q) := by rw [h1] at rb; exact rng_app rb
      simp only [run0, run1, run2, run3, run4, run5, run6, run7, run8, run9, run10, run11, run12, run13, run14, run15, run16, run17, run18, run19, run20, run21, run22, reduceCtorEq, Nat.reduceEqDiff, Nat.reduceAdd, Nat.reduceSub, Nat.reduceLeDiff, indexAddrA, indexRefA, appendA, strA, Nat.reduceMul, Nat.zero_mul, Nat.reduceMod, Int.reduceEq, Int.reduceLT, Int.reduceLE, Nat.reduceLT, Nat.lt_irrefl, Nat.reduceBEq, tys0, tys1, tys2, tys3, tys4, tys5, tys6, tys7, tys8, tys9, tys10, Try.ntmps76, Try.results76, elems_length, e1, e2, Int.toNat_natCast, Int.natCast_nonneg]
      refine RunL.callp rfl rfl ok_f57 (isZero_ok t) (by first | rfl | simp only [pureL, pureB, Bool.and_self, Bool.and_true, Bool.true_and, Od.elems_pure, Od.pay_pure, Od.av_pure]) rfl ?_
      cases ht : isZ t
      · simp only [run0, run1, run2, run3, run4, run5, run6, run7, run8, run9, run10, run11, run12, run13, run14, run15, run16, run17, run18, run19, run20, run21, run22, reduceCtorEq, Nat.reduceEqDiff, Nat.reduceAdd, Nat.reduceSub, Nat.reduceLeDiff, indexAddrA, indexRefA, appendA, strA, Nat.reduceMul, Nat.zero_mul, Nat.reduceMod, Int.reduceEq, Int.reduceLT, Int.reduceLE, Nat.reduceLT, Nat.lt_irrefl, Nat.reduceBEq, tys0, tys1, tys2, tys3, tys4, tys5, tys6, tys7, tys8, tys9, tys10, Try.ntmps76, Try.results76, ht]
        refine ⟨by kernel_rfl, ?_⟩
        refine RunL.callp rfl rfl ok_f59 (degree_ok a) (by first | rfl | simp only [pureL, pureB, Bool.and_self, Bool.and_true, Bool.true_and, Od.elems_pure, Od.pay_pure, Od.av_pure]) rfl ?_
        simp only [run0, run1, run2, run3, run4, run5, run6, run7, run8, run9, run10, run11, run12, run13, run14, run15, run16, run17, run18, run19, run20, run21, run22, reduceCtorEq, Nat.reduceEqDiff, Nat.reduceAdd, Nat.reduceSub, Nat.reduceLeDiff, indexAddrA, indexRefA, appendA, strA, Nat.reduceMul, Nat.zero_mul, Nat.reduceMod, Int.reduceEq, Int.reduceLT, Int.reduceLE, Nat.reduceLT, Nat.lt_irrefl, Nat.reduceBEq, tys0, tys1, tys2, tys3, tys4, tys5, tys6, tys7, tys8, tys9, tys10, Try.ntmps76, Try.results76, av, hdg]
        refine RunL.callp rfl rfl ok_f69 (plus_okG e t (by omega) (by omega) (by rw [← hae] at ra; exact ra.2.2.1) rt.2.2.1) (by first | rfl | simp only [pureL, pureB, Bool.and_self, Bool.and_true, Bool.true_and, Od.elems_pure, Od.pay_pure, Od.av_pure]) rfl ?_
        simp only [run0, run1, run2, run3, run4, run5, run6, run7, run8, run9, run10, run11, run12, run13, run14, run15, run16, run17, run18, run19, run20, run21, run22, reduceCtorEq, Nat.reduceEqDiff, Nat.reduceAdd, Nat.reduceSub, Nat.reduceLeDiff, indexAddrA, indexRefA, appendA, strA, Nat.reduceMul, Nat.zero_mul, Nat.reduceMod, Int.reduceEq, Int.reduceLT, Int.reduceLE, Nat.reduceLT, Nat.lt_irrefl, Nat.reduceBEq, tys0, tys1, tys2, tys3, tys4, tys5, tys6, tys7, tys8, tys9, tys10, Try.ntmps76, Try.results76, av, f3, f4, e5, elems_length]
        have hpx : prodI e c r (d.app (cons t k nil)) = (prodI e c r d).app (cons (plusT e t) k nil) := by
          rw [prodI_app, prodI_cons]
          show (prodI e c r d).app ((partP e c r t k).app .nil) = _
          rw [app_nil]; simp [partP, ht]
        refine ⟨⟨d.app (cons t k nil), q, g + 1, X ++ [.box 53 [.sl false (elems t), .int .i64 k]]⟩, hn.symm, by simp [len], by simp only [hpx, len_app, elems_app, elems, pay, len]; repeat constructor, by simp only [hpx, len_app, elems_app, elems, pay, len]⟩
      · have htn := isZ_nil ht
        have hpx : prodI e c r (d.app (cons t k nil)) = (prodI e c r d).app (cons e (c * k) r) := by
          rw [prodI_app, prodI_cons]
          show (prodI e c r d).app ((partP e c r t k).app .nil) = _
          rw [app_nil]; simp [partP, ht]
        have rc : 1 ≤ c ∧ c ≤ 1000000 := by rw [← hae] at ra; exact ⟨ra.1, ra.2.1⟩
        have l1 : 1 * 1 ≤ c * k := Int.mul_le_mul rc.1 rt.1 (by omega) (by omega)
        have l2 : c * k ≤ 1000000 * 1000000 := Int.mul_le_mul rc.2 rt.2.1 (by have := rt.1; omega) (by omega)
        have hw : IntKind.i64.wrap (c * k) = c * k := w64_id (by omega) (by omega)
        have f0 : (elems a)[0]? = some (.agg [.sl false (elems e), .int .i64 c]) := by rw [hel]; rfl
        have f1 : (0 : Int) < (a.len : Int) := by omega
        have w5 : List.drop 1 (elems a) = elems r := by rw [hel]; rfl
        have w6 : (1 : Int) ≤ (a.len : Int) := by omega
        have w7 : (prodI e c r d).len + 1 + r.len ≤ 137438953472 := by omega
        have w8 : noOwn (elems (prodI e c r d) ++ [.agg [.sl false (elems e), .int .i64 (c * k)]]) = true := by
          have := elems_noOwn ((prodI e c r d).app (cons e (c * k) nil)); rw [elems_app] at this; exact this
        have w9 : a.len - 1 = r.len := by omega
        simp only [run0, run1, run2, run3, run4, run5, run6, run7, run8, run9, run10, run11, run12, run13, run14, run15, run16, run17, run18, run19, run20, run21, run22, reduceCtorEq, Nat.reduceEqDiff, Nat.reduceAdd, Nat.reduceSub, Nat.reduceLeDiff, indexAddrA, indexRefA, appendA, strA, Nat.reduceMul, Nat.zero_mul, Nat.reduceMod, Int.reduceEq, Int.reduceLT, Int.reduceLE, Nat.reduceLT, Nat.lt_irrefl, Nat.reduceBEq, tys0, tys1, tys2, tys3, tys4, tys5, tys6, tys7, tys8, tys9, tys10, Try.ntmps76, Try.results76, ht]
        refine ⟨by kernel_rfl, ?_⟩
        refine RunL.callp rfl rfl ok_f59 (degree_ok a) (by first | rfl | simp only [pureL, pureB, Bool.and_self, Bool.and_true, Bool.true_and, Od.elems_pure, Od.pay_pure, Od.av_pure]) rfl ?_
        simp only [run0, run1, run2, run3, run4, run5, run6, run7, run8, run9, run10, run11, run12, run13, run14, run15, run16, run17, run18, run19, run20, run21, run22, reduceCtorEq, Nat.reduceEqDiff, Nat.reduceAdd, Nat.reduceSub, Nat.reduceLeDiff, indexAddrA, indexRefA, appendA, strA, Nat.reduceMul, Nat.zero_mul, Nat.reduceMod, Int.reduceEq, Int.reduceLT, Int.reduceLE, Nat.reduceLT, Nat.lt_irrefl, Nat.reduceBEq, tys0, tys1, tys2, tys3, tys4, tys5, tys6, tys7, tys8, tys9, tys10, Try.ntmps76, Try.results76, av, hdg, f0, f1, f3, f4, hw, elems_length, Int.le_refl, Int.reduceToNat]
        refine ⟨by kernel_rfl, ?_⟩
        simp only [run0, run1, run2, run3, run4, run5, run6, run7, run8, run9, run10, run11, run12, run13, run14, run15, run16, run17, run18, run19, run20, run21, run22, reduceCtorEq, Nat.reduceEqDiff, Nat.reduceAdd, Nat.reduceSub, Nat.reduceLeDiff, indexAddrA, indexRefA, appendA, strA, Nat.reduceMul, Nat.zero_mul, Nat.reduceMod, Int.reduceEq, Int.reduceLT, Int.reduceLE, Nat.reduceLT, Nat.lt_irrefl, Nat.reduceBEq, tys0, tys1, tys2, tys3, tys4, tys5, tys6, tys7, tys8, tys9, tys10, Try.ntmps76, Try.results76, w5, w6, w7, w8, w9, e5, take_all, elems_length, elems_noOwn, elems_all, elems_cells_t, Int.le_refl, Int.reduceToNat, Int.toNat_natCast, Nat.min_self]
        refine ⟨⟨d.app (cons t k nil), q, g + 2, X ++ [.box 53 [.sl false (elems t), .int .i64 k]]⟩, hn.symm, by simp [len], ?_⟩
        have q1 : (prodI e c r d).len + 1 + r.len = ((prodI e c r d).app (cons e (c * k) r)).len := by rw [len_app]; simp only [len]; omega
        rw [hpx, ← q1, elems_app]
        refine ⟨by simp only [elems, pay]; repeat constructor, by simp only [elems, pay]⟩

/-! ### the reference's -/
def dsT : Od → Prop
  | .nil => True
  | .cons t _ q => desc none t ∧ dsT q
theorem form_ds : ∀ {a : Od} {n : Nat} {p : Option Od}, formG a n p = true → dsT a
  | .nil, _, _, _ => trivial
  | .cons e c r, 0, p, h => by simp [formG] at h
  | .cons e c r, n + 1, p, h => by
    simp only [formG, Bool.and_eq_true] at h
    exact ⟨formG_desc h.1.1.2, form_ds h.2⟩
theorem good_ds {a : Od} (h : goodT a = true) : dsT a := by
  simp only [goodT, Bool.and_eq_true] at h; exact form_ds h.2
theorem ds_app : ∀ {d q : Od}, dsT (d.app q) → dsT q
  | .nil, _, h => h
  | .cons _ _ d, _, h => ds_app (d := d) h.2
theorem rng_pos : ∀ {a : Od}, rng a → pos1T a
  | .nil, _ => trivial
  | .cons e c r, h => ⟨by cases e with
    | nil => trivial
    | cons x k y => exact h.2.2.1.1, rng_pos h.2.2.2⟩
theorem rng_bndV : ∀ {a : Od}, rng a → a.sz ≤ 1048576 → bndW 1000000000000 a
  | .nil, _, _ => trivial
  | .cons e c r, h, hs => by
    simp only [sz] at hs
    exact ⟨rngW_of h.2.2.1, by omega, by have := h.1; omega, by have := h.2.1; omega, rng_bndV h.2.2.2 (by omega)⟩
theorem part_bnd {e r t : Od} {c k : Int} (hr : rng (.cons e c r)) (hs : e.sz + r.sz ≤ 29) (ht : rng t) (hk : 1 ≤ k ∧ k ≤ 1000000) (hts : t.sz ≤ 29) : bndW 1000000000000 (partP e c r t k) := by
  have l1 : 1 * 1 ≤ c * k := Int.mul_le_mul hr.1 hk.1 (by omega) (by have := hr.1; omega)
  have l2 : c * k ≤ 1000000 * 1000000 := Int.mul_le_mul hr.2.1 hk.2 (by omega) (by omega)
  have h2 := plusT_sz e t
  unfold partP
  split
  · exact ⟨rngW_of hr.2.2.1, by omega, by omega, by omega, rng_bndV hr.2.2.2 (by omega)⟩
  · exact ⟨plusT_rngW hr.2.2.1 ht, by omega, by omega, by omega, trivial⟩
theorem prodI_bnd {e r : Od} {c : Int} (hr : rng (.cons e c r)) (hs : e.sz + r.sz ≤ 29) : ∀ {b : Od}, rng b → b.sz ≤ 29 → bndW 1000000000000 (prodI e c r b)
  | .nil, _, _ => trivial
  | .cons t k q, h, hb => by
    simp only [sz] at hb
    rw [prodI_cons, bndW_app]
    exact ⟨part_bnd hr hs h.2.2.1 ⟨h.1, h.2.1⟩ (by omega), prodI_bnd hr hs h.2.2.2 (by omega)⟩
theorem part_sz (e r t : Od) (c k : Int) : (partP e c r t k).sz ≤ e.sz + t.sz + r.sz + 1 := by
  have := plusT_sz e t
  unfold partP
  split
  · simp only [sz]; omega
  · simp only [sz]; omega
theorem odPlus_okG (a b : Od) (ha : a.sz ≤ 1048576) (hb : b.sz ≤ 1048576) (ra : rng a) (rb : rng b) (da : desc none a) (db : desc none b) : Ct Try.prog 68 [av a, av b] [] (av (plusT a b)) [] := by
  rw [← plus_eq da db]
  exact odPlus_ok a b ha hb (m := 1000000) (by omega) (by omega) (rng_bnd ra ha) (rng_bnd rb hb)
theorem rng_pre2 : ∀ {d r : Od}, rng (d.app r) → rng d
  | .nil, _, _ => trivial
  | .cons e c d, r, h => ⟨h.1, h.2.1, h.2.2.1, rng_pre2 h.2.2.2⟩

theorem VwF_elems {L : List AObj} {id g n : Nat} {T : TypeId} {a : Od} {es : List AV} (hL : L[id]? = some (.vec T 2 g es)) (he : es = elems a) (hn : n = a.len) : VwF id L (.ref id [] g n) (.sl false (elems a)) := by
  subst hn
  subst he
  have := VwF.ref (o := false) hL (n := a.len) (by rw [elems_length]; exact Nat.le_refl _) (fun e he c hc => by
    obtain ⟨e', c', rfl⟩ := elems_mem _ e he
    simp only [AV.cells, List.mem_cons, List.not_mem_nil, or_false] at hc
    rcases hc with rfl | rfl
    · exact ⟨.of (by simp only [pureB, elems_pure]), fun xs h => by cases h⟩
    · exact ⟨.int _ _, fun xs h => by cases h⟩)
  rwa [take_all] at this

theorem odTimes_ok (a b : Od) (ha : a.sz ≤ 29) (hb : b.sz ≤ 29) (ra : rng a) (rb : rng b) (da : desc none a) (db : desc none b) (sa : dsT a) (sb : dsT b) : Ct Try.prog 75 [av a, av b] [] (av (prodT a b)) [] := by
  cases a with
  | nil =>
    refine Ct.by_ hmix [] Try.func75 rfl ?_
    simp only [run0, run1, run2, run3, run4, run5, run6, run7, run8, run9, run10, run11, run12, run13, run14, run15, run16, run17, run18, run19, run20, run21, run22, reduceCtorEq, Nat.reduceEqDiff, Nat.reduceAdd, Nat.reduceSub, Nat.reduceLeDiff, indexAddrA, indexRefA, appendA, strA, Nat.reduceMul, Nat.zero_mul, Nat.reduceMod, Int.reduceEq, Int.reduceLT, Int.reduceLE, Nat.reduceLT, Nat.lt_irrefl, Nat.reduceBEq, tys0, tys1, tys2, tys3, tys4, tys5, tys6, tys7, tys8, tys9, tys10, Try.ntmps75, Try.results75, av]
    refine RunL.callp rfl rfl ok_f55 (odZero_ok .nil) (by first | rfl | simp only [pureL, pureB, Bool.and_self, Bool.and_true, Bool.true_and, Od.elems_pure, Od.pay_pure, Od.av_pure]) rfl ?_
    simp only [run0, run1, run2, run3, run4, run5, run6, run7, run8, run9, run10, run11, run12, run13, run14, run15, run16, run17, run18, run19, run20, run21, run22, reduceCtorEq, Nat.reduceEqDiff, Nat.reduceAdd, Nat.reduceSub, Nat.reduceLeDiff, indexAddrA, indexRefA, appendA, strA, Nat.reduceMul, Nat.zero_mul, Nat.reduceMod, Int.reduceEq, Int.reduceLT, Int.reduceLE, Nat.reduceLT, Nat.lt_irrefl, Nat.reduceBEq, tys0, tys1, tys2, tys3, tys4, tys5, tys6, tys7, tys8, tys9, tys10, Try.ntmps75, Try.results75, isZ]
    exact Fin.value (Vw.agg (.cons (Vw.nil false) .nil))
  | cons e c r =>
    have hla := len_le (.cons e c r)
    have hlb := len_le b
    have hel : elems (.cons e c r) = .agg [.sl false (elems e), .int .i64 c] :: elems r := rfl
    have hzs : e.sz + r.sz ≤ 29 := by simp only [sz] at ha; omega
    have hl1 : (Od.cons e c r).len = r.len + 1 := rfl
    have hz : isZ (.cons e c r) = false := rfl
    have rc : 1 ≤ c ∧ c ≤ 1000000 := ⟨ra.1, ra.2.1⟩
    have re := ra.2.2.1
    have rra := ra
    have de : desc none e := sa.1
    have dr : desc (some e) r := da.2
    have hpt : prodT (.cons e c r) b = prodI e c r b := rfl
    rw [hpt]
    clear sa da hpt
    generalize hae : (Od.cons e c r) = a at ha ra hla hel hl1 hz ⊢
    refine Ct.by_ hmix [ 8000000, 5999998, 7200049, 1000000 + 45, 1000000 + 27, 68] Try.func75 rfl ?_
    simp only [run0, run1, run2, run3, run4, run5, run6, run7, run8, run9, run10, run11, run12, run13, run14, run15, run16, run17, run18, run19, run20, run21, run22, reduceCtorEq, Nat.reduceEqDiff, Nat.reduceAdd, Nat.reduceSub, Nat.reduceLeDiff, indexAddrA, indexRefA, appendA, strA, Nat.reduceMul, Nat.zero_mul, Nat.reduceMod, Int.reduceEq, Int.reduceLT, Int.reduceLE, Nat.reduceLT, Nat.lt_irrefl, Nat.reduceBEq, tys0, tys1, tys2, tys3, tys4, tys5, tys6, tys7, tys8, tys9, tys10, Try.ntmps75, Try.results75, av]
    refine RunL.callp rfl rfl ok_f55 (odZero_ok a) (by first | rfl | simp only [pureL, pureB, Bool.and_self, Bool.and_true, Bool.true_and, Od.elems_pure, Od.pay_pure, Od.av_pure]) rfl ?_
    simp only [run0, run1, run2, run3, run4, run5, run6, run7, run8, run9, run10, run11, run12, run13, run14, run15, run16, run17, run18, run19, run20, run21, run22, reduceCtorEq, Nat.reduceEqDiff, Nat.reduceAdd, Nat.reduceSub, Nat.reduceLeDiff, indexAddrA, indexRefA, appendA, strA, Nat.reduceMul, Nat.zero_mul, Nat.reduceMod, Int.reduceEq, Int.reduceLT, Int.reduceLE, Nat.reduceLT, Nat.lt_irrefl, Nat.reduceBEq, tys0, tys1, tys2, tys3, tys4, tys5, tys6, tys7, tys8, tys9, tys10, Try.ntmps75, Try.results75, hz, elems_length]
    refine AWp.nilS 3 0 rfl rfl ?_
    simp only [run0, run1, run2, run3, run4, run5, run6, run7, run8, run9, run10, run11, run12, run13, run14, run15, run16, run17, run18, run19, run20, run21, run22, reduceCtorEq, Nat.reduceEqDiff, Nat.reduceAdd, Nat.reduceSub, Nat.reduceLeDiff, indexAddrA, indexRefA, appendA, strA, Nat.reduceMul, Nat.zero_mul, Nat.reduceMod, Int.reduceEq, Int.reduceLT, Int.reduceLE, Nat.reduceLT, Nat.lt_irrefl, Nat.reduceBEq, tys0, tys1, tys2, tys3, tys4, tys5, tys6, tys7, tys8, tys9, tys10, Try.ntmps75, Try.results75]
    refine AWp.loop_inv (ι := PrS) (fun p => ⟨[.agg [.sl false (elems a)], .agg [.sl false (elems b)], .ptr 0 0, .ptr 1 0, .ptr 2 0, .ptr 3 0, .junk, .junk, .junk, .junk, .junk, .junk, .junk, .junk, .sl false (elems b), .int .i64 b.len, .int .i64 p.d.len, .junk, .junk, .junk, .junk, .junk, .junk, .junk, .junk, .junk, .junk, .junk, .junk, .junk, .junk, .junk, .junk, .junk, .junk, .junk, .junk, .junk, .junk, .junk, .junk, .junk, .junk, .junk, .junk, .junk, .junk, .junk, .junk, .junk, .junk, .junk, .junk, .junk, .junk, .junk, .junk, .junk, .junk],
        .box 29 [.sl false (elems a)] :: .box 29 [.sl false (elems b)] :: .box 29 [nilV] :: .box 29 [.sl false (elems (prodI e c r p.d))] :: p.X⟩)
      (fun p => b = p.d.app p.q) (fun p => p.q.len) ⟨.nil, b, 0, []⟩ rfl ⟨by simp only [len, Int.natCast_zero, prodI, elems]; repeat constructor, rfl⟩ ?_
    rintro ⟨d, q, g, X⟩ h1
    simp only at h1
    refine W.sound hmix (E := [8000000, 5999998, 7200049, 1000000 + 45, 1000000 + 27, 68]) ?_
    cases q with
    | nil =>
      obtain ⟨e1, rfl⟩ := od_end h1
      simp only [run0, run1, run2, run3, run4, run5, run6, run7, run8, run9, run10, run11, run12, run13, run14, run15, run16, run17, run18, run19, run20, run21, run22, reduceCtorEq, Nat.reduceEqDiff, Nat.reduceAdd, Nat.reduceSub, Nat.reduceLeDiff, indexAddrA, indexRefA, appendA, strA, Nat.reduceMul, Nat.zero_mul, Nat.reduceMod, Int.reduceEq, Int.reduceLT, Int.reduceLE, Nat.reduceLT, Nat.lt_irrefl, Nat.reduceBEq, tys0, tys1, tys2, tys3, tys4, tys5, tys6, tys7, tys8, tys9, tys10, Try.ntmps75, Try.results75, elems_length, e1]
      exact Fin.eq rfl (av_pure (prodI e c r b))
    | cons t k q =>
      obtain ⟨e1, e2, e5, hlt, hn, _⟩ := od_step h1 (by omega)
      have hds : b.sz = d.sz + (Od.cons t k q).sz := by rw [h1, sz_app]
      have hdl : d.len ≤ b.len := by rw [h1, len_app]; omega
      have hts : t.sz ≤ 29 := by simp only [sz] at hds; omega
      have hps := prodI_sz e r c hzs d
      have rt : rng (.cons t k q) := by rw [h1] at rb; exact rng_app rb
      have rd : rng d := by rw [h1] at rb; exact rng_pre2 rb
      have st : dsT (.cons t k q) := by rw [h1] at sb; exact ds_app sb
      have pst : pos1T (d.app (.cons t k q)) := by rw [← h1]; exact rng_pos rb
      have dbs : desc none (d.app (.cons t k q)) := by rw [← h1]; exact db
      have hc1 := odPlus_okG e t (by omega) (by omega) re rt.2.2.1 de st.1
      have hxs := part_sz e r t c k
      have hc2 := odPlusW_ok (prodI e c r d) (partP e c r t k) (by omega) (by omega) (m := 1000000000000) (by omega) (by omega) (prodI_bnd rra hzs rd (by omega)) (part_bnd rra hzs rt.2.2.1 ⟨rt.1, rt.2.1⟩ hts)
      rw [prod_step de dr dbs pst] at hc2
      have f0 : (elems a)[0]? = some (.agg [.sl false (elems e), .int .i64 c]) := by rw [hel]; rfl
      have f1 : (0 : Int) < (a.len : Int) := by omega
      simp only [run0, run1, run2, run3, run4, run5, run6, run7, run8, run9, run10, run11, run12, run13, run14, run15, run16, run17, run18, run19, run20, run21, run22, reduceCtorEq, Nat.reduceEqDiff, Nat.reduceAdd, Nat.reduceSub, Nat.reduceLeDiff, indexAddrA, indexRefA, appendA, strA, Nat.reduceMul, Nat.zero_mul, Nat.reduceMod, Int.reduceEq, Int.reduceLT, Int.reduceLE, Nat.reduceLT, Nat.lt_irrefl, Nat.reduceBEq, tys0, tys1, tys2, tys3, tys4, tys5, tys6, tys7, tys8, tys9, tys10, Try.ntmps75, Try.results75, elems_length, e1, e2, Int.toNat_natCast, Int.natCast_nonneg]
      refine ⟨[0,1,2,3,4,5,6,7,8,9,10,11,12], by kernel_rfl, ?_⟩
      simp only [run0, run1, run2, run3, run4, run5, run6, run7, run8, run9, run10, run11, run12, run13, run14, run15, run16, run17, run18, run19, run20, run21, run22, reduceCtorEq, Nat.reduceEqDiff, Nat.reduceAdd, Nat.reduceSub, Nat.reduceLeDiff, indexAddrA, indexRefA, appendA, strA, Nat.reduceMul, Nat.zero_mul, Nat.reduceMod, Int.reduceEq, Int.reduceLT, Int.reduceLE, Nat.reduceLT, Nat.lt_irrefl, Nat.reduceBEq, tys0, tys1, tys2, tys3, tys4, tys5, tys6, tys7, tys8, tys9, tys10, Try.ntmps75, Try.results75, av, f0, f1, elems_length, Int.le_refl, Int.reduceToNat]
      refine RunL.callp rfl rfl ok_f68 (hc1) (by first | rfl | simp only [pureL, pureB, Bool.and_self, Bool.and_true, Bool.true_and, Od.elems_pure, Od.pay_pure, Od.av_pure]) rfl ?_
      simp only [run0, run1, run2, run3, run4, run5, run6, run7, run8, run9, run10, run11, run12, run13, run14, run15, run16, run17, run18, run19, run20, run21, run22, reduceCtorEq, Nat.reduceEqDiff, Nat.reduceAdd, Nat.reduceSub, Nat.reduceLeDiff, indexAddrA, indexRefA, appendA, strA, Nat.reduceMul, Nat.zero_mul, Nat.reduceMod, Int.reduceEq, Int.reduceLT, Int.reduceLE, Nat.reduceLT, Nat.lt_irrefl, Nat.reduceBEq, tys0, tys1, tys2, tys3, tys4, tys5, tys6, tys7, tys8, tys9, tys10, Try.ntmps75, Try.results75, av, setXn, getXn]
      refine RunL.callp rfl rfl ok_f55 (odZero_ok t) (by first | rfl | simp only [pureL, pureB, Bool.and_self, Bool.and_true, Bool.true_and, Od.elems_pure, Od.pay_pure, Od.av_pure]) rfl ?_
      cases ht : isZ t
      · have hx : partP e c r t k = .cons (plusT e t) k .nil := by simp [partP, ht]
        rw [hx] at hc2
        simp only [run0, run1, run2, run3, run4, run5, run6, run7, run8, run9, run10, run11, run12, run13, run14, run15, run16, run17, run18, run19, run20, run21, run22, reduceCtorEq, Nat.reduceEqDiff, Nat.reduceAdd, Nat.reduceSub, Nat.reduceLeDiff, indexAddrA, indexRefA, appendA, strA, Nat.reduceMul, Nat.zero_mul, Nat.reduceMod, Int.reduceEq, Int.reduceLT, Int.reduceLE, Nat.reduceLT, Nat.lt_irrefl, Nat.reduceBEq, tys0, tys1, tys2, tys3, tys4, tys5, tys6, tys7, tys8, tys9, tys10, Try.ntmps75, Try.results75, ht, av, setXn, getXn]
        refine RunL.callp rfl rfl ok_f68 (hc2) (by first | rfl | simp only [pureL, pureB, Bool.and_self, Bool.and_true, Bool.true_and, Od.elems_pure, Od.pay_pure, Od.av_pure]) rfl ?_
        simp only [run0, run1, run2, run3, run4, run5, run6, run7, run8, run9, run10, run11, run12, run13, run14, run15, run16, run17, run18, run19, run20, run21, run22, reduceCtorEq, Nat.reduceEqDiff, Nat.reduceAdd, Nat.reduceSub, Nat.reduceLeDiff, indexAddrA, indexRefA, appendA, strA, Nat.reduceMul, Nat.zero_mul, Nat.reduceMod, Int.reduceEq, Int.reduceLT, Int.reduceLE, Nat.reduceLT, Nat.lt_irrefl, Nat.reduceBEq, tys0, tys1, tys2, tys3, tys4, tys5, tys6, tys7, tys8, tys9, tys10, Try.ntmps75, Try.results75, av, setXn, getXn, e5]
        exact ⟨⟨d.app (cons t k nil), q, 0, _⟩, hn.symm, by simp [len], by repeat constructor, rfl⟩
      · have htn := isZ_nil ht
        have hx : partP e c r t k = .cons e (c * k) r := by simp [partP, ht]
        have hpe : plusT e t = e := by rw [htn]; rfl
        rw [hx] at hc2
        have l1 : 1 * 1 ≤ c * k := Int.mul_le_mul rc.1 rt.1 (by omega) (by omega)
        have l2 : c * k ≤ 1000000 * 1000000 := Int.mul_le_mul rc.2 rt.2.1 (by have := rt.1; omega) (by omega)
        have hw : IntKind.i64.wrap (c * k) = c * k := w64_id (by omega) (by omega)
        have w5 : List.drop 1 (elems a) = elems r := by rw [hel]; rfl
        have w6 : (1 : Int) ≤ (a.len : Int) := by omega
        have w7 : 1 + r.len ≤ 137438953472 := by omega
        have w9 : a.len - 1 = r.len := by omega
        simp only [run0, run1, run2, run3, run4, run5, run6, run7, run8, run9, run10, run11, run12, run13, run14, run15, run16, run17, run18, run19, run20, run21, run22, reduceCtorEq, Nat.reduceEqDiff, Nat.reduceAdd, Nat.reduceSub, Nat.reduceLeDiff, indexAddrA, indexRefA, appendA, strA, Nat.reduceMul, Nat.zero_mul, Nat.reduceMod, Int.reduceEq, Int.reduceLT, Int.reduceLE, Nat.reduceLT, Nat.lt_irrefl, Nat.reduceBEq, tys0, tys1, tys2, tys3, tys4, tys5, tys6, tys7, tys8, tys9, tys10, Try.ntmps75, Try.results75, ht, hpe, setXn, getXn]
        refine ⟨[0,1,2,3,4,5,6,7,8,9], by kernel_rfl, ?_⟩
        simp only [run0, run1, run2, run3, run4, run5, run6, run7, run8, run9, run10, run11, run12, run13, run14, run15, run16, run17, run18, run19, run20, run21, run22, reduceCtorEq, Nat.reduceEqDiff, Nat.reduceAdd, Nat.reduceSub, Nat.reduceLeDiff, indexAddrA, indexRefA, appendA, strA, Nat.reduceMul, Nat.zero_mul, Nat.reduceMod, Int.reduceEq, Int.reduceLT, Int.reduceLE, Nat.reduceLT, Nat.lt_irrefl, Nat.reduceBEq, tys0, tys1, tys2, tys3, tys4, tys5, tys6, tys7, tys8, tys9, tys10, Try.ntmps75, Try.results75, hpe, f0, f1, hw, setXn, getXn, elems_length, Int.le_refl, Int.reduceToNat]
        refine ⟨[0,1,3,4,5,2,6,7,8,9], by kernel_rfl, ?_⟩
        simp only [run0, run1, run2, run3, run4, run5, run6, run7, run8, run9, run10, run11, run12, run13, run14, run15, run16, run17, run18, run19, run20, run21, run22, reduceCtorEq, Nat.reduceEqDiff, Nat.reduceAdd, Nat.reduceSub, Nat.reduceLeDiff, indexAddrA, indexRefA, appendA, strA, Nat.reduceMul, Nat.zero_mul, Nat.reduceMod, Int.reduceEq, Int.reduceLT, Int.reduceLE, Nat.reduceLT, Nat.lt_irrefl, Nat.reduceBEq, tys0, tys1, tys2, tys3, tys4, tys5, tys6, tys7, tys8, tys9, tys10, Try.ntmps75, Try.results75, w5, w6, w7, w9, setXn, getXn, take_all, elems_length, elems_noOwn, elems_all, elems_cells_t, Int.le_refl, Int.reduceToNat, Int.toNat_natCast, Nat.min_self]
        refine RunL.give rfl rfl ok_f68 rfl rfl hc2 ?hj (.cons (.pur (by simp only [pureB, pureL, elems_pure, av, Bool.and_self])) (.cons (VwF.agg (.cons (VwF_elems (a := cons e (c * k) r) (T := 53) (by simp only [List.getElem?_cons_succ, getXn, List.getElem?_cons_zero]; rfl) rfl (by simp only [len]; omega)) .nil)) .nil)) rfl ?_
        case hj => exact ⟨_, _, _, _, by simp only [List.getElem?_cons_succ, getXn, List.getElem?_cons_zero]; rfl⟩
        simp only [run0, run1, run2, run3, run4, run5, run6, run7, run8, run9, run10, run11, run12, run13, run14, run15, run16, run17, run18, run19, run20, run21, run22, reduceCtorEq, Nat.reduceEqDiff, Nat.reduceAdd, Nat.reduceSub, Nat.reduceLeDiff, indexAddrA, indexRefA, appendA, strA, Nat.reduceMul, Nat.zero_mul, Nat.reduceMod, Int.reduceEq, Int.reduceLT, Int.reduceLE, Nat.reduceLT, Nat.lt_irrefl, Nat.reduceBEq, tys0, tys1, tys2, tys3, tys4, tys5, tys6, tys7, tys8, tys9, tys10, Try.ntmps75, Try.results75, av, setXn, getXn, e5]
        exact ⟨⟨d.app (cons t k nil), q, 0, _⟩, hn.symm, by simp [len], by repeat constructor, rfl⟩

theorem prodI_szL (e r : Od) (c : Int) (h : e.sz + r.sz ≤ 29) (b : Od) (hb : b.sz ≤ 29) : (prodI e c r b).sz ≤ 1048576 := by
  have := prodI_sz e r c h b
  have := len_le b
  omega
theorem product_good (a b : Od) (ga : goodT a = true) (gb : goodT b = true) : Ct Try.prog 76 [av a, av b] [] (av (prodT a b)) [] :=
  product_ok a b (goodT_sz ga) (goodT_sz gb) (goodT_rng ga) (goodT_rng gb)
theorem odTimes_good (a b : Od) (ga : goodT a = true) (gb : goodT b = true) : Ct Try.prog 75 [av a, av b] [] (av (prodT a b)) [] :=
  odTimes_ok a b (goodT_sz ga) (goodT_sz gb) (goodT_rng ga) (goodT_rng gb) (goodT_desc ga) (goodT_desc gb) (good_ds ga) (good_ds gb)
theorem product_goodSz (a b : Od) (ga : goodT a = true) (gb : goodT b = true) : (prodT a b).sz ≤ 1048576 := by
  have h1 := goodT_sz ga
  have h2 := goodT_sz gb
  cases a with
  | nil => simp [prodT, sz]
  | cons e c r =>
    simp only [sz] at h1
    exact prodI_szL e r c (by omega) b h2

def MultiplyOrdinalsOk (a b : Od) : Bool := goodT a && goodT b && goodT (prodT a b)
def MultiplyOrdinalsR (a b : Od) : Od := if MultiplyOrdinalsOk a b then prodT a b else .nil
theorem MultiplyOrdinalsR_sz (a b : Od) (ha : a.sz ≤ 1048576) (hb : b.sz ≤ 1048576) : (MultiplyOrdinalsR a b).sz ≤ 1048576 := by
  unfold MultiplyOrdinalsR
  split
  · rename_i h
    simp only [MultiplyOrdinalsOk, Bool.and_eq_true] at h
    have := goodT_sz h.2
    omega
  · simp [sz]
theorem implMultiplyOrdinals_ok (a b : Od) (ha : a.sz ≤ 1048576) (hb : b.sz ≤ 1048576) : ∃ x M, Ct Try.prog 43 [av a, av b] [] (.tup [.agg [x], .bool (MultiplyOrdinalsOk a b)]) M ∧ Own M (MultiplyOrdinalsR a b) x := by
  cases hg : goodT a && goodT b
  · rw [show MultiplyOrdinalsOk a b = false by simp [MultiplyOrdinalsOk, hg], show MultiplyOrdinalsR a b = .nil by simp [MultiplyOrdinalsR, MultiplyOrdinalsOk, hg]]
    refine ⟨nilV, ?_⟩
    apply ex1
    · apply Ct.by_ hmix [] Try.func43 rfl
      simp only [run0, run1, run2, run3, run4, run5, run6, run7, run8, run9, run10, run11, run12, run13, run14, run15, run16, run17, run18, run19, run20, run21, run22, reduceCtorEq, Nat.reduceEqDiff, Nat.reduceAdd, Nat.reduceSub, Nat.reduceLeDiff, indexAddrA, indexRefA, appendA, strA, Nat.reduceMul, Nat.zero_mul, Nat.reduceMod, Int.reduceEq, Int.reduceLT, Int.reduceLE, Nat.reduceLT, Nat.lt_irrefl, Nat.reduceBEq, tys0, tys1, tys2, tys3, tys4, tys5, tys6, tys7, tys8, tys9, tys10, Try.ntmps43, Try.results43, av]
      refine RunL.callp rfl rfl ok_f50 (both_ok a b ha hb) (by first | rfl | simp only [pureL, pureB, Bool.and_self, Bool.and_true, Bool.true_and, Od.elems_pure, Od.pay_pure, Od.av_pure]) rfl ?_
      simp only [run0, run1, run2, run3, run4, run5, run6, run7, run8, run9, run10, run11, run12, run13, run14, run15, run16, run17, run18, run19, run20, run21, run22, reduceCtorEq, Nat.reduceEqDiff, Nat.reduceAdd, Nat.reduceSub, Nat.reduceLeDiff, indexAddrA, indexRefA, appendA, strA, Nat.reduceMul, Nat.zero_mul, Nat.reduceMod, Int.reduceEq, Int.reduceLT, Int.reduceLE, Nat.reduceLT, Nat.lt_irrefl, Nat.reduceBEq, tys0, tys1, tys2, tys3, tys4, tys5, tys6, tys7, tys8, tys9, tys10, Try.ntmps43, Try.results43, hg]
      exact Fin.keep [] rfl rfl
    · exact ⟨[], .inl ⟨rfl, rfl, rfl⟩, List.nodup_nil, keepS_okSO _ _⟩
  have hg' := hg
  simp only [Bool.and_eq_true] at hg'
  obtain ⟨ga, gb⟩ := hg'
  have hsz : (prodT a b).sz ≤ 1048576 := product_goodSz a b ga gb
  obtain ⟨x, M, ht, S, ho, hn, hM⟩ := told_ok (prodT a b) hsz
  have hk : MultiplyOrdinalsOk a b = goodT (prodT a b) := by simp [MultiplyOrdinalsOk, hg]
  have hr : MultiplyOrdinalsR a b = if goodT (prodT a b) then prodT a b else .nil := by simp only [MultiplyOrdinalsR, hk]
  rw [hr, hk]
  refine ⟨shA 3 x, ?_⟩
  apply ex1
  · apply Ct.by_ hmix [] Try.func43 rfl
    simp only [run0, run1, run2, run3, run4, run5, run6, run7, run8, run9, run10, run11, run12, run13, run14, run15, run16, run17, run18, run19, run20, run21, run22, reduceCtorEq, Nat.reduceEqDiff, Nat.reduceAdd, Nat.reduceSub, Nat.reduceLeDiff, indexAddrA, indexRefA, appendA, strA, Nat.reduceMul, Nat.zero_mul, Nat.reduceMod, Int.reduceEq, Int.reduceLT, Int.reduceLE, Nat.reduceLT, Nat.lt_irrefl, Nat.reduceBEq, tys0, tys1, tys2, tys3, tys4, tys5, tys6, tys7, tys8, tys9, tys10, Try.ntmps43, Try.results43, av]
    refine RunL.callp rfl rfl ok_f50 (both_ok a b ha hb) (by first | rfl | simp only [pureL, pureB, Bool.and_self, Bool.and_true, Bool.true_and, Od.elems_pure, Od.pay_pure, Od.av_pure]) rfl ?_
    simp only [run0, run1, run2, run3, run4, run5, run6, run7, run8, run9, run10, run11, run12, run13, run14, run15, run16, run17, run18, run19, run20, run21, run22, reduceCtorEq, Nat.reduceEqDiff, Nat.reduceAdd, Nat.reduceSub, Nat.reduceLeDiff, indexAddrA, indexRefA, appendA, strA, Nat.reduceMul, Nat.zero_mul, Nat.reduceMod, Int.reduceEq, Int.reduceLT, Int.reduceLE, Nat.reduceLT, Nat.lt_irrefl, Nat.reduceBEq, tys0, tys1, tys2, tys3, tys4, tys5, tys6, tys7, tys8, tys9, tys10, Try.ntmps43, Try.results43, hg]
    refine RunL.callp rfl rfl ok_f76 (product_good a b ga gb) (by first | rfl | simp only [pureL, pureB, Bool.and_self, Bool.and_true, Bool.true_and, Od.elems_pure, Od.pay_pure, Od.av_pure]) rfl ?_
    simp only [run0, run1, run2, run3, run4, run5, run6, run7, run8, run9, run10, run11, run12, run13, run14, run15, run16, run17, run18, run19, run20, run21, run22, reduceCtorEq, Nat.reduceEqDiff, Nat.reduceAdd, Nat.reduceSub, Nat.reduceLeDiff, indexAddrA, indexRefA, appendA, strA, Nat.reduceMul, Nat.zero_mul, Nat.reduceMod, Int.reduceEq, Int.reduceLT, Int.reduceLE, Nat.reduceLT, Nat.lt_irrefl, Nat.reduceBEq, tys0, tys1, tys2, tys3, tys4, tys5, tys6, tys7, tys8, tys9, tys10, Try.ntmps43, Try.results43]
    refine RunL.callgp rfl rfl ok_f64 rfl ht (by simp only [pureL, pureB, av_pure, Bool.and_self]) rfl ?_
    simp only [run0, run1, run2, run3, run4, run5, run6, run7, run8, run9, run10, run11, run12, run13, run14, run15, run16, run17, run18, run19, run20, run21, run22, reduceCtorEq, Nat.reduceEqDiff, Nat.reduceAdd, Nat.reduceSub, Nat.reduceLeDiff, indexAddrA, indexRefA, appendA, strA, Nat.reduceMul, Nat.zero_mul, Nat.reduceMod, Int.reduceEq, Int.reduceLT, Int.reduceLE, Nat.reduceLT, Nat.lt_irrefl, Nat.reduceBEq, tys0, tys1, tys2, tys3, tys4, tys5, tys6, tys7, tys8, tys9, tys10, Try.ntmps43, Try.results43, shA, shL]
    exact Fin.keep (S.map (· + 3)) (by simp [okT, okTL, okT_sh ho]) rfl
  · exact Own.end (k := 3) (fun id => by simp) ho hn
theorem specMultiplyOrdinals_ok (a b : Od) (ha : a.sz ≤ 1048576) (hb : b.sz ≤ 1048576) : Ct Try.prog 42 [av a, av b] [] (.tup [av (MultiplyOrdinalsR a b), .bool (MultiplyOrdinalsOk a b)]) [] := by
  have fin0 : Vw [AObj.box 29 [.sl false (elems a)], .box 29 [.sl false (elems b)], .box 29 [nilV]] (.tup [.agg [nilV], .bool false]) (.tup [av .nil, .bool false]) := Vw.tup (.cons (Vw.agg (.cons (Vw.nil false) .nil)) (.cons (Vw.pur (Pur.bool _)) .nil))
  refine Ct.by_ hmix [] Try.func42 rfl ?_
  simp only [run0, run1, run2, run3, run4, run5, run6, run7, run8, run9, run10, run11, run12, run13, run14, run15, run16, run17, run18, run19, run20, run21, run22, reduceCtorEq, Nat.reduceEqDiff, Nat.reduceAdd, Nat.reduceSub, Nat.reduceLeDiff, indexAddrA, indexRefA, appendA, strA, Nat.reduceMul, Nat.zero_mul, Nat.reduceMod, Int.reduceEq, Int.reduceLT, Int.reduceLE, Nat.reduceLT, Nat.lt_irrefl, Nat.reduceBEq, tys0, tys1, tys2, tys3, tys4, tys5, tys6, tys7, tys8, tys9, tys10, Try.ntmps42, Try.results42, av]
  refine RunL.callp rfl rfl ok_f45 (odGood_ok a ha) (by first | rfl | simp only [pureL, pureB, Bool.and_self, Bool.and_true, Bool.true_and, Od.elems_pure, Od.pay_pure, Od.av_pure]) rfl ?_
  cases ga : goodT a
  · rw [show MultiplyOrdinalsOk a b = false by simp [MultiplyOrdinalsOk, ga], show MultiplyOrdinalsR a b = .nil by simp [MultiplyOrdinalsR, MultiplyOrdinalsOk, ga]]
    simp only [run0, run1, run2, run3, run4, run5, run6, run7, run8, run9, run10, run11, run12, run13, run14, run15, run16, run17, run18, run19, run20, run21, run22, reduceCtorEq, Nat.reduceEqDiff, Nat.reduceAdd, Nat.reduceSub, Nat.reduceLeDiff, indexAddrA, indexRefA, appendA, strA, Nat.reduceMul, Nat.zero_mul, Nat.reduceMod, Int.reduceEq, Int.reduceLT, Int.reduceLE, Nat.reduceLT, Nat.lt_irrefl, Nat.reduceBEq, tys0, tys1, tys2, tys3, tys4, tys5, tys6, tys7, tys8, tys9, tys10, Try.ntmps42, Try.results42, ga]
    exact Fin.value fin0
  simp only [run0, run1, run2, run3, run4, run5, run6, run7, run8, run9, run10, run11, run12, run13, run14, run15, run16, run17, run18, run19, run20, run21, run22, reduceCtorEq, Nat.reduceEqDiff, Nat.reduceAdd, Nat.reduceSub, Nat.reduceLeDiff, indexAddrA, indexRefA, appendA, strA, Nat.reduceMul, Nat.zero_mul, Nat.reduceMod, Int.reduceEq, Int.reduceLT, Int.reduceLE, Nat.reduceLT, Nat.lt_irrefl, Nat.reduceBEq, tys0, tys1, tys2, tys3, tys4, tys5, tys6, tys7, tys8, tys9, tys10, Try.ntmps42, Try.results42, ga]
  refine RunL.callp rfl rfl ok_f45 (odGood_ok b hb) (by first | rfl | simp only [pureL, pureB, Bool.and_self, Bool.and_true, Bool.true_and, Od.elems_pure, Od.pay_pure, Od.av_pure]) rfl ?_
  cases gb : goodT b
  · rw [show MultiplyOrdinalsOk a b = false by simp [MultiplyOrdinalsOk, gb], show MultiplyOrdinalsR a b = .nil by simp [MultiplyOrdinalsR, MultiplyOrdinalsOk, gb]]
    simp only [run0, run1, run2, run3, run4, run5, run6, run7, run8, run9, run10, run11, run12, run13, run14, run15, run16, run17, run18, run19, run20, run21, run22, reduceCtorEq, Nat.reduceEqDiff, Nat.reduceAdd, Nat.reduceSub, Nat.reduceLeDiff, indexAddrA, indexRefA, appendA, strA, Nat.reduceMul, Nat.zero_mul, Nat.reduceMod, Int.reduceEq, Int.reduceLT, Int.reduceLE, Nat.reduceLT, Nat.lt_irrefl, Nat.reduceBEq, tys0, tys1, tys2, tys3, tys4, tys5, tys6, tys7, tys8, tys9, tys10, Try.ntmps42, Try.results42, gb]
    exact Fin.value fin0
  have hsz : (prodT a b).sz ≤ 1048576 := product_goodSz a b ga gb
  have hk : MultiplyOrdinalsOk a b = goodT (prodT a b) := by simp [MultiplyOrdinalsOk, ga, gb]
  have hr : MultiplyOrdinalsR a b = if goodT (prodT a b) then prodT a b else .nil := by simp only [MultiplyOrdinalsR, hk]
  rw [hr, hk]
  simp only [run0, run1, run2, run3, run4, run5, run6, run7, run8, run9, run10, run11, run12, run13, run14, run15, run16, run17, run18, run19, run20, run21, run22, reduceCtorEq, Nat.reduceEqDiff, Nat.reduceAdd, Nat.reduceSub, Nat.reduceLeDiff, indexAddrA, indexRefA, appendA, strA, Nat.reduceMul, Nat.zero_mul, Nat.reduceMod, Int.reduceEq, Int.reduceLT, Int.reduceLE, Nat.reduceLT, Nat.lt_irrefl, Nat.reduceBEq, tys0, tys1, tys2, tys3, tys4, tys5, tys6, tys7, tys8, tys9, tys10, Try.ntmps42, Try.results42, gb]
  refine RunL.callp rfl rfl ok_f75 (odTimes_good a b ga gb) (by first | rfl | simp only [pureL, pureB, Bool.and_self, Bool.and_true, Bool.true_and, Od.elems_pure, Od.pay_pure, Od.av_pure]) rfl ?_
  simp only [run0, run1, run2, run3, run4, run5, run6, run7, run8, run9, run10, run11, run12, run13, run14, run15, run16, run17, run18, run19, run20, run21, run22, reduceCtorEq, Nat.reduceEqDiff, Nat.reduceAdd, Nat.reduceSub, Nat.reduceLeDiff, indexAddrA, indexRefA, appendA, strA, Nat.reduceMul, Nat.zero_mul, Nat.reduceMod, Int.reduceEq, Int.reduceLT, Int.reduceLE, Nat.reduceLT, Nat.lt_irrefl, Nat.reduceBEq, tys0, tys1, tys2, tys3, tys4, tys5, tys6, tys7, tys8, tys9, tys10, Try.ntmps42, Try.results42]
  refine RunL.callp rfl rfl ok_f62 (odIf_ok (prodT a b) hsz) (by first | rfl | simp only [pureL, pureB, Bool.and_self, Bool.and_true, Bool.true_and, Od.elems_pure, Od.pay_pure, Od.av_pure]) rfl ?_
  simp only [run0, run1, run2, run3, run4, run5, run6, run7, run8, run9, run10, run11, run12, run13, run14, run15, run16, run17, run18, run19, run20, run21, run22, reduceCtorEq, Nat.reduceEqDiff, Nat.reduceAdd, Nat.reduceSub, Nat.reduceLeDiff, indexAddrA, indexRefA, appendA, strA, Nat.reduceMul, Nat.zero_mul, Nat.reduceMod, Int.reduceEq, Int.reduceLT, Int.reduceLE, Nat.reduceLT, Nat.lt_irrefl, Nat.reduceBEq, tys0, tys1, tys2, tys3, tys4, tys5, tys6, tys7, tys8, tys9, tys10, Try.ntmps42, Try.results42, av]
  exact Fin.eq rfl (by simp only [pureB, pureL, elems_pure, Bool.and_self])

theorem FnExactMultiplyOrdinals_ok {a0 a1 : AV} (h0 : IsOf Try.prog 24 a0) (h1 : IsOf Try.prog 24 a1) : Ct Try.prog 14 [a0, a1] [] (.bool true) [] := by
  obtain ⟨a, rfl, hf⟩ := laws_isOd h0
  obtain ⟨b, rfl, hft2⟩ := laws_isOd h1
  rcases szR_spec a.sz 1048576 with ⟨hs, hr⟩ | ⟨hs, hr⟩
  case inr =>
    refine Ct.by_ hmix [] Try.func14 rfl ?_
    simp only [run0, run1, run2, run3, run4, run5, run6, run7, run8, run9, run10, run11, run12, run13, run14, run15, run16, run17, run18, run19, run20, run21, run22, reduceCtorEq, Nat.reduceEqDiff, Nat.reduceAdd, Nat.reduceSub, Nat.reduceLeDiff, indexAddrA, indexRefA, appendA, strA, Nat.reduceMul, Nat.zero_mul, Nat.reduceMod, Int.reduceEq, Int.reduceLT, Int.reduceLE, Nat.reduceLT, Nat.lt_irrefl, Nat.reduceBEq, tys0, tys1, tys2, tys3, tys4, tys5, tys6, tys7, tys8, tys9, tys10, Try.ntmps14, Try.results14, av]
    refine RunL.callp rfl rfl ok_f15 (szOrdinal_ok a 1048576 hf (by omega) (by omega)) (by first | rfl | simp only [pureL, pureB, Bool.and_self, Bool.and_true, Bool.true_and, Od.elems_pure, Od.pay_pure, Od.av_pure]) rfl ?_
    have e1 : szR a.sz 1048576 < 0 := by omega
    simp only [run0, run1, run2, run3, run4, run5, run6, run7, run8, run9, run10, run11, run12, run13, run14, run15, run16, run17, run18, run19, run20, run21, run22, reduceCtorEq, Nat.reduceEqDiff, Nat.reduceAdd, Nat.reduceSub, Nat.reduceLeDiff, indexAddrA, indexRefA, appendA, strA, Nat.reduceMul, Nat.zero_mul, Nat.reduceMod, Int.reduceEq, Int.reduceLT, Int.reduceLE, Nat.reduceLT, Nat.lt_irrefl, Nat.reduceBEq, tys0, tys1, tys2, tys3, tys4, tys5, tys6, tys7, tys8, tys9, tys10, Try.ntmps14, Try.results14, e1]
    exact Fin.eq rfl rfl
  have ha : a.sz ≤ 1048576 := by omega
  have e1 : ¬ (szR a.sz 1048576 < 0) := by omega
  rcases szR_spec b.sz (szR a.sz 1048576) with ⟨hs2, hr2⟩ | ⟨hs2, hr2⟩
  case inr =>
    refine Ct.by_ hmix [] Try.func14 rfl ?_
    simp only [run0, run1, run2, run3, run4, run5, run6, run7, run8, run9, run10, run11, run12, run13, run14, run15, run16, run17, run18, run19, run20, run21, run22, reduceCtorEq, Nat.reduceEqDiff, Nat.reduceAdd, Nat.reduceSub, Nat.reduceLeDiff, indexAddrA, indexRefA, appendA, strA, Nat.reduceMul, Nat.zero_mul, Nat.reduceMod, Int.reduceEq, Int.reduceLT, Int.reduceLE, Nat.reduceLT, Nat.lt_irrefl, Nat.reduceBEq, tys0, tys1, tys2, tys3, tys4, tys5, tys6, tys7, tys8, tys9, tys10, Try.ntmps14, Try.results14, av]
    refine RunL.callp rfl rfl ok_f15 (szOrdinal_ok a 1048576 hf (by omega) (by omega)) (by first | rfl | simp only [pureL, pureB, Bool.and_self, Bool.and_true, Bool.true_and, Od.elems_pure, Od.pay_pure, Od.av_pure]) rfl ?_
    simp only [run0, run1, run2, run3, run4, run5, run6, run7, run8, run9, run10, run11, run12, run13, run14, run15, run16, run17, run18, run19, run20, run21, run22, reduceCtorEq, Nat.reduceEqDiff, Nat.reduceAdd, Nat.reduceSub, Nat.reduceLeDiff, indexAddrA, indexRefA, appendA, strA, Nat.reduceMul, Nat.zero_mul, Nat.reduceMod, Int.reduceEq, Int.reduceLT, Int.reduceLE, Nat.reduceLT, Nat.lt_irrefl, Nat.reduceBEq, tys0, tys1, tys2, tys3, tys4, tys5, tys6, tys7, tys8, tys9, tys10, Try.ntmps14, Try.results14, e1]
    refine RunL.callp rfl rfl ok_f15 (szOrdinal_ok b (szR a.sz 1048576) hft2 (by omega) (by omega)) (by first | rfl | simp only [pureL, pureB, Bool.and_self, Bool.and_true, Bool.true_and, Od.elems_pure, Od.pay_pure, Od.av_pure]) rfl ?_
    have e2 : szR b.sz (szR a.sz 1048576) < 0 := by omega
    simp only [run0, run1, run2, run3, run4, run5, run6, run7, run8, run9, run10, run11, run12, run13, run14, run15, run16, run17, run18, run19, run20, run21, run22, reduceCtorEq, Nat.reduceEqDiff, Nat.reduceAdd, Nat.reduceSub, Nat.reduceLeDiff, indexAddrA, indexRefA, appendA, strA, Nat.reduceMul, Nat.zero_mul, Nat.reduceMod, Int.reduceEq, Int.reduceLT, Int.reduceLE, Nat.reduceLT, Nat.lt_irrefl, Nat.reduceBEq, tys0, tys1, tys2, tys3, tys4, tys5, tys6, tys7, tys8, tys9, tys10, Try.ntmps14, Try.results14, e2]
    exact Fin.eq rfl rfl
  have hb : b.sz ≤ 1048576 := by omega
  have e2 : ¬ (szR b.sz (szR a.sz 1048576) < 0) := by omega
  generalize hR : MultiplyOrdinalsR a b = R
  generalize hO : MultiplyOrdinalsOk a b = ok
  have hsp := specMultiplyOrdinals_ok a b ha hb
  obtain ⟨g, M1, hi, S1, ho1, hn1, hM1⟩ := implMultiplyOrdinals_ok a b ha hb
  rw [hR, hO] at hsp
  rw [hO] at hi
  rw [hR] at ho1
  have hRs : R.sz ≤ 1048576 := by rw [← hR]; exact MultiplyOrdinalsR_sz a b ha hb
  obtain ⟨x, M0, hx, S0, ho0, hn0, hM0⟩ := toOrdinalOwn_ok a ha
  obtain ⟨y, My, hy, Sy, hoy, hny, hMy⟩ := toOrdinalOwn_ok b hb
  generalize hB1 : AObj.box 24 [.sl false (elems a)] = B1 at *
  generalize hB2 : AObj.box 24 [.sl false (elems b)] = B2 at *
  generalize hBW : AObj.box 29 [.sl false (elems R)] = BW at *
  -- the memory behind all
  generalize hM0' : M0.map (shO 3) = N0 at *
  generalize hMy' : My.map (shO (N0.length + 1 + 1 + 1 + 1)) = Ny at *
  generalize hM1' : M1.map (shO (N0.length + (Ny.length + 1 + 1) + 1 + 1 + 1)) = N1 at *
  have ox : ∀ X, OwnR (B1 :: B2 :: BW :: (N0 ++ X)) 53 2 a (shA 3 x) (S0.map (· + 3)) := fun X =>
    (OwnR.sh (L' := B1 :: B2 :: BW :: N0) (fun id => by simp [← hM0']) ho0).more X
  generalize hx' : shA 3 x = X0 at *
  have n0 := nodup_add 3 hn0
  generalize hS0 : S0.map (· + 3) = T0 at *
  generalize hBX : AObj.box 29 [X0] = BX at *
  have oy : ∀ X, OwnR (B1 :: B2 :: BW :: (N0 ++ BX :: (Ny ++ X))) 53 2 b (shA (N0.length + 1 + 1 + 1 + 1) y) (Sy.map (· + (N0.length + 1 + 1 + 1 + 1))) := fun X => by
    have := (OwnR.sh (L' := B1 :: B2 :: BW :: (N0 ++ BX :: Ny)) (fun id => by
      rw [show id + (N0.length + 1 + 1 + 1 + 1) = (N0.length + (id + 1)) + 3 by omega]
      simp only [List.getElem?_cons_succ]
      rw [getXn, List.getElem?_cons_succ, ← hMy', List.getElem?_map]) hoy).more X
    simp only [List.cons_append, List.append_assoc] at this
    exact this
  have ny := nodup_add (N0.length + 1 + 1 + 1 + 1) hny
  generalize hY : shA (N0.length + 1 + 1 + 1 + 1) y = Y0 at *
  generalize hSy : Sy.map (· + (N0.length + 1 + 1 + 1 + 1)) = Ty at *
  generalize hBY : AObj.box 29 [Y0] = BY at *
  have og : ∀ X, OwnR (B1 :: B2 :: BW :: (N0 ++ BX :: (Ny ++ BY :: (N1 ++ X)))) 53 2 R (shA (N0.length + (Ny.length + 1 + 1) + 1 + 1 + 1) g) (S1.map (· + (N0.length + (Ny.length + 1 + 1) + 1 + 1 + 1))) := fun X => by
    have := (OwnR.sh (L' := B1 :: B2 :: BW :: (N0 ++ BX :: (Ny ++ BY :: N1))) (fun id => by
      rw [show id + (N0.length + (Ny.length + 1 + 1) + 1 + 1 + 1) = (N0.length + ((Ny.length + (id + 1)) + 1)) + 3 by omega]
      simp only [List.getElem?_cons_succ]
      rw [getXn, List.getElem?_cons_succ, getXn, List.getElem?_cons_succ, ← hM1', List.getElem?_map]) ho1).more X
    simp only [List.cons_append, List.append_assoc] at this
    exact this
  have n1 := nodup_add (N0.length + (Ny.length + 1 + 1) + 1 + 1 + 1) hn1
  have oS : okS (.tup [.agg [g], .bool ok]) = true := okS_res ho1.form.1
  generalize hG : shA (N0.length + (Ny.length + 1 + 1) + 1 + 1 + 1) g = G0 at *
  generalize hS1 : S1.map (· + (N0.length + (Ny.length + 1 + 1) + 1 + 1 + 1)) = T1 at *
  have xlt : ∀ id ∈ T0, id < N0.length + 3 := fun id hid => by have := (ox []).lt id hid; simpa using this
  have ylo : ∀ id ∈ Ty, N0.length + 4 ≤ id := fun id hid => by
    rw [← hSy] at hid
    obtain ⟨q, _, rfl⟩ := List.mem_map.1 hid
    omega
  have ylt : ∀ id ∈ Ty, id < N0.length + Ny.length + 4 := fun id hid => by
    have := (oy []).lt id hid
    simp at this; omega
  have glo : ∀ id ∈ T1, N0.length + Ny.length + 5 ≤ id := fun id hid => by
    rw [← hS1] at hid
    obtain ⟨q, _, rfl⟩ := List.mem_map.1 hid
    omega
  have nbox : ∀ {L : List AObj} {b : Od} {y : AV} {S : List Nat} {id : Nat} {T : TypeId} {cs : List AV}, OwnR L 53 2 b y S → L[id]? = some (.box T cs) → id ∉ S := fun h hb hid => by
    obtain ⟨_, _, h2, _⟩ := h.objs _ hid
    rw [hb] at h2; cases h2
  generalize hBG : AObj.box 29 [G0] = BG at *
  -- the marks of the arguments
  obtain ⟨L0, hc0, hm0, hf0, hl0⟩ := markOrdinal_ok a X0 T0 (B1 :: B2 :: BW :: (N0 ++ BX :: (Ny ++ BY :: (N1 ++ [BG])))) 1 (ox _) n0 (by omega) (by omega)
  have keep0 : ∀ (id : Nat) o, (B1 :: B2 :: BW :: (N0 ++ BX :: (Ny ++ BY :: (N1 ++ [BG]))) : List AObj)[id]? = some o → id ∉ T0 → L0[id]? = some o := fun id o h hn => by
    rw [hf0 id hn (List.getElem?_eq_some_iff.1 h).1]; exact h
  have keepB0 : ∀ (id : Nat) T cs, (B1 :: B2 :: BW :: (N0 ++ BX :: (Ny ++ BY :: (N1 ++ [BG]))) : List AObj)[id]? = some (.box T cs) → L0[id]? = some (.box T cs) := fun id T cs h => keep0 id _ h (nbox (ox _) h)
  have oy0 : OwnR L0 53 2 b Y0 Ty := (oy _).mono fun id hid g1 es1 h => keep0 id _ h (fun h2 => by have := xlt id h2; have := ylo id hid; omega)
  have og0 : OwnR L0 53 2 R G0 T1 := (og _).mono fun id hid g1 es1 h => keep0 id _ h (fun h2 => by have := xlt id h2; have := glo id hid; omega)
  have s0 : L0[0]? = some B1 := by rw [← hB1]; exact keepB0 0 _ _ (by rw [hB1]; rfl)
  have s1 : L0[1]? = some B2 := by rw [← hB2]; exact keepB0 1 _ _ (by rw [hB2]; rfl)
  have s2 : L0[2]? = some BW := by rw [← hBW]; exact keepB0 2 _ _ (by rw [hBW]; rfl)
  have s9 : L0[N0.length + (Ny.length + 1) + 1 + 1 + 1]? = some BY := by
    rw [← hBY]; exact keepB0 _ _ _ (by rw [hBY]; simp only [List.getElem?_cons_succ, getXn, getX0, List.getElem?_cons_zero])
  have s10 : L0[N0.length + (Ny.length + (N1.length + 1) + 1) + 1 + 1 + 1]? = some BG := by
    rw [← hBG]; exact keepB0 _ _ _ (by rw [hBG]; simp only [List.getElem?_cons_succ, getXn, getX0, List.getElem?_cons_zero])
  obtain ⟨L1, hc1, hm1, hf1, hl1⟩ := markOrdinal_ok b Y0 Ty L0 (1 + a.sz) oy0 ny (by omega) (by omega)
  have keepB1 : ∀ {id : Nat} {T : TypeId} {cs : List AV}, L0[id]? = some (.box T cs) → L1[id]? = some (.box T cs) := fun h => by
    rw [hf1 _ (nbox oy0 h) (List.getElem?_eq_some_iff.1 h).1]; exact h
  have q0 : L1[0]? = some B1 := by rw [← hB1] at *; exact keepB1 s0
  have q1 : L1[1]? = some B2 := by rw [← hB2] at *; exact keepB1 s1
  have q2 : L1[2]? = some BW := by rw [← hBW] at *; exact keepB1 s2
  have q10 : L1[N0.length + (Ny.length + (N1.length + 1) + 1) + 1 + 1 + 1]? = some BG := by rw [← hBG] at *; exact keepB1 s10
  have og1 : OwnR L1 53 2 R G0 T1 := og0.mono fun id hid g1 es1 h => by
    rw [hf1 id (fun h2 => by have := ylt id h2; have := glo id hid; omega) (List.getElem?_eq_some_iff.1 h).1]; exact h
  -- the marks of the result
  obtain ⟨L2, hc2, og2, hf2, hl2⟩ := markOrdinal_ok R G0 T1 L1 1 og1 n1 (by omega) (by omega)
  have keepB2 : ∀ {id : Nat} {T : TypeId} {cs : List AV}, L1[id]? = some (.box T cs) → L2[id]? = some (.box T cs) := fun h => by
    rw [hf2 _ (nbox og1 h) (List.getElem?_eq_some_iff.1 h).1]; exact h
  have p0 : L2[0]? = some B1 := by rw [← hB1] at *; exact keepB2 q0
  have p1 : L2[1]? = some B2 := by rw [← hB2] at *; exact keepB2 q1
  have p2 : L2[2]? = some BW := by rw [← hBW] at *; exact keepB2 q2
  have p10 : L2[N0.length + (Ny.length + (N1.length + 1) + 1) + 1 + 1 + 1]? = some BG := by rw [← hBG] at *; exact keepB2 q10
  have r2 : ∀ X, (L2 ++ X)[2]? = some BW := fun X => by rw [List.getElem?_append_left (List.getElem?_eq_some_iff.1 p2).1]; exact p2
  have r10 : ∀ X, (L2 ++ X)[N0.length + (Ny.length + (N1.length + 1) + 1) + 1 + 1 + 1]? = some BG := fun X => by rw [List.getElem?_append_left (List.getElem?_eq_some_iff.1 p10).1]; exact p10
  have oh : ∀ X, OwnR (L2 ++ (M1.map (shO L2.length) ++ X)) 53 2 R (shA L2.length g) (S1.map (· + L2.length)) := fun X => by
    rw [← List.append_assoc]; exact (OwnR.sh (more_get L2 M1) ho1).more X
  have hiv : Ct Try.prog 43 [av a, av b] [] (.tup [av R, .bool ok]) [] := hi.toV (Vw.tup (.cons (Vw.agg (.cons (ho1.view false) .nil)) (.cons (Vw.pur (Pur.bool _)) .nil)))
  have e3 : ¬ (1 + (a.sz : Int) + (b.sz : Int) < 0) := by omega
  have e4 : ¬ (1 + (R.sz : Int) < 0) := by omega
  subst hB1 hB2 hBW hBX hBY hBG
  refine Ct.by_ hmix [19] Try.func14 rfl ?_
  simp only [run0, run1, run2, run3, run4, run5, run6, run7, run8, run9, run10, run11, run12, run13, run14, run15, run16, run17, run18, run19, run20, run21, run22, reduceCtorEq, Nat.reduceEqDiff, Nat.reduceAdd, Nat.reduceSub, Nat.reduceLeDiff, indexAddrA, indexRefA, appendA, strA, Nat.reduceMul, Nat.zero_mul, Nat.reduceMod, Int.reduceEq, Int.reduceLT, Int.reduceLE, Nat.reduceLT, Nat.lt_irrefl, Nat.reduceBEq, tys0, tys1, tys2, tys3, tys4, tys5, tys6, tys7, tys8, tys9, tys10, Try.ntmps14, Try.results14, av]
  refine RunL.callp rfl rfl ok_f15 (szOrdinal_ok a 1048576 hf (by omega) (by omega)) (by first | rfl | simp only [pureL, pureB, Bool.and_self, Bool.and_true, Bool.true_and, Od.elems_pure, Od.pay_pure, Od.av_pure]) rfl ?_
  simp only [run0, run1, run2, run3, run4, run5, run6, run7, run8, run9, run10, run11, run12, run13, run14, run15, run16, run17, run18, run19, run20, run21, run22, reduceCtorEq, Nat.reduceEqDiff, Nat.reduceAdd, Nat.reduceSub, Nat.reduceLeDiff, indexAddrA, indexRefA, appendA, strA, Nat.reduceMul, Nat.zero_mul, Nat.reduceMod, Int.reduceEq, Int.reduceLT, Int.reduceLE, Nat.reduceLT, Nat.lt_irrefl, Nat.reduceBEq, tys0, tys1, tys2, tys3, tys4, tys5, tys6, tys7, tys8, tys9, tys10, Try.ntmps14, Try.results14, e1]
  refine RunL.callp rfl rfl ok_f15 (szOrdinal_ok b (szR a.sz 1048576) hft2 (by omega) (by omega)) (by first | rfl | simp only [pureL, pureB, Bool.and_self, Bool.and_true, Bool.true_and, Od.elems_pure, Od.pay_pure, Od.av_pure]) rfl ?_
  simp only [run0, run1, run2, run3, run4, run5, run6, run7, run8, run9, run10, run11, run12, run13, run14, run15, run16, run17, run18, run19, run20, run21, run22, reduceCtorEq, Nat.reduceEqDiff, Nat.reduceAdd, Nat.reduceSub, Nat.reduceLeDiff, indexAddrA, indexRefA, appendA, strA, Nat.reduceMul, Nat.zero_mul, Nat.reduceMod, Int.reduceEq, Int.reduceLT, Int.reduceLE, Nat.reduceLT, Nat.lt_irrefl, Nat.reduceBEq, tys0, tys1, tys2, tys3, tys4, tys5, tys6, tys7, tys8, tys9, tys10, Try.ntmps14, Try.results14, e2]
  refine ⟨by kernel_rfl, ?_⟩
  refine RunL.callp rfl rfl ok_f17 (toOrdinal_ok a ha) (by first | rfl | simp only [pureL, pureB, Bool.and_self, Bool.and_true, Bool.true_and, Od.elems_pure, Od.pay_pure, Od.av_pure]) rfl ?_
  simp only [run0, run1, run2, run3, run4, run5, run6, run7, run8, run9, run10, run11, run12, run13, run14, run15, run16, run17, run18, run19, run20, run21, run22, reduceCtorEq, Nat.reduceEqDiff, Nat.reduceAdd, Nat.reduceSub, Nat.reduceLeDiff, indexAddrA, indexRefA, appendA, strA, Nat.reduceMul, Nat.zero_mul, Nat.reduceMod, Int.reduceEq, Int.reduceLT, Int.reduceLE, Nat.reduceLT, Nat.lt_irrefl, Nat.reduceBEq, tys0, tys1, tys2, tys3, tys4, tys5, tys6, tys7, tys8, tys9, tys10, Try.ntmps14, Try.results14, av]
  refine RunL.callp rfl rfl ok_f17 (toOrdinal_ok b hb) (by first | rfl | simp only [pureL, pureB, Bool.and_self, Bool.and_true, Bool.true_and, Od.elems_pure, Od.pay_pure, Od.av_pure]) rfl ?_
  simp only [run0, run1, run2, run3, run4, run5, run6, run7, run8, run9, run10, run11, run12, run13, run14, run15, run16, run17, run18, run19, run20, run21, run22, reduceCtorEq, Nat.reduceEqDiff, Nat.reduceAdd, Nat.reduceSub, Nat.reduceLeDiff, indexAddrA, indexRefA, appendA, strA, Nat.reduceMul, Nat.zero_mul, Nat.reduceMod, Int.reduceEq, Int.reduceLT, Int.reduceLE, Nat.reduceLT, Nat.lt_irrefl, Nat.reduceBEq, tys0, tys1, tys2, tys3, tys4, tys5, tys6, tys7, tys8, tys9, tys10, Try.ntmps14, Try.results14, av]
  refine RunL.callp rfl rfl ok_f42 (hsp) (by first | rfl | simp only [pureL, pureB, Bool.and_self, Bool.and_true, Bool.true_and, Od.elems_pure, Od.pay_pure, Od.av_pure]) rfl ?_
  simp only [run0, run1, run2, run3, run4, run5, run6, run7, run8, run9, run10, run11, run12, run13, run14, run15, run16, run17, run18, run19, run20, run21, run22, reduceCtorEq, Nat.reduceEqDiff, Nat.reduceAdd, Nat.reduceSub, Nat.reduceLeDiff, indexAddrA, indexRefA, appendA, strA, Nat.reduceMul, Nat.zero_mul, Nat.reduceMod, Int.reduceEq, Int.reduceLT, Int.reduceLE, Nat.reduceLT, Nat.lt_irrefl, Nat.reduceBEq, tys0, tys1, tys2, tys3, tys4, tys5, tys6, tys7, tys8, tys9, tys10, Try.ntmps14, Try.results14, av]
  refine RunL.callgp rfl rfl ok_f17 rfl hx (by simp only [pureL, pureB, av_pure, Bool.and_self]) rfl ?_
  simp only [run0, run1, run2, run3, run4, run5, run6, run7, run8, run9, run10, run11, run12, run13, run14, run15, run16, run17, run18, run19, run20, run21, run22, reduceCtorEq, Nat.reduceEqDiff, Nat.reduceAdd, Nat.reduceSub, Nat.reduceLeDiff, indexAddrA, indexRefA, appendA, strA, Nat.reduceMul, Nat.zero_mul, Nat.reduceMod, Int.reduceEq, Int.reduceLT, Int.reduceLE, Nat.reduceLT, Nat.lt_irrefl, Nat.reduceBEq, tys0, tys1, tys2, tys3, tys4, tys5, tys6, tys7, tys8, tys9, tys10, Try.ntmps14, Try.results14, shA, shL, hx', hM0', setXn]
  refine RunL.callgp rfl rfl ok_f17 rfl hy (by simp only [pureL, pureB, av_pure, Bool.and_self]) rfl ?_
  simp only [run0, run1, run2, run3, run4, run5, run6, run7, run8, run9, run10, run11, run12, run13, run14, run15, run16, run17, run18, run19, run20, run21, run22, reduceCtorEq, Nat.reduceEqDiff, Nat.reduceAdd, Nat.reduceSub, Nat.reduceLeDiff, indexAddrA, indexRefA, appendA, strA, Nat.reduceMul, Nat.zero_mul, Nat.reduceMod, Int.reduceEq, Int.reduceLT, Int.reduceLE, Nat.reduceLT, Nat.lt_irrefl, Nat.reduceBEq, tys0, tys1, tys2, tys3, tys4, tys5, tys6, tys7, tys8, tys9, tys10, Try.ntmps14, Try.results14, shA, shL, hY, hMy', setXn]
  refine RunL.lendGV rfl rfl ok_f43 rfl hi (.cons (vw1 (ox _)) (.cons (vw1 (oy _)) .nil)) oS hM1 rfl ?_
  simp only [run0, run1, run2, run3, run4, run5, run6, run7, run8, run9, run10, run11, run12, run13, run14, run15, run16, run17, run18, run19, run20, run21, run22, reduceCtorEq, Nat.reduceEqDiff, Nat.reduceAdd, Nat.reduceSub, Nat.reduceLeDiff, indexAddrA, indexRefA, appendA, strA, Nat.reduceMul, Nat.zero_mul, Nat.reduceMod, Int.reduceEq, Int.reduceLT, Int.reduceLE, Nat.reduceLT, Nat.lt_irrefl, Nat.reduceBEq, tys0, tys1, tys2, tys3, tys4, tys5, tys6, tys7, tys8, tys9, tys10, Try.ntmps14, Try.results14, shA, shL, hM1', hG, setXn]
  refine RunL.lendV rfl rfl ok_f19 rfl (eqOrdinal_ok R R hRs) (vwl2 (og _)) rfl rfl ?_
  simp only [run0, run1, run2, run3, run4, run5, run6, run7, run8, run9, run10, run11, run12, run13, run14, run15, run16, run17, run18, run19, run20, run21, run22, reduceCtorEq, Nat.reduceEqDiff, Nat.reduceAdd, Nat.reduceSub, Nat.reduceLeDiff, indexAddrA, indexRefA, appendA, strA, Nat.reduceMul, Nat.zero_mul, Nat.reduceMod, Int.reduceEq, Int.reduceLT, Int.reduceLE, Nat.reduceLT, Nat.lt_irrefl, Nat.reduceBEq, tys0, tys1, tys2, tys3, tys4, tys5, tys6, tys7, tys8, tys9, tys10, Try.ntmps14, Try.results14, eqT_refl, bne_self_eq_false]
  refine ⟨by kernel_rfl, ?_⟩
  refine RunL.callp rfl rfl ok_f17 (toOrdinal_ok a ha) (by first | rfl | simp only [pureL, pureB, Bool.and_self, Bool.and_true, Bool.true_and, Od.elems_pure, Od.pay_pure, Od.av_pure]) rfl ?_
  simp only [run0, run1, run2, run3, run4, run5, run6, run7, run8, run9, run10, run11, run12, run13, run14, run15, run16, run17, run18, run19, run20, run21, run22, reduceCtorEq, Nat.reduceEqDiff, Nat.reduceAdd, Nat.reduceSub, Nat.reduceLeDiff, indexAddrA, indexRefA, appendA, strA, Nat.reduceMul, Nat.zero_mul, Nat.reduceMod, Int.reduceEq, Int.reduceLT, Int.reduceLE, Nat.reduceLT, Nat.lt_irrefl, Nat.reduceBEq, tys0, tys1, tys2, tys3, tys4, tys5, tys6, tys7, tys8, tys9, tys10, Try.ntmps14, Try.results14, av]
  refine RunL.lendV rfl rfl ok_f19 rfl (eqOrdinal_ok a a ha) (vwl2 (ox _)) rfl rfl ?_
  simp only [run0, run1, run2, run3, run4, run5, run6, run7, run8, run9, run10, run11, run12, run13, run14, run15, run16, run17, run18, run19, run20, run21, run22, reduceCtorEq, Nat.reduceEqDiff, Nat.reduceAdd, Nat.reduceSub, Nat.reduceLeDiff, indexAddrA, indexRefA, appendA, strA, Nat.reduceMul, Nat.zero_mul, Nat.reduceMod, Int.reduceEq, Int.reduceLT, Int.reduceLE, Nat.reduceLT, Nat.lt_irrefl, Nat.reduceBEq, tys0, tys1, tys2, tys3, tys4, tys5, tys6, tys7, tys8, tys9, tys10, Try.ntmps14, Try.results14, eqT_refl]
  refine ⟨by kernel_rfl, ?_⟩
  refine RunL.callp rfl rfl ok_f17 (toOrdinal_ok b hb) (by first | rfl | simp only [pureL, pureB, Bool.and_self, Bool.and_true, Bool.true_and, Od.elems_pure, Od.pay_pure, Od.av_pure]) rfl ?_
  simp only [run0, run1, run2, run3, run4, run5, run6, run7, run8, run9, run10, run11, run12, run13, run14, run15, run16, run17, run18, run19, run20, run21, run22, reduceCtorEq, Nat.reduceEqDiff, Nat.reduceAdd, Nat.reduceSub, Nat.reduceLeDiff, indexAddrA, indexRefA, appendA, strA, Nat.reduceMul, Nat.zero_mul, Nat.reduceMod, Int.reduceEq, Int.reduceLT, Int.reduceLE, Nat.reduceLT, Nat.lt_irrefl, Nat.reduceBEq, tys0, tys1, tys2, tys3, tys4, tys5, tys6, tys7, tys8, tys9, tys10, Try.ntmps14, Try.results14, av]
  refine RunL.lendV rfl rfl ok_f19 rfl (eqOrdinal_ok b b hb) (vwl2 (oy _)) rfl rfl ?_
  simp only [run0, run1, run2, run3, run4, run5, run6, run7, run8, run9, run10, run11, run12, run13, run14, run15, run16, run17, run18, run19, run20, run21, run22, reduceCtorEq, Nat.reduceEqDiff, Nat.reduceAdd, Nat.reduceSub, Nat.reduceLeDiff, indexAddrA, indexRefA, appendA, strA, Nat.reduceMul, Nat.zero_mul, Nat.reduceMod, Int.reduceEq, Int.reduceLT, Int.reduceLE, Nat.reduceLT, Nat.lt_irrefl, Nat.reduceBEq, tys0, tys1, tys2, tys3, tys4, tys5, tys6, tys7, tys8, tys9, tys10, Try.ntmps14, Try.results14, eqT_refl]
  refine RunL.callM rfl rfl ok_f28 rfl rfl hc0 rfl ?_
  simp only [run0, run1, run2, run3, run4, run5, run6, run7, run8, run9, run10, run11, run12, run13, run14, run15, run16, run17, run18, run19, run20, run21, run22, reduceCtorEq, Nat.reduceEqDiff, Nat.reduceAdd, Nat.reduceSub, Nat.reduceLeDiff, indexAddrA, indexRefA, appendA, strA, Nat.reduceMul, Nat.zero_mul, Nat.reduceMod, Int.reduceEq, Int.reduceLT, Int.reduceLE, Nat.reduceLT, Nat.lt_irrefl, Nat.reduceBEq, tys0, tys1, tys2, tys3, tys4, tys5, tys6, tys7, tys8, tys9, tys10, Try.ntmps14, Try.results14, s0, s1, s2, s9, s10]
  refine RunL.callM rfl rfl ok_f28 rfl rfl hc1 rfl ?_
  simp only [run0, run1, run2, run3, run4, run5, run6, run7, run8, run9, run10, run11, run12, run13, run14, run15, run16, run17, run18, run19, run20, run21, run22, reduceCtorEq, Nat.reduceEqDiff, Nat.reduceAdd, Nat.reduceSub, Nat.reduceLeDiff, indexAddrA, indexRefA, appendA, strA, Nat.reduceMul, Nat.zero_mul, Nat.reduceMod, Int.reduceEq, Int.reduceLT, Int.reduceLE, Nat.reduceLT, Nat.lt_irrefl, Nat.reduceBEq, tys0, tys1, tys2, tys3, tys4, tys5, tys6, tys7, tys8, tys9, tys10, Try.ntmps14, Try.results14, e3, q0, q1, q2, q10]
  refine RunL.lendV rfl rfl ok_f19 rfl (eqOrdinal_ok R R hRs) (vwl2 og1) rfl rfl ?_
  simp only [run0, run1, run2, run3, run4, run5, run6, run7, run8, run9, run10, run11, run12, run13, run14, run15, run16, run17, run18, run19, run20, run21, run22, reduceCtorEq, Nat.reduceEqDiff, Nat.reduceAdd, Nat.reduceSub, Nat.reduceLeDiff, indexAddrA, indexRefA, appendA, strA, Nat.reduceMul, Nat.zero_mul, Nat.reduceMod, Int.reduceEq, Int.reduceLT, Int.reduceLE, Nat.reduceLT, Nat.lt_irrefl, Nat.reduceBEq, tys0, tys1, tys2, tys3, tys4, tys5, tys6, tys7, tys8, tys9, tys10, Try.ntmps14, Try.results14, eqT_refl, bne_self_eq_false, q0, q1, q2, q10]
  refine RunL.callM rfl rfl ok_f28 rfl rfl hc2 rfl ?_
  simp only [run0, run1, run2, run3, run4, run5, run6, run7, run8, run9, run10, run11, run12, run13, run14, run15, run16, run17, run18, run19, run20, run21, run22, reduceCtorEq, Nat.reduceEqDiff, Nat.reduceAdd, Nat.reduceSub, Nat.reduceLeDiff, indexAddrA, indexRefA, appendA, strA, Nat.reduceMul, Nat.zero_mul, Nat.reduceMod, Int.reduceEq, Int.reduceLT, Int.reduceLE, Nat.reduceLT, Nat.lt_irrefl, Nat.reduceBEq, tys0, tys1, tys2, tys3, tys4, tys5, tys6, tys7, tys8, tys9, tys10, Try.ntmps14, Try.results14, p0, p1, p2, p10]
  refine RunL.lendV rfl rfl ok_f29 rfl (heldOrdinal_ok R 1 (by omega) (by omega)) (vwl3 og2) rfl rfl ?_
  simp only [run0, run1, run2, run3, run4, run5, run6, run7, run8, run9, run10, run11, run12, run13, run14, run15, run16, run17, run18, run19, run20, run21, run22, reduceCtorEq, Nat.reduceEqDiff, Nat.reduceAdd, Nat.reduceSub, Nat.reduceLeDiff, indexAddrA, indexRefA, appendA, strA, Nat.reduceMul, Nat.zero_mul, Nat.reduceMod, Int.reduceEq, Int.reduceLT, Int.reduceLE, Nat.reduceLT, Nat.lt_irrefl, Nat.reduceBEq, tys0, tys1, tys2, tys3, tys4, tys5, tys6, tys7, tys8, tys9, tys10, Try.ntmps14, Try.results14, e4, p0, p1, p2, p10, bne_self_eq_false]
  refine ⟨by kernel_rfl, ?_⟩
  refine RunL.callp rfl rfl ok_f17 (toOrdinal_ok a ha) (by first | rfl | simp only [pureL, pureB, Bool.and_self, Bool.and_true, Bool.true_and, Od.elems_pure, Od.pay_pure, Od.av_pure]) rfl ?_
  simp only [run0, run1, run2, run3, run4, run5, run6, run7, run8, run9, run10, run11, run12, run13, run14, run15, run16, run17, run18, run19, run20, run21, run22, reduceCtorEq, Nat.reduceEqDiff, Nat.reduceAdd, Nat.reduceSub, Nat.reduceLeDiff, indexAddrA, indexRefA, appendA, strA, Nat.reduceMul, Nat.zero_mul, Nat.reduceMod, Int.reduceEq, Int.reduceLT, Int.reduceLE, Nat.reduceLT, Nat.lt_irrefl, Nat.reduceBEq, tys0, tys1, tys2, tys3, tys4, tys5, tys6, tys7, tys8, tys9, tys10, Try.ntmps14, Try.results14, p0, p1]
  refine RunL.callp rfl rfl ok_f17 (toOrdinal_ok b hb) (by first | rfl | simp only [pureL, pureB, Bool.and_self, Bool.and_true, Bool.true_and, Od.elems_pure, Od.pay_pure, Od.av_pure]) rfl ?_
  simp only [run0, run1, run2, run3, run4, run5, run6, run7, run8, run9, run10, run11, run12, run13, run14, run15, run16, run17, run18, run19, run20, run21, run22, reduceCtorEq, Nat.reduceEqDiff, Nat.reduceAdd, Nat.reduceSub, Nat.reduceLeDiff, indexAddrA, indexRefA, appendA, strA, Nat.reduceMul, Nat.zero_mul, Nat.reduceMod, Int.reduceEq, Int.reduceLT, Int.reduceLE, Nat.reduceLT, Nat.lt_irrefl, Nat.reduceBEq, tys0, tys1, tys2, tys3, tys4, tys5, tys6, tys7, tys8, tys9, tys10, Try.ntmps14, Try.results14, p0, p1]
  refine RunL.callp rfl rfl ok_f43 (hiv) (by first | rfl | simp only [pureL, pureB, Bool.and_self, Bool.and_true, Bool.true_and, Od.elems_pure, Od.pay_pure, Od.av_pure]) rfl ?_
  simp only [run0, run1, run2, run3, run4, run5, run6, run7, run8, run9, run10, run11, run12, run13, run14, run15, run16, run17, run18, run19, run20, run21, run22, reduceCtorEq, Nat.reduceEqDiff, Nat.reduceAdd, Nat.reduceSub, Nat.reduceLeDiff, indexAddrA, indexRefA, appendA, strA, Nat.reduceMul, Nat.zero_mul, Nat.reduceMod, Int.reduceEq, Int.reduceLT, Int.reduceLE, Nat.reduceLT, Nat.lt_irrefl, Nat.reduceBEq, tys0, tys1, tys2, tys3, tys4, tys5, tys6, tys7, tys8, tys9, tys10, Try.ntmps14, Try.results14, av, r2, r10, setXn]
  refine RunL.callp rfl rfl ok_f19 (eqOrdinal_ok R R hRs) (by first | rfl | simp only [pureL, pureB, Bool.and_self, Bool.and_true, Bool.true_and, Od.elems_pure, Od.pay_pure, Od.av_pure]) rfl ?_
  simp only [run0, run1, run2, run3, run4, run5, run6, run7, run8, run9, run10, run11, run12, run13, run14, run15, run16, run17, run18, run19, run20, run21, run22, reduceCtorEq, Nat.reduceEqDiff, Nat.reduceAdd, Nat.reduceSub, Nat.reduceLeDiff, indexAddrA, indexRefA, appendA, strA, Nat.reduceMul, Nat.zero_mul, Nat.reduceMod, Int.reduceEq, Int.reduceLT, Int.reduceLE, Nat.reduceLT, Nat.lt_irrefl, Nat.reduceBEq, tys0, tys1, tys2, tys3, tys4, tys5, tys6, tys7, tys8, tys9, tys10, Try.ntmps14, Try.results14, eqT_refl, bne_self_eq_false, r2, r10]
  refine RunL.lendV rfl rfl ok_f29 rfl (heldOrdinal_ok R 1 (by omega) (by omega)) (vwl3 (og2.more _)) rfl rfl ?_
  simp only [run0, run1, run2, run3, run4, run5, run6, run7, run8, run9, run10, run11, run12, run13, run14, run15, run16, run17, run18, run19, run20, run21, run22, reduceCtorEq, Nat.reduceEqDiff, Nat.reduceAdd, Nat.reduceSub, Nat.reduceLeDiff, indexAddrA, indexRefA, appendA, strA, Nat.reduceMul, Nat.zero_mul, Nat.reduceMod, Int.reduceEq, Int.reduceLT, Int.reduceLE, Nat.reduceLT, Nat.lt_irrefl, Nat.reduceBEq, tys0, tys1, tys2, tys3, tys4, tys5, tys6, tys7, tys8, tys9, tys10, Try.ntmps14, Try.results14, e4, bne_self_eq_false]
  exact Fin.eq rfl rfl



end Go.Proofs.Ytcgnpijbdgbffaa
