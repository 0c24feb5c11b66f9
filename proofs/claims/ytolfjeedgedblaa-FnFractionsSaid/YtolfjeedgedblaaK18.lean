/-
  A logic of values for Go's functions (part 18): a call that gives rows of its own, to which the caller lends what it owns.
-/
import Derived.Test.YtolfjeedgedblaaK17
namespace Go.Proofs.Ytolfjeedgedblaa.K
set_option linter.unusedVariables false
set_option linter.unusedSimpArgs false
open Go

def sh1 (k : Nat) : AV → AV
  | .ref id p g n => .ref (id + k) p g n
  | x => x
/-- A result, told where the caller owned 'k' objects ahead of the call. -/
def shR (k : Nat) : AV → AV
  | .tup rs => .tup (rs.map (sh1 k))
  | x => sh1 k x
def ok1 : AV → Bool
  | .ref _ _ _ _ => true
  | x => flatB x
def okR : AV → Bool
  | .tup rs => rs.all ok1
  | x => ok1 x
theorem shR_one {r : AV} (h : ∀ rs, r ≠ .tup rs) (k : Nat) : okR r = ok1 r ∧ shR k r = sh1 k r := by
  cases r <;> first | exact ⟨rfl, rfl⟩ | exact absurd rfl (h _)
/-- Rows whose cells lead to no memory. -/
def okO : AObj → Bool
  | .vec _ _ _ es => noOwn es && es.all fun e => e.cells.all flatB
  | _ => false

theorem Ct.lendOwn {P : Program} {f : FuncId} {xs ys : List AV} {r : AV} {L M : List AObj} (h : Ct P f ys [] r M) (hy : VwL L xs ys) (hr : okR r = true) (hM : M.all okO = true) : Ct P f xs L (shR L.length r) (L ++ M) := by
  intro γ w vs hI ha
  have hI0 := frz_inv hI
  have ha0 : ArgsR (frz γ w) [] ys vs := by
    refine ⟨by rw [ha.1]; exact hy.get.1, fun i y hi => ?_⟩
    obtain ⟨x, hx, hxy⟩ := hy.get.2 i y hi
    exact hxy γ w _ hI (ha.2 i x hx)
  refine (h (frz γ w) w vs hI0 ha0).mono ?_
  rintro e w' ⟨γ1, v, rfl, hI1, hv, _, hS⟩
  let γ' : Nat → Gh := fun b => match γ b with | .ow id p c => .ow id p c | _ => match γ1 b with | .ow id p c => .ow (id + L.length) p c | g => g
  have h1 : ∀ {b id p c}, γ b = .ow id p c → γ' b = .ow id p c ∧ (∃ o, γ1 b = .ro o) ∧ w'.heap[b]? = w.heap[b]? := by
    intro b id p c hb
    obtain ⟨o, ho, _⟩ := hI.ow _ _ _ _ hb
    have := hS.ro b o (by simp [frz, hb, ho])
    exact ⟨by simp [γ', hb], ⟨o, this⟩, by rw [hI1.ro b o this, ho]⟩
  have h2 : ∀ {b}, (∀ id p c, γ b ≠ .ow id p c) → γ' b = (match γ1 b with | .ow id p c => .ow (id + L.length) p c | g => g) := by
    intro b hb
    cases hg : γ b with
    | ow id p c => exact absurd hg (hb id p c)
    | out => simp [γ', hg]
    | ro o => simp [γ', hg]
  have up1 : ∀ {b id p c}, γ1 b = .ow id p c → γ' b = .ow (id + L.length) p c := by
    intro b id p c hb
    rw [h2 (fun id p c he => by obtain ⟨_, ⟨o, ho⟩, _⟩ := h1 he; rw [hb] at ho; cases ho), hb]
  have down : ∀ {b id p c}, γ' b = .ow id p c → γ b = .ow id p c ∨ ((∀ id p c, γ b ≠ .ow id p c) ∧ ∃ id1, id = id1 + L.length ∧ γ1 b = .ow id1 p c) := by
    intro b id p c hb
    by_cases hx : ∃ id p c, γ b = .ow id p c
    · obtain ⟨id', p', c', he⟩ := hx
      rw [(h1 he).1] at hb; cases hb; exact .inl he
    · have hn : ∀ id p c, γ b ≠ .ow id p c := fun id p c he => hx ⟨id, p, c, he⟩
      rw [h2 hn] at hb
      cases hg : γ1 b with
      | ow id1 p1 c1 => rw [hg] at hb; cases hb; exact .inr ⟨hn, id1, rfl, rfl⟩
      | out => rw [hg] at hb; cases hb
      | ro o => rw [hg] at hb; cases hb
  have roD : ∀ b o, γ' b = .ro o → γ1 b = .ro o := by
    intro b o hb
    by_cases hx : ∃ id p c, γ b = .ow id p c
    · obtain ⟨id', p', c', he⟩ := hx
      rw [(h1 he).1] at hb; cases hb
    · rw [h2 (fun id p c he => hx ⟨id, p, c, he⟩)] at hb
      cases hg : γ1 b with
      | ow id1 p1 c1 => rw [hg] at hb; cases hb
      | out => rw [hg] at hb; cases hb
      | ro o1 => rw [hg] at hb; exact hb
  have hro : ∀ b o, γ b = .ro o → γ' b = .ro o := by
    intro b o hb
    rw [h2 (fun id p c he => by rw [hb] at he; cases he), hS.ro b o (frz_ro b o hb)]
  have low : ∀ {b id p c}, γ' b = .ow id p c → id < L.length → γ b = .ow id p c := by
    intro b id p c hb hlt
    rcases down hb with h | ⟨_, id1, he, _⟩
    · exact h
    · omega
  have hE : Ext γ L γ' (L ++ M) :=
    ⟨hro, fun id o hL => ⟨o, by rw [List.getElem?_append_left (List.getElem?_eq_some_iff.1 hL).1]; exact hL, OStep.refl o⟩, fun b id p c hb => .inl (h1 hb).1,
     fun id T sz g es T' sz' es' hL _ p e1 _ b c hb => low hb (List.getElem?_eq_some_iff.1 hL).1⟩
  have getM : ∀ (id : Nat), (L ++ M)[id + L.length]? = M[id]? := fun id => by rw [List.getElem?_append_right (by omega)]; congr 1; omega
  have isVec : ∀ {id : Nat} {o : AObj}, M[id]? = some o → okO o = true := fun hM' => List.all_eq_true.1 hM _ (List.mem_of_getElem? hM')
  refine ⟨γ', v, rfl, ⟨fun b o hb => hI1.ro b o (roD b o hb), fun b id p c hb => ?_, fun b b' id p c c' hb hb' => ?_, fun id T cs hL => ?_, fun id kt vt es hL => ?_⟩, ?_, hE, ?_⟩
  · rcases down hb with hb0 | ⟨hn, id1, rfl, hb1⟩
    · obtain ⟨o, ho, hrep⟩ := hI.ow _ _ _ _ hb0
      exact ⟨o, by rw [(h1 hb0).2.2]; exact ho, hrep.grow hE (hI.idlt hb0) (fun b p c hb => (h1 hb).1) (fun b p c hb => low hb (hI.idlt hb0))⟩
    · obtain ⟨o, ho, hrep⟩ := hI1.ow _ _ _ _ hb1
      refine ⟨o, ho, ?_⟩
      unfold BlockRep at *
      rw [getM]
      split at hrep
      · rename_i hL'; simpa [okO] using isVec hL'
      · rename_i T sz g es hL'
        have hok := isVec hL'
        simp only [okO, Bool.and_eq_true] at hok
        obtain ⟨es', s, arr, T', k1, k2, k3, k4, k5, k6, k7⟩ := hrep
        obtain ⟨rfl, rfl⟩ := noOwn_sub hok.1 k1
        refine ⟨es', s, arr, T', k1, k2, k3, k4, k5, k6, k7.1, fun i e j x he hx => ?_⟩
        obtain ⟨u, m1, m2, m3⟩ := k7.2 i e j x he hx
        refine ⟨u, m1, m2, (noOwn_CV hok.1 he hx).2 (flatB_sound ((noOwn_CV hok.1 he hx).1 m3) ?_)⟩
        exact List.all_eq_true.1 (List.all_eq_true.1 hok.2 e (List.mem_of_getElem? he)) x (List.mem_of_getElem? hx)
      · rename_i hL'; simpa [okO] using isVec hL'
      · exact hrep.elim
  · rcases down hb with hb0 | ⟨hn, id1, rfl, hb1⟩ <;> rcases down hb' with hb0' | ⟨hn', id1', he, hb1'⟩
    · exact hI.inj _ _ _ _ _ _ hb0 hb0'
    · have := hI.idlt hb0; omega
    · have := hI.idlt hb0'; omega
    · have : id1 = id1' := by omega
      subst this
      exact hI1.inj _ _ _ _ _ _ hb1 hb1'
  · by_cases hid : id < L.length
    · rw [List.getElem?_append_left hid] at hL
      obtain ⟨b, c, hb⟩ := hI.box _ _ _ hL
      exact ⟨b, c, (h1 hb).1⟩
    · rw [List.getElem?_append_right (by omega)] at hL
      simpa [okO] using isVec hL
  · by_cases hid : id < L.length
    · rw [List.getElem?_append_left hid] at hL
      obtain ⟨b, c, hb⟩ := hI.map _ _ _ _ hL
      exact ⟨b, c, (h1 hb).1⟩
    · rw [List.getElem?_append_right (by omega)] at hL
      simpa [okO] using isVec hL
  · have one : ∀ {x : AV} {v : Value}, ok1 x = true → RV γ1 M x v → RV γ' (L ++ M) (sh1 L.length x) v := by
      intro x v hx hv
      cases hv with
      | ref id p g n v hok ho =>
        refine .ref _ _ _ _ _ ?_ ho
        unfold RefOk at *
        rw [getM]
        split at hok
        · rename_i T sz g' es hL'
          refine ⟨hok.1, fun hg => ?_⟩
          obtain ⟨es', k1, k2, k3⟩ := hok.2 hg
          refine ⟨es', k1, k2, ?_⟩
          rcases k3 with ⟨k3, k4, k5⟩ | ⟨b, c, k3, k4⟩
          · refine .inl ⟨k3, k4, fun b c hb => ?_⟩
            rcases down hb with hb0 | ⟨_, id1, he, hb1⟩
            · have := hI.idlt hb0; omega
            · have : id = id1 := by omega
              subst this
              exact k5 b c hb1
          · exact .inr ⟨b, c, k3, up1 k4⟩
        · trivial
        · exact hok.elim
      | int k n => exact .int k n
      | bool b => exact .bool b
      | str s => exact .str s
      | lit v h => exact .lit v h
      | junk v => exact .junk v
      | sl own es A n c sz vals a1 a2 a3 a4 a5 a6 => exact flatB_sound (.sl own es A n c sz vals a1 a2 a3 a4 a5 a6) hx
      | agg cs vs a1 a2 a3 => exact flatB_sound (.agg cs vs a1 a2 a3) hx
      | tup cs vs a1 a2 => exact flatB_sound (.tup cs vs a1 a2) hx
      | ptr id off b c T cs a1 a2 => simp [ok1, flatB] at hx
      | eptr id p g i off v a1 a2 => simp [ok1, flatB] at hx
      | rptr x off b o vals a1 a2 a3 => simp [ok1, flatB] at hx
      | fn f cs vs a1 a2 => simp [ok1, flatB] at hx
      | map id b c kt vt es a1 a2 => simp [ok1, flatB] at hx
    by_cases ht : ∃ rs, r = .tup rs
    · obtain ⟨rs, rfl⟩ := ht
      cases hv with
      | tup _ vs hn hall =>
        refine .tup _ _ (by simp [hn]) fun i x hx => ?_
        simp only [List.getElem?_map, Option.map_eq_some_iff] at hx
        obtain ⟨y, hy, rfl⟩ := hx
        exact one (List.all_eq_true.1 hr y (List.mem_of_getElem? hy)) (hall i y hy)
    · have hs := shR_one (fun rs he => ht ⟨rs, he⟩) L.length
      rw [hs.2]
      exact one (by rw [← hs.1]; exact hr) hv
  · refine ⟨hS.os, hS.tape, hS.output, hS.size, hE.ro, fun b hb ho => ?_⟩
    have := hS.out b hb (by simp [frz, ho])
    exact ⟨by rw [h2 (fun id p c he => by rw [ho] at he; cases he), this.1], this.2⟩

theorem RunL.lendOwn {P : Program} {k : Oper → Knd} {ops : Array Oper} {K : St → Prop} {o : Oper} {rest : List Oper} {s : St} {f : FuncId} {args : Array Operand} {ats : Array TypeId} {r : AV} {xs ys : List AV} {M : List AObj}
    (hg : guardA ops s o = some true) (ho : o.op = .call { callee := .value (.func f), args := args, argTypes := ats }) (hx : args.toList.map s.ev = xs) (hf : okFn P f = true) (hkd : Knd.le .C (k o) = true)
    (hl : xs.mapM (lendA s.L) = some ys) (h : Ct P f ys [] r M) (hr : okR r = true) (hM : M.all okO = true) (hk : R P k ops rest ({ s with L := s.L ++ M }.put o.dst (shR s.L.length r)) K) : RunL P k ops (o :: rest) s K :=
  .call hg ho hx hf hkd (.inr ⟨M, rfl⟩) (Ct.lendOwn h (lendL_sound hl) hr hM) hk

/-- The end of a call that gives what it owns. -/
theorem Fin.own {L L1 L' : List AObj} {r1 r : AV} (h : L1 = L') (hr : r1 = r) : K.Fin L L1 r1 L' r := by
  subst h hr
  intro γ0 w0 γ w v _ hI hv hE hS
  exact ⟨γ, hI, hv, hE, hS⟩

end Go.Proofs.Ytolfjeedgedblaa.K
