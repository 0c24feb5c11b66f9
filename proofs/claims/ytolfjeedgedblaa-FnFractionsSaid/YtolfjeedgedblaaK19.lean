/-
  A logic of values for Go's functions (part 19): a call that gives memory of its own, whatever its shape.
-/
import Derived.Test.YtolfjeedgedblaaK18
namespace Go.Proofs.Ytolfjeedgedblaa.K
set_option linter.unusedVariables false
set_option linter.unusedSimpArgs false
open Go

mutual
/-- A value, told where the caller owned 'k' objects ahead of the call. -/
def shA (k : Nat) : AV → AV
  | .ref id p g n => .ref (id + k) p g n
  | .ptr id off => .ptr (id + k) off
  | .eptr id p g i off => .eptr (id + k) p g i off
  | .map id => .map (id + k)
  | .sl own es => .sl own (shL k es)
  | .agg cs => .agg (shL k cs)
  | .tup vs => .tup (shL k vs)
  | .rptr c off => .rptr (shA k c) off
  | .fn f cap => .fn f (shL k cap)
  | x => x
def shL (k : Nat) : List AV → List AV
  | [] => []
  | x :: xs => shA k x :: shL k xs
end

theorem shL_eq (k : Nat) : ∀ xs, shL k xs = xs.map (shA k)
  | [] => by simp [shL]
  | x :: xs => by simp [shL, shL_eq k xs]

theorem shA_cells (k : Nat) (x : AV) : (shA k x).cells = x.cells.map (shA k) := by
  cases x <;> simp [shA, AV.cells, shL_eq]

theorem shA_slT {k : Nat} {x : AV} {ys : List AV} (h : shA k x = .sl true ys) : ∃ es, x = .sl true es ∧ ys = es.map (shA k) := by
  cases x <;> simp [shA] at h
  obtain ⟨rfl, rfl⟩ := h
  exact ⟨_, rfl, shL_eq k _⟩

def shO (k : Nat) : AObj → AObj
  | .box T cs => .box T (cs.map (shA k))
  | .vec T sz g es => .vec T sz g (es.map (shA k))
  | x => x

theorem sub_sh (k : Nat) : ∀ (p : Pth) (es : List AV), sub (es.map (shA k)) p = (sub es p).map (List.map (shA k))
  | [], es => rfl
  | (i, j) :: p, es => by
    simp only [sub, List.getElem?_map]
    cases he : es[i]? with
    | none => rfl
    | some e =>
      simp only [Option.map_some, shA_cells, List.getElem?_map]
      cases hc : e.cells[j]? with
      | none => rfl
      | some c =>
        simp only [Option.map_some]
        cases c with
        | sl own es' =>
          cases own with
          | true => simp only [shA, shL_eq]; exact sub_sh k p es'
          | false => simp only [shA]; rfl
        | _ => simp only [shA]; rfl

mutual
/-- Values that lead to no memory that is only read. -/
def okS : AV → Bool
  | .sl _ [] => true
  | .sl _ (_ :: _) => false
  | .rptr _ _ => false
  | .agg cs => okSL cs
  | .tup vs => okSL vs
  | .fn _ cap => okSL cap
  | _ => true
def okSL : List AV → Bool
  | [] => true
  | x :: xs => okS x && okSL xs
end

theorem okSL_mem {xs : List AV} : okSL xs = true ↔ ∀ x ∈ xs, okS x = true := by
  induction xs with
  | nil => simp [okSL]
  | cons x xs ih => simp [okSL, ih]

theorem okS_cells {x c : AV} (h : okS x = true) (hc : c ∈ x.cells) : okS c = true := by
  cases x <;> first
    | (simp only [AV.cells, List.mem_singleton] at hc; subst hc; exact h)
    | (simp only [AV.cells] at hc; simp only [okS] at h; exact okSL_mem.1 h c hc)

def okSO : AObj → Bool
  | .box _ cs => okSL cs
  | .vec _ _ _ es => okSL es
  | _ => true

/-- A view of the callee's that lies behind the caller's own. -/
structure Beh (γ1 : Nat → Gh) (M : List AObj) (γ' : Nat → Gh) (L' : List AObj) (k : Nat) (full : Bool) : Prop where
  get : ∀ (id : Nat), L'[id + k]? = (M[id]?).map (shO k)
  up : ∀ b id p c, γ1 b = .ow id p c → γ' b = .ow (id + k) p c
  down : ∀ b id p c, γ' b = .ow (id + k) p c → γ1 b = .ow id p c
  ro : full = true → ∀ b o, γ1 b = .ro o → γ' b = .ro o

theorem Beh.refOk {γ1 γ' : Nat → Gh} {M L' : List AObj} {k : Nat} {full : Bool} (B : Beh γ1 M γ' L' k full) {id : Nat} {p : Pth} {g n : Nat} {v : Value} (h : RefOk γ1 M id p g n v) : RefOk γ' L' (id + k) p g n v := by
  unfold RefOk at *
  rw [B.get]
  split at h
  · rename_i T sz g' es hL
    simp only [hL, Option.map_some, shO]
    refine ⟨h.1, fun hg => ?_⟩
    obtain ⟨es', k1, k2, k3⟩ := h.2 hg
    refine ⟨es'.map (shA k), by rw [sub_sh, k1]; rfl, by simpa using k2, ?_⟩
    rcases k3 with ⟨k3, k4, k5⟩ | ⟨b, c, k3, k4⟩
    · exact .inl ⟨k3, by simp [k4], fun b c hb => k5 b c (B.down _ _ _ _ hb)⟩
    · exact .inr ⟨b, c, k3, B.up _ _ _ _ k4⟩
  · rename_i o hne hL
    simp only [hL, Option.map_some]
    cases o <;> first | trivial | exact absurd rfl (hne _ _ _ _)
  · exact h.elim

theorem Beh.eptrOk {γ1 γ' : Nat → Gh} {M L' : List AObj} {k : Nat} {full : Bool} (B : Beh γ1 M γ' L' k full) {id : Nat} {p : Pth} {g i off : Nat} {v : Value} (h : EptrOk γ1 M id p g i off v) : EptrOk γ' L' (id + k) p g i off v := by
  unfold EptrOk at *
  rw [B.get]
  split at h
  · rename_i T sz g' es hL
    simp only [hL, Option.map_some, shO]
    refine ⟨h.1, fun hg => ?_⟩
    obtain ⟨es', e, b, c, s, k1, k2, k3, k4, k5, k6⟩ := h.2 hg
    refine ⟨es'.map (shA k), shA k e, b, c, s, by rw [sub_sh, k1]; rfl, by rw [List.getElem?_map, k2]; rfl, by rw [shA_cells, List.length_map]; exact k3, fun z hz => ?_, k5, B.up _ _ _ _ k6⟩
    obtain ⟨z', hz', rfl⟩ := List.mem_map.1 hz
    rw [shA_cells, List.length_map]; exact k4 z' hz'
  · rename_i o hne hL
    simp only [hL, Option.map_some]
    cases o <;> first | trivial | exact absurd rfl (hne _ _ _ _)
  · exact h.elim

theorem shA_cell {k : Nat} {x : AV} {j : Nat} {y : AV} (h : (shA k x).cells[j]? = some y) : ∃ y0, x.cells[j]? = some y0 ∧ y = shA k y0 := by
  rw [shA_cells, List.getElem?_map, Option.map_eq_some_iff] at h
  obtain ⟨y0, h1, h2⟩ := h
  exact ⟨y0, h1, h2.symm⟩

theorem Beh.rv {γ1 γ' : Nat → Gh} {M L' : List AObj} {k : Nat} {full : Bool} (B : Beh γ1 M γ' L' k full) {x : AV} {v : Value} (h : RV γ1 M x v) : full = true ∨ okS x = true → RV γ' L' (shA k x) v := by
  induction h with
  | int k n => intro _; exact .int k n
  | bool b => intro _; exact .bool b
  | str s => intro _; exact .str s
  | lit v h => intro _; exact .lit v h
  | sl own es A n c sz vals hn hc hsz h2 h1 h3 ih =>
    intro hok
    simp only [shA, shL_eq]
    cases es with
    | nil => exact .sl own [] A n c sz vals hn hc hsz (by simp) (by simp) (by simp)
    | cons e0 es0 =>
      by_cases hf : full = true
      · have get : ∀ {i : Nat} {e : AV} {j : Nat} {x : AV}, ((e0 :: es0).map (shA k))[i]? = some e → e.cells[j]? = some x → ∃ e1 x1, (e0 :: es0)[i]? = some e1 ∧ e1.cells[j]? = some x1 ∧ x = shA k x1 := by
          intro i e j x he hx
          rw [List.getElem?_map, Option.map_eq_some_iff] at he
          obtain ⟨e1, h4, rfl⟩ := he
          obtain ⟨x1, h5, h6⟩ := shA_cell hx
          exact ⟨e1, x1, h4, h5, h6⟩
        refine .sl own _ A n c sz vals (by simpa using hn) hc (fun e he => ?_) (fun i e j x he hx => ?_) (fun i e j x he hx => ?_) (fun i e j x he hx => ?_)
        · obtain ⟨e', he', rfl⟩ := List.mem_map.1 he
          rw [shA_cells, List.length_map]; exact hsz e' he'
        · obtain ⟨e1, x1, h4, h5, rfl⟩ := get he hx
          exact roCell_mono (B.ro hf) (h2 _ _ _ _ h4 h5)
        · obtain ⟨e1, x1, h4, h5, rfl⟩ := get he hx
          exact h1 _ _ _ _ h4 h5
        · obtain ⟨e1, x1, h4, h5, rfl⟩ := get he hx
          exact ih _ _ _ _ h4 h5 (.inl hf)
      · exfalso
        have hok' := hok.resolve_left hf
        simp [okS] at hok'
  | agg cs vs hn h1 h ih =>
    intro hok
    simp only [shA, shL_eq]
    refine .agg _ vs (by simpa using hn) h1 fun i x hx => ?_
    rw [List.getElem?_map, Option.map_eq_some_iff] at hx
    obtain ⟨y, hy, rfl⟩ := hx
    exact ih i y hy (hok.imp (fun h => h) fun h => okSL_mem.1 (by simpa [okS] using h) y (List.mem_of_getElem? hy))
  | tup cs vs hn h ih =>
    intro hok
    simp only [shA, shL_eq]
    refine .tup _ vs (by simpa using hn) fun i x hx => ?_
    rw [List.getElem?_map, Option.map_eq_some_iff] at hx
    obtain ⟨y, hy, rfl⟩ := hx
    exact ih i y hy (hok.imp (fun h => h) fun h => okSL_mem.1 (by simpa [okS] using h) y (List.mem_of_getElem? hy))
  | ref id p g n v h h1 => intro _; exact .ref _ _ _ _ _ (B.refOk h) h1
  | ptr id off b c T cs hL h => intro _; exact .ptr _ _ _ _ T (cs.map (shA k)) (by rw [B.get, hL]; rfl) (B.up _ _ _ _ h)
  | eptr id p g i off v h h1 => intro _; exact .eptr _ _ _ _ _ _ (B.eptrOk h) h1
  | rptr x off b o vals h2 h1 h3 ih =>
    intro hok
    rcases hok with hf | hok
    · simp only [shA]
      refine .rptr _ _ _ _ vals (fun j y hy => ?_) (fun j y hy => ?_) (fun j y hy => ?_)
      · obtain ⟨y0, h4, rfl⟩ := shA_cell hy
        exact roCell_mono (B.ro hf) (h2 _ _ h4)
      · obtain ⟨y0, h4, rfl⟩ := shA_cell hy
        exact h1 _ _ h4
      · obtain ⟨y0, h4, rfl⟩ := shA_cell hy
        exact ih _ _ h4 (.inl hf)
    · simp [okS] at hok
  | fn f cs vs hn h ih =>
    intro hok
    simp only [shA, shL_eq]
    refine .fn _ _ vs (by simpa using hn) fun i x hx => ?_
    rw [List.getElem?_map, Option.map_eq_some_iff] at hx
    obtain ⟨y, hy, rfl⟩ := hx
    exact ih i y hy (hok.imp (fun h => h) fun h => okSL_mem.1 (by simpa [okS] using h) y (List.mem_of_getElem? hy))
  | map id b c kt vt es hL h => intro _; exact .map _ _ _ kt vt es (by rw [B.get, hL]; rfl) (B.up _ _ _ _ h)
  | junk v => intro _; exact .junk v

theorem Beh.cv {γ1 γ' : Nat → Gh} {M L' : List AObj} {k : Nat} {full : Bool} (B : Beh γ1 M γ' L' k full) {id : Nat} {q : Pth} {x : AV} {v : Value} (h : CV γ1 M id q x v) (hok : full = true ∨ okS x = true) : CV γ' L' (id + k) q (shA k x) v := by
  by_cases ht : ∃ es, x = .sl true es
  · obtain ⟨es, rfl⟩ := ht
    simp only [CV, shA, shL_eq] at *
    rcases h with ⟨rfl, h2, h3⟩ | ⟨b, c, h1, h2⟩
    · exact .inl ⟨rfl, h2, fun b c hb => h3 b c (B.down _ _ _ _ hb)⟩
    · exact .inr ⟨b, c, by simpa using h1, B.up _ _ _ _ h2⟩
  · have hne : ∀ ys, shA k x ≠ .sl true ys := fun ys he => by
      obtain ⟨es, h1, _⟩ := shA_slT he
      exact ht ⟨es, h1⟩
    have h' : RV γ1 M x v := by
      unfold CV at h
      split at h
      · exact absurd ⟨_, rfl⟩ ht
      · exact h
    unfold CV
    split
    · rename_i ys he; exact absurd he (hne _)
    · exact B.rv h' hok

theorem sub_okS : ∀ {p : Pth} {es es' : List AV}, okSL es = true → sub es p = some es' → okSL es' = true
  | [], es, es', h, hs => by simp [sub] at hs; subst hs; exact h
  | (i, j) :: p, es, es', h, hs => by
    simp only [sub] at hs
    split at hs
    · rename_i e he
      split at hs
      · rename_i es2 hc
        have := okS_cells (okSL_mem.1 h e (List.mem_of_getElem? he)) (List.mem_of_getElem? hc)
        cases es2 with
        | nil => exact sub_okS rfl hs
        | cons a b => simp [okS] at this
      · cases hs
    · cases hs

theorem Beh.block {γ1 γ' : Nat → Gh} {M L' : List AObj} {k : Nat} {full : Bool} (B : Beh γ1 M γ' L' k full) {o : Obj} {id c : Nat} {p : Pth} (hok : full = true ∨ M.all okSO = true) (h : BlockRep γ1 M o id p c) : BlockRep γ' L' o (id + k) p c := by
  have hM : ∀ {x}, M[id]? = some x → full = true ∨ okSO x = true := fun hx => hok.imp (fun h => h) fun h => List.all_eq_true.1 h _ (List.mem_of_getElem? hx)
  unfold BlockRep at *
  rw [B.get]
  split at h
  · rename_i T cs hL
    have hM' := hM hL
    simp only [hL, Option.map_some, shO]
    obtain ⟨h1, arr, h2, h3, h4⟩ := h
    refine ⟨h1, arr, h2, by simpa using h3, fun j x hx => ?_⟩
    rw [List.getElem?_map, Option.map_eq_some_iff] at hx
    obtain ⟨y, hy, rfl⟩ := hx
    obtain ⟨v, a1, a2, a3⟩ := h4 j y hy
    exact ⟨v, a1, a2, B.rv a3 (hM'.imp (fun h => h) fun h => okSL_mem.1 (by simpa [okSO] using h) y (List.mem_of_getElem? hy))⟩
  · rename_i T sz g es hL
    have hM' := hM hL
    simp only [hL, Option.map_some, shO]
    obtain ⟨es', s, arr, T', h1, h2, h3, h4, h5, h6, h7⟩ := h
    refine ⟨es'.map (shA k), s, arr, T', by rw [sub_sh, h1]; rfl, h2, h3, h4, by simpa using h5, h6, fun z hz => ?_, fun i e j x he hx => ?_⟩
    · obtain ⟨z', hz', rfl⟩ := List.mem_map.1 hz
      rw [shA_cells, List.length_map]; exact h7.1 z' hz'
    · rw [List.getElem?_map, Option.map_eq_some_iff] at he
      obtain ⟨e0, he0, rfl⟩ := he
      obtain ⟨x0, hx0, rfl⟩ := shA_cell hx
      obtain ⟨v, a1, a2, a3⟩ := h7.2 i e0 j x0 he0 hx0
      exact ⟨v, a1, a2, B.cv a3 (hM'.imp (fun h => h) fun h => okS_cells (okSL_mem.1 (sub_okS (by simpa [okSO] using h) h1) e0 (List.mem_of_getElem? he0)) (List.mem_of_getElem? hx0))⟩
  · rename_i hL
    simp only [hL, Option.map_some, shO]
    exact h
  · exact h.elim

/-- What a call that gives memory of its own leaves, told where the caller owned 'L'. 'g0': the callee's view. -/
theorem Ct.behind {P : Program} {f : FuncId} {xs ys : List AV} {r : AV} {L M : List AObj} (full : Bool) (hok : full = true ∨ (okS r = true ∧ M.all okSO = true)) (h : Ct P f ys [] r M)
    (hargs : ∀ γ w (vs : Array Value), Inv γ L w → ArgsR γ L xs vs → ArgsR (if full then hide γ else frz γ w) [] ys vs) : Ct P f xs L (shA L.length r) (L ++ M.map (shO L.length)) := by
  intro γ w vs hI ha
  let γ0 : Nat → Gh := if full then hide γ else frz γ w
  have hro0 : ∀ b o, γ b = .ro o → γ0 b = .ro o := by
    intro b o hb
    by_cases hf : full = true <;> simp [γ0, hf, hide, frz, hb]
  have hI0 : Inv γ0 [] w := by
    by_cases hf : full = true
    · simp only [γ0, hf, if_true]
      refine ⟨fun b o hb => ?_, fun b id p c hb => ?_, fun b b' id p c c' hb => ?_, fun id T cs hL => by simp at hL, fun id kt vt es hL => by simp at hL⟩
      · unfold hide at hb
        split at hb
        · cases hb
        · exact hI.ro b o hb
      · unfold hide at hb
        split at hb
        · cases hb
        · rename_i hne; exact (hne _ _ _ hb).elim
      · unfold hide at hb
        split at hb
        · cases hb
        · rename_i hne; exact (hne _ _ _ hb).elim
    · simp only [γ0, hf]
      exact frz_inv hI
  refine (h γ0 w vs hI0 (hargs γ w vs hI ha)).mono ?_
  rintro e w' ⟨γ1, v, rfl, hI1, hv, _, hS⟩
  let γ' : Nat → Gh := fun b => match γ b with | .ow id p c => .ow id p c | _ => match γ1 b with | .ow id p c => .ow (id + L.length) p c | g => g
  have h1 : ∀ {b id p c}, γ b = .ow id p c → γ' b = .ow id p c ∧ (∀ id p c, γ1 b ≠ .ow id p c) ∧ w'.heap[b]? = w.heap[b]? ∧ (full = true → ∀ o, γ1 b ≠ .ro o) := by
    intro b id p c hb
    obtain ⟨o, ho, _⟩ := hI.ow _ _ _ _ hb
    have hlt := (Array.getElem?_eq_some_iff.1 ho).1
    by_cases hf : full = true
    · have := hS.out b hlt (by simp [γ0, hf, hide, hb])
      exact ⟨by simp [γ', hb], by rw [this.1]; simp, this.2, fun _ o => by rw [this.1]; simp⟩
    · have := hS.ro b o (by simp [γ0, hf, frz, hb, ho])
      exact ⟨by simp [γ', hb], by rw [this]; simp, by rw [hI1.ro b o this, ho], fun h => absurd h hf⟩
  have h2 : ∀ {b}, (∀ id p c, γ b ≠ .ow id p c) → γ' b = (match γ1 b with | .ow id p c => .ow (id + L.length) p c | g => g) := by
    intro b hb
    cases hg : γ b with
    | ow id p c => exact absurd hg (hb id p c)
    | out => simp [γ', hg]
    | ro o => simp [γ', hg]
  have up1 : ∀ {b id p c}, γ1 b = .ow id p c → γ' b = .ow (id + L.length) p c := by
    intro b id p c hb
    rw [h2 (fun id p c he => (h1 he).2.1 _ _ _ hb), hb]
  have down : ∀ {b id p c}, γ' b = .ow id p c → γ b = .ow id p c ∨ ((∀ id p c, γ b ≠ .ow id p c) ∧ ∃ id1, id = id1 + L.length ∧ γ1 b = .ow id1 p c) := by
    intro b id p c hb
    by_cases hx : ∃ id p c, γ b = .ow id p c
    · obtain ⟨id', p', c', he⟩ := hx
      rw [(h1 he).1] at hb; cases hb; exact .inl he
    · have hn : ∀ id p c, γ b ≠ .ow id p c := fun id p c he => hx ⟨id, p, c, he⟩
      rw [h2 hn] at hb
      cases hg : γ1 b with
      | ow id1 p1 c1 => rw [hg] at hb; cases hb; exact .inr ⟨hn, id1, rfl, rfl⟩
      | out => rw [hg] at hb; cases hb
      | ro o => rw [hg] at hb; cases hb
  have roD : ∀ b o, γ' b = .ro o → γ1 b = .ro o := by
    intro b o hb
    by_cases hx : ∃ id p c, γ b = .ow id p c
    · obtain ⟨id', p', c', he⟩ := hx
      rw [(h1 he).1] at hb; cases hb
    · rw [h2 (fun id p c he => hx ⟨id, p, c, he⟩)] at hb
      cases hg : γ1 b with
      | ow id1 p1 c1 => rw [hg] at hb; cases hb
      | out => rw [hg] at hb; cases hb
      | ro o1 => rw [hg] at hb; exact hb
  have hro : ∀ b o, γ b = .ro o → γ' b = .ro o := by
    intro b o hb
    rw [h2 (fun id p c he => by rw [hb] at he; cases he), hS.ro b o (hro0 b o hb)]
  have low : ∀ {b id p c}, γ' b = .ow id p c → id < L.length → γ b = .ow id p c := by
    intro b id p c hb hlt
    rcases down hb with h | ⟨_, id1, he, _⟩
    · exact h
    · omega
  have hE : Ext γ L γ' (L ++ M.map (shO L.length)) :=
    ⟨hro, fun id o hL => ⟨o, by rw [List.getElem?_append_left (List.getElem?_eq_some_iff.1 hL).1]; exact hL, OStep.refl o⟩, fun b id p c hb => .inl (h1 hb).1,
     fun id T sz g es T' sz' es' hL _ p e1 _ b c hb => low hb (List.getElem?_eq_some_iff.1 hL).1⟩
  have B : Beh γ1 M γ' (L ++ M.map (shO L.length)) L.length full := by
    refine ⟨fun id => ?_, fun b id p c hb => up1 hb, fun b id p c hb => ?_, fun hf b o hb => ?_⟩
    · rw [List.getElem?_append_right (by omega), List.getElem?_map]; congr 2; omega
    · rcases down hb with hb0 | ⟨_, id1, he, hb1⟩
      · have := hI.idlt hb0; omega
      · have : id = id1 := by omega
        subst this; exact hb1
    · rw [h2 (fun id p c he => (h1 he).2.2.2 hf o hb), hb]
  refine ⟨γ', v, rfl, ⟨fun b o hb => hI1.ro b o (roD b o hb), fun b id p c hb => ?_, fun b b' id p c c' hb hb' => ?_, fun id T cs hL => ?_, fun id kt vt es hL => ?_⟩, B.rv hv (hok.imp (fun h => h) And.left), hE, ?_⟩
  · rcases down hb with hb0 | ⟨hn, id1, rfl, hb1⟩
    · obtain ⟨o, ho, hrep⟩ := hI.ow _ _ _ _ hb0
      exact ⟨o, by rw [(h1 hb0).2.2.1]; exact ho, hrep.grow hE (hI.idlt hb0) (fun b p c hb => (h1 hb).1) (fun b p c hb => low hb (hI.idlt hb0))⟩
    · obtain ⟨o, ho, hrep⟩ := hI1.ow _ _ _ _ hb1
      exact ⟨o, ho, B.block (hok.imp (fun h => h) And.right) hrep⟩
  · rcases down hb with hb0 | ⟨hn, id1, rfl, hb1⟩ <;> rcases down hb' with hb0' | ⟨hn', id1', he, hb1'⟩
    · exact hI.inj _ _ _ _ _ _ hb0 hb0'
    · have := hI.idlt hb0; omega
    · have := hI.idlt hb0'; omega
    · have : id1 = id1' := by omega
      subst this
      exact hI1.inj _ _ _ _ _ _ hb1 hb1'
  · by_cases hid : id < L.length
    · rw [List.getElem?_append_left hid] at hL
      obtain ⟨b, c, hb⟩ := hI.box _ _ _ hL
      exact ⟨b, c, (h1 hb).1⟩
    · rw [show id = (id - L.length) + L.length by omega, B.get, Option.map_eq_some_iff] at hL
      obtain ⟨x, hx, hs⟩ := hL
      cases x <;> simp [shO] at hs
      obtain ⟨b, c, hb⟩ := hI1.box _ _ _ hx
      exact ⟨b, c, by have := up1 hb; rwa [show id - L.length + L.length = id by omega] at this⟩
  · by_cases hid : id < L.length
    · rw [List.getElem?_append_left hid] at hL
      obtain ⟨b, c, hb⟩ := hI.map _ _ _ _ hL
      exact ⟨b, c, (h1 hb).1⟩
    · rw [show id = (id - L.length) + L.length by omega, B.get, Option.map_eq_some_iff] at hL
      obtain ⟨x, hx, hs⟩ := hL
      cases x <;> simp [shO] at hs
      obtain ⟨b, c, hb⟩ := hI1.map _ _ _ _ hx
      exact ⟨b, c, by have := up1 hb; rwa [show id - L.length + L.length = id by omega] at this⟩
  · refine ⟨hS.os, hS.tape, hS.output, hS.size, hE.ro, fun b hb ho => ?_⟩
    have := hS.out b hb (by by_cases hf : full = true <;> simp [γ0, hf, hide, frz, ho])
    exact ⟨by rw [h2 (fun id p c he => by rw [ho] at he; cases he), this.1], this.2⟩

/-- The caller lends what it owns. -/
theorem Ct.lendG {P : Program} {f : FuncId} {xs ys : List AV} {r : AV} {L M : List AObj} (h : Ct P f ys [] r M) (hy : VwL L xs ys) (hr : okS r = true) (hM : M.all okSO = true) : Ct P f xs L (shA L.length r) (L ++ M.map (shO L.length)) :=
  Ct.behind false (.inr ⟨hr, hM⟩) h fun γ w vs hI ha => by
    refine ⟨by rw [ha.1]; exact hy.get.1, fun i y hi => ?_⟩
    obtain ⟨x, hx, hxy⟩ := hy.get.2 i y hi
    exact hxy γ w _ hI (ha.2 i x hx)

/-- The arguments are values alone. -/
theorem Ct.frameG {P : Program} {f : FuncId} {xs : List AV} {r : AV} {M : List AObj} (L : List AObj) (h : Ct P f xs [] r M) (hp : ∀ x ∈ xs, Pur x) : Ct P f xs L (shA L.length r) (L ++ M.map (shO L.length)) :=
  Ct.behind true (.inl rfl) h fun γ w vs hI ha =>
    ⟨ha.1, fun i x hx => hp x (List.mem_of_getElem? hx) _ _ _ _ _ (fun b o hb => by simp [hide, hb]) (ha.2 i x hx)⟩

theorem RunL.lendG {P : Program} {k : Oper → Knd} {ops : Array Oper} {K : St → Prop} {o : Oper} {rest : List Oper} {s : St} {f : FuncId} {args : Array Operand} {ats : Array TypeId} {r : AV} {xs ys : List AV} {M : List AObj}
    (hg : guardA ops s o = some true) (ho : o.op = .call { callee := .value (.func f), args := args, argTypes := ats }) (hx : args.toList.map s.ev = xs) (hf : okFn P f = true) (hkd : Knd.le .C (k o) = true)
    (hl : VwL s.L xs ys) (h : Ct P f ys [] r M) (hr : okS r = true) (hM : M.all okSO = true) (hk : R P k ops rest ({ s with L := s.L ++ M.map (shO s.L.length) }.put o.dst (shA s.L.length r)) K) : RunL P k ops (o :: rest) s K :=
  .call hg ho hx hf hkd (.inr ⟨_, rfl⟩) (Ct.lendG h hl hr hM) hk

theorem RunL.callG {P : Program} {k : Oper → Knd} {ops : Array Oper} {K : St → Prop} {o : Oper} {rest : List Oper} {s : St} {f : FuncId} {args : Array Operand} {ats : Array TypeId} {r : AV} {xs : List AV} {M : List AObj}
    (hg : guardA ops s o = some true) (ho : o.op = .call { callee := .value (.func f), args := args, argTypes := ats }) (hx : args.toList.map s.ev = xs) (hf : okFn P f = true) (hkd : Knd.le .C (k o) = true)
    (h : Ct P f xs [] r M) (hp : pureL xs = true) (hk : R P k ops rest ({ s with L := s.L ++ M.map (shO s.L.length) }.put o.dst (shA s.L.length r)) K) : RunL P k ops (o :: rest) s K :=
  .call hg ho hx hf hkd (.inr ⟨_, rfl⟩) (Ct.frameG s.L h (Pur.ofL hp)) hk

/-- The same as 'callv', its arguments in another order. -/
theorem RunL.callp {P : Program} {k : Oper → Knd} {ops : Array Oper} {K : St → Prop} {o : Oper} {rest : List Oper} {s : St} {f : FuncId} {args : Array Operand} {ats : Array TypeId} {r : AV} {xs : List AV}
    (hg : guardA ops s o = some true) (ho : o.op = .call { callee := .value (.func f), args := args, argTypes := ats }) (hf : okFn P f = true)
    (h : Ct P f xs [] r []) (hp : pureL xs = true) (hx : args.toList.map s.ev = xs) (hk : R P k ops rest (s.put o.dst r) K) : RunL P k ops (o :: rest) s K :=
  .callv hg ho hx hf h hp hk
theorem RunL.callgp {P : Program} {k : Oper → Knd} {ops : Array Oper} {K : St → Prop} {o : Oper} {rest : List Oper} {s : St} {f : FuncId} {args : Array Operand} {ats : Array TypeId} {r : AV} {xs : List AV} {M : List AObj}
    (hg : guardA ops s o = some true) (ho : o.op = .call { callee := .value (.func f), args := args, argTypes := ats }) (hf : okFn P f = true) (hkd : Knd.le .C (k o) = true)
    (h : Ct P f xs [] r M) (hp : pureL xs = true) (hx : args.toList.map s.ev = xs) (hk : R P k ops rest ({ s with L := s.L ++ M.map (shO s.L.length) }.put o.dst (shA s.L.length r)) K) : RunL P k ops (o :: rest) s K :=
  .callG hg ho hx hf hkd h hp hk
/-- A call of a closure over values, its arguments in another order. -/
theorem RunL.callcp {P : Program} {k : Oper → Knd} {ops : Array Oper} {K : St → Prop} {o : Oper} {rest : List Oper} {s : St} {x : Operand} {f : FuncId} {cap : List AV} {args : Array Operand} {ats : Array TypeId} {r : AV} {xs : List AV}
    (hg : guardA ops s o = some true) (ho : o.op = .call { callee := .value x, args := args, argTypes := ats }) (hc : s.ev x = .fn f cap) (hf : okFn P f = true) (hkd : Knd.le .C (k o) = true)
    (h : Ct P f xs [] r []) (hp : pureL xs = true) (hx : args.toList.map s.ev ++ cap = xs) (hk : R P k ops rest (s.put o.dst r) K) : RunL P k ops (o :: rest) s K :=
  .callcv hg ho hc hx hf hkd h hp hk
/-- A call that is lent what the caller owns; how that is seen is given. -/
theorem RunL.lendV {P : Program} {k : Oper → Knd} {ops : Array Oper} {K : St → Prop} {o : Oper} {rest : List Oper} {s : St} {f : FuncId} {args : Array Operand} {ats : Array TypeId} {r : AV} {xs ys : List AV}
    (hg : guardA ops s o = some true) (ho : o.op = .call { callee := .value (.func f), args := args, argTypes := ats }) (hf : okFn P f = true) (hkd : Knd.le .C (k o) = true)
    (h : Ct P f ys [] r []) (hl : VwL s.L xs ys) (hr : flatB r = true) (hx : args.toList.map s.ev = xs) (hk : R P k ops rest (s.put o.dst r) K) : RunL P k ops (o :: rest) s K :=
  .call hg ho hx hf hkd (.inr ⟨[], by simp⟩) (Ct.lend h hl hr) hk
theorem RunL.lendGV {P : Program} {k : Oper → Knd} {ops : Array Oper} {K : St → Prop} {o : Oper} {rest : List Oper} {s : St} {f : FuncId} {args : Array Operand} {ats : Array TypeId} {r : AV} {xs ys : List AV} {M : List AObj}
    (hg : guardA ops s o = some true) (ho : o.op = .call { callee := .value (.func f), args := args, argTypes := ats }) (hf : okFn P f = true) (hkd : Knd.le .C (k o) = true)
    (h : Ct P f ys [] r M) (hl : VwL s.L xs ys) (hr : okS r = true) (hM : M.all okSO = true) (hx : args.toList.map s.ev = xs) (hk : R P k ops rest ({ s with L := s.L ++ M.map (shO s.L.length) }.put o.dst (shA s.L.length r)) K) : RunL P k ops (o :: rest) s K :=
  .lendG hg ho hx hf hkd hl h hr hM hk
theorem RunL.callM {P : Program} {k : Oper → Knd} {ops : Array Oper} {K : St → Prop} {o : Oper} {rest : List Oper} {s : St} {f : FuncId} {args : Array Operand} {ats : Array TypeId} {r : AV} {L' : List AObj} {xs : List AV}
    (hg : guardA ops s o = some true) (ho : o.op = .call { callee := .value (.func f), args := args, argTypes := ats }) (hf : okFn P f = true) (hkd : Knd.le .C (k o) = true) (hal : isAlloc k o = false)
    (h : Ct P f xs s.L r L') (hx : args.toList.map s.ev = xs) (hk : R P k ops rest ({ s with L := L' }.put o.dst r) K) : RunL P k ops (o :: rest) s K :=
  .call hg ho hx hf hkd (.inl hal) h hk
/-- What a call gives, never written again. -/
theorem Ct.toV {P : Program} {f : FuncId} {args : List AV} {r y : AV} {M : List AObj} (h : Ct P f args [] r M) (hv : Vw M r y) : Ct P f args [] y [] := by
  intro γ w vs hI ha
  refine (h γ w vs hI ha).mono ?_
  rintro e w' ⟨γ', v, rfl, hI', hr, hE, hS⟩
  obtain ⟨γ2, k1, k2, k3, k4⟩ := Fin.value hv γ w γ' w' v hI hI' hr hE hS
  exact ⟨γ2, v, rfl, k1, k2, k3, k4⟩

/-! ### contracts whose end is found on the way -/
theorem ex1 {α : Type} {C Z : α → Prop} (M : α) (h1 : C M) (h2 : Z M) : ∃ M, C M ∧ Z M := ⟨M, h1, h2⟩

theorem Ct.ex {P : Program} (hm : P.follows .mixedOrders = true) (E : List FuncId) {f : FuncId} {fn : Func} {c : Code} {args : List AV} {L : List AObj} {Z : AV → List AObj → Prop} (hf : P.funcs[f]? = some fn) (hb : fn.body = some c)
    (h : ∃ r L', W P E c (FnEnd P fn L r L') (St.init fn args L) ∧ Z r L') : ∃ r L', Ct P f args L r L' ∧ Z r L' := by
  obtain ⟨r, L', h1, h2⟩ := h
  exact ⟨r, L', Ct.by_ hm E hf hb h1, h2⟩

/-- A loop that is left at a state that is found on the way. -/
theorem AWp.loop_ex {P : Program} {c : Code} {ι : Type} (st : ι → St) (I : ι → Prop) (m : ι → Nat) {Q : ι → (Exit → St → Prop) → Prop}
    (step : ∀ i, I i → (∃ q, Q i q ∧ AWp P c (ExThen (fun _ => False) q) (st i)) ∨ (∃ j, I j ∧ m j < m i ∧ (∀ q, Q j q → Q i q) ∧ AWp P c (fun e s' => e = .normal ∧ JL s'.t (st j).t ∧ s'.L = (st j).L) (st i))) :
    ∀ i, I i → ∃ q, Q i q ∧ AWp P (.loop c) q (st i) := by
  have key : ∀ n i, m i < n → I i → ∃ q, Q i q ∧ ∀ s, JL s.t (st i).t → s.L = (st i).L → ARounds P c q n s := by
    intro n
    induction n with
    | zero => intro i h; omega
    | succ n ih =>
      intro i hm hI
      rcases step i hI with ⟨q, hq, hw⟩ | ⟨j, hj, hlt, hQ, hw⟩
      · refine ⟨q, hq, fun s hs hL => ?_⟩
        have e : (⟨(st i).t, s.L⟩ : St) = st i := by rw [hL]
        refine AWp.junk hs ?_
        rw [e]
        exact hw.mono fun ex s' h => by
          cases ex with
          | normal => exact h.elim
          | _ => exact h
      · obtain ⟨q, hq, hr⟩ := ih j (by omega) hj
        refine ⟨q, hQ q hq, fun s hs hL => ?_⟩
        have e : (⟨(st i).t, s.L⟩ : St) = st i := by rw [hL]
        refine AWp.junk hs ?_
        rw [e]
        refine hw.mono fun ex s' ⟨he, h1, h2⟩ => ?_
        subst he
        exact hr s' h1 h2
  intro i hI
  obtain ⟨q, hq, h⟩ := key (m i + 1) i (by omega) hI
  exact ⟨q, hq, .loop _ (h _ (JL.refl _) rfl)⟩

theorem AWp.loop_exK {P : Program} {c : Code} {ι : Type} (st : ι → St) (I : ι → Prop) (m : ι → Nat) {Kq : AV → List AObj → Exit → St → Prop} {Z : AV → List AObj → Prop} {s : St} (i0 : ι) (hI : I i0) (hs : JL s.t (st i0).t ∧ s.L = (st i0).L)
    (step : ∀ i, I i → (∃ r L', AWp P c (ExThen (fun _ => False) (Kq r L')) (st i) ∧ Z r L') ∨ (∃ j, I j ∧ m j < m i ∧ AWp P c (fun e s' => e = .normal ∧ JL s'.t (st j).t ∧ s'.L = (st j).L) (st i))) :
    ∃ r L', AWp P (.loop c) (Kq r L') s ∧ Z r L' := by
  obtain ⟨q, ⟨r, L', rfl, hz⟩, hw⟩ := AWp.loop_ex (P := P) (c := c) st I m (Q := fun _ q => ∃ r L', q = Kq r L' ∧ Z r L') (fun i hi => by
    rcases step i hi with ⟨r, L', h1, h2⟩ | ⟨j, h1, h2, h3⟩
    · exact .inl ⟨_, ⟨r, L', rfl, h2⟩, h1⟩
    · exact .inr ⟨j, h1, h2, fun q hq => hq, h3⟩) i0 hI
  refine ⟨r, L', AWp.junk hs.1 ?_, hz⟩
  have e : (⟨(st i0).t, s.L⟩ : St) = st i0 := by rw [hs.2]
  rw [e]; exact hw

theorem AWp.nilB_ex {P : Program} {c : Code} {Kq : AV → List AObj → Exit → St → Prop} {Z : AV → List AObj → Prop} {s : St} (id j : Nat) (T : TypeId) (sz : Nat) {T0 : TypeId} {cs : List AV} (hL : s.L[id]? = some (.box T0 cs)) (hj : cs[j]? = some (.lit (.slice none 0 0)))
    (h : ∃ r L', AWp P c (Kq r L') ⟨s.t, s.L.set id (.box T0 (cs.set j (.ref s.L.length [] 0 0))) ++ [.vec T sz 0 []]⟩ ∧ Z r L') : ∃ r L', AWp P c (Kq r L') s ∧ Z r L' := by
  obtain ⟨r, L', h1, h2⟩ := h
  exact ⟨r, L', AWp.nilB id j T sz hL hj h1, h2⟩
theorem AWp.nil_ex {P : Program} {c : Code} {Kq : AV → List AObj → Exit → St → Prop} {Z : AV → List AObj → Prop} {s : St} (j : Nat) (T : TypeId) (sz : Nat) (hj : s.t[j]? = some (.lit (.slice none 0 0)))
    (h : ∃ r L', AWp P c (Kq r L') ⟨s.t.set j (.ref s.L.length [] 0 0), s.L ++ [.vec T sz 0 []]⟩ ∧ Z r L') : ∃ r L', AWp P c (Kq r L') s ∧ Z r L' := by
  obtain ⟨r, L', h1, h2⟩ := h
  exact ⟨r, L', AWp.nil j T sz hj h1, h2⟩

end Go.Proofs.Ytolfjeedgedblaa.K
