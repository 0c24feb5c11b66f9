/-
  A logic of values for Go's functions (part 1): the values as pure data, what a world holds of them, and that this is kept.
-/
import Derived.Calls
import Derived.Orders
import Derived.LoopN
import Derived.Laws.AppendOwn
import Derived.Laws.Tables
import Derived.Laws.Cells
import Derived.Below
import Derived.KernelRfl
namespace Go.Proofs.Ytolfjeedgedblaa.K
set_option linter.unusedVariables false
set_option linter.unusedSimpArgs false
open Go

/-- Values as pure data: a slice that is only read is the list of its elements; what a call owns has a number. -/
inductive AV where
  | int (k : IntKind) (n : Int)
  | bool (b : Bool)
  | str (s : ByteArray)
  | sl (own : Bool) (es : List AV)
  | agg (cs : List AV)
  | tup (vs : List AV)
  | ref (id : Nat) (p : List (Nat × Nat)) (g n : Nat)
  | ptr (id : Nat) (off : Nat)
  | eptr (id : Nat) (p : List (Nat × Nat)) (g i off : Nat)
  | rptr (c : AV) (off : Nat)
  | fn (f : FuncId) (cap : List AV)
  | map (id : Nat)
  | lit (v : Value)
  | junk
  deriving Inhabited

abbrev Pth := List (Nat × Nat)

/-- The cells of a value. -/
def AV.cells : AV → List AV
  | .agg cs => cs
  | v => [v]

/-- What a call owns. -/
inductive AObj where
  | dead
  | box (T : TypeId) (cs : List AV)
  | vec (T : TypeId) (sz g : Nat) (es : List AV)
  | map (kt vt : TypeId) (es : List (AV × AV))
  deriving Inhabited

/-- What a block of memory is for the call: not its own and not known; known and never written; its own. -/
inductive Gh where
  | out
  | ro (o : Obj)
  | ow (id : Nat) (p : Pth) (c : Nat)

def sub : List AV → Pth → Option (List AV)
  | es, [] => some es
  | es, (i, j) :: p =>
    match es[i]? with
    | some e =>
      match e.cells[j]? with
      | some (.sl true es') => sub es' p
      | _ => none
    | none => none

def roCell (γ : Nat → Gh) (A : Option Addr) (k : Nat) : Option Value :=
  match A with
  | some ⟨b, o, none⟩ =>
    match γ b with
    | .ro (.cells arr _ _) => arr[o + k]?
    | _ => none
  | _ => none

def RefOk (γ : Nat → Gh) (L : List AObj) (id : Nat) (p : Pth) (g n : Nat) (v : Value) : Prop :=
  match L[id]? with
  | some (.vec _ _ g' es) =>
    g ≤ g' ∧ (g = g' → ∃ es', sub es p = some es' ∧ n ≤ es'.length ∧
      ((v = .slice none 0 0 ∧ es' = [] ∧ ∀ b c, γ b ≠ .ow id p c) ∨
       ∃ b c, v = .slice (some ⟨b, 0, none⟩) n c ∧ γ b = .ow id p c))
  | some _ => True
  | none => False

def EptrOk (γ : Nat → Gh) (L : List AObj) (id : Nat) (p : Pth) (g i off : Nat) (v : Value) : Prop :=
  match L[id]? with
  | some (.vec _ _ g' es) =>
    g ≤ g' ∧ (g = g' → ∃ es' e b c sz, sub es p = some es' ∧ es'[i]? = some e ∧ e.cells.length = sz ∧
      (∀ e ∈ es', e.cells.length = sz) ∧ v = .pointer (some ⟨b, i * sz + off, none⟩) ∧ γ b = .ow id p c)
  | some _ => True
  | none => False

/-- 'v' is the value 'x'. -/
inductive RV (γ : Nat → Gh) (L : List AObj) : AV → Value → Prop where
  | int (k : IntKind) (n : Int) : RV γ L (.int k n) (.int k n)
  | bool (b : Bool) : RV γ L (.bool b) (.bool b)
  | str (s : ByteArray) : RV γ L (.str s) (.string s)
  | lit (v : Value) (h : v.oneCell' = true) : RV γ L (.lit v) v
  | sl (own : Bool) (es : List AV) (A : Option Addr) (n c sz : Nat) (vals : Nat → Nat → Value) (hn : n = es.length) (hc : n ≤ c)
      (hsz : ∀ e ∈ es, e.cells.length = sz)
      (h2 : ∀ i e j x, es[i]? = some e → e.cells[j]? = some x → roCell γ A (i * sz + j) = some (vals i j))
      (h1 : ∀ i e j x, es[i]? = some e → e.cells[j]? = some x → (vals i j).oneCell' = true)
      (h3 : ∀ i e j x, es[i]? = some e → e.cells[j]? = some x → RV γ L x (vals i j)) : RV γ L (.sl own es) (.slice A n c)
  | agg (cs : List AV) (vs : Array Value) (hn : vs.size = cs.length) (h1 : ∀ v ∈ vs, v.oneCell' = true)
      (h : ∀ (i : Nat) x, cs[i]? = some x → RV γ L x (vs.getD i undef)) : RV γ L (.agg cs) (.agg vs)
  | tup (cs : List AV) (vs : Array Value) (hn : vs.size = cs.length)
      (h : ∀ (i : Nat) x, cs[i]? = some x → RV γ L x (vs.getD i undef)) : RV γ L (.tup cs) (.tuple vs)
  | ref (id : Nat) (p : Pth) (g n : Nat) (v : Value) (h : RefOk γ L id p g n v) (h1 : v.oneCell' = true) : RV γ L (.ref id p g n) v
  | ptr (id off b c : Nat) (T : TypeId) (cs : List AV) (hL : L[id]? = some (.box T cs)) (h : γ b = .ow id [] c) : RV γ L (.ptr id off) (.pointer (some ⟨b, off, none⟩))
  | eptr (id : Nat) (p : Pth) (g i off : Nat) (v : Value) (h : EptrOk γ L id p g i off v) (h1 : v.oneCell' = true) : RV γ L (.eptr id p g i off) v
  | rptr (x : AV) (off b o : Nat) (vals : Nat → Value)
      (h2 : ∀ j y, x.cells[j]? = some y → roCell γ (some ⟨b, o, none⟩) j = some (vals j))
      (h1 : ∀ j y, x.cells[j]? = some y → (vals j).oneCell' = true)
      (h3 : ∀ j y, x.cells[j]? = some y → RV γ L y (vals j)) : RV γ L (.rptr x off) (.pointer (some ⟨b, o + off, none⟩))
  | fn (f : FuncId) (cs : List AV) (vs : Array Value) (hn : vs.size = cs.length)
      (h : ∀ (i : Nat) x, cs[i]? = some x → RV γ L x (vs.getD i undef)) : RV γ L (.fn f cs) (.func (.func f) #[] vs)
  | map (id b c : Nat) (kt vt : TypeId) (es : List (AV × AV)) (hL : L[id]? = some (.map kt vt es)) (h : γ b = .ow id [] c) : RV γ L (.map id) (.map (some b))
  | junk (v : Value) : RV γ L .junk v

/-- A cell of a row that the call owns: an element's slice that is owned by the row, too, has its place. -/
def CV (γ : Nat → Gh) (L : List AObj) (id : Nat) (q : Pth) (x : AV) (v : Value) : Prop :=
  match x with
  | .sl true es => (es = [] ∧ v = .slice none 0 0 ∧ ∀ b c, γ b ≠ .ow id q c) ∨ ∃ b c, v = .slice (some ⟨b, 0, none⟩) es.length c ∧ γ b = .ow id q c
  | x => RV γ L x v

def RowRep (γ : Nat → Gh) (L : List AObj) (id : Nat) (p : Pth) (s : Nat) (es : List AV) (arr : Array Value) : Prop :=
  (∀ e ∈ es, e.cells.length = s) ∧
  ∀ i e j x, es[i]? = some e → e.cells[j]? = some x → ∃ v, arr[i * s + j]? = some v ∧ v.oneCell' = true ∧ CV γ L id (p ++ [(i, j)]) x v

/-- A map's entries: keys and values are plain. -/
def MapRep (es : List (AV × AV)) (m : Array MapEntry) (clock : Nat) : Prop :=
  m.size = es.length ∧ (∀ (i : Nat) (e : AV × AV), es[i]? = some e → ∃ x : MapEntry, m[i]? = some x ∧ RV (fun _ => .out) [] e.1 x.key ∧ RV (fun _ => .out) [] e.2 x.val) ∧ (∀ x : MapEntry, x ∈ m → x.born < clock)

def BlockRep (γ : Nat → Gh) (L : List AObj) (o : Obj) (id : Nat) (p : Pth) (c : Nat) : Prop :=
  match L[id]? with
  | some (.box T cs) => p = [] ∧ ∃ arr, o = .cells arr T (0, 0) ∧ arr.size = cs.length ∧
      ∀ (j : Nat) x, cs[j]? = some x → ∃ v, arr[j]? = some v ∧ v.oneCell' = true ∧ RV γ L x v
  | some (.vec T sz _ es) => ∃ es' s arr T', sub es p = some es' ∧ o = .cells arr T' (0, 0) ∧ (p = [] → T' = T ∧ s = sz) ∧
      arr.size = c * s ∧ es'.length ≤ c ∧ c ≤ maxLen ∧ RowRep γ L id p s es' arr
  | some (.map _ _ es) => p = [] ∧ ∃ m clock, o = .map m clock ∧ MapRep es m clock
  | _ => False

structure Inv (γ : Nat → Gh) (L : List AObj) (w : World) : Prop where
  ro : ∀ b o, γ b = .ro o → w.heap[b]? = some o
  ow : ∀ b id p c, γ b = .ow id p c → ∃ o, w.heap[b]? = some o ∧ BlockRep γ L o id p c
  inj : ∀ b b' id p c c', γ b = .ow id p c → γ b' = .ow id p c' → b = b'
  box : ∀ (id : Nat) T cs, L[id]? = some (.box T cs) → ∃ b c, γ b = .ow id [] c
  map : ∀ (id : Nat) kt vt es, L[id]? = some (.map kt vt es) → ∃ b c, γ b = .ow id [] c

/-- What a stretch of a call may do to memory. -/
structure Stp (γ : Nat → Gh) (w : World) (γ' : Nat → Gh) (w' : World) : Prop where
  os : w'.os = w.os
  tape : w'.tape = w.tape
  output : w'.output = w.output
  size : w.heap.size ≤ w'.heap.size
  ro : ∀ b o, γ b = .ro o → γ' b = .ro o
  out : ∀ b, b < w.heap.size → γ b = .out → γ' b = .out ∧ w'.heap[b]? = w.heap[b]?

theorem Stp.refl (γ : Nat → Gh) (w : World) : Stp γ w γ w := ⟨rfl, rfl, rfl, Nat.le_refl _, fun _ _ h => h, fun _ _ h => ⟨h, rfl⟩⟩
theorem Stp.trans {γ γ' γ'' : Nat → Gh} {w w' w'' : World} (h : Stp γ w γ' w') (k : Stp γ' w' γ'' w'') : Stp γ w γ'' w'' :=
  ⟨k.os.trans h.os, k.tape.trans h.tape, k.output.trans h.output, Nat.le_trans h.size k.size, fun b o hb => k.ro b o (h.ro b o hb),
   fun b hb ho => by
    obtain ⟨h1, h2⟩ := h.out b hb ho
    obtain ⟨k1, k2⟩ := k.out b (Nat.lt_of_lt_of_le hb h.size) h1
    exact ⟨k1, k2.trans h2⟩⟩

/-! ### What keeps a value's meaning -/
def OStep : AObj → AObj → Prop
  | .box T cs, .box T' cs' => T = T' ∧ cs.length = cs'.length
  | .map kt vt _, .map kt' vt' _ => kt = kt' ∧ vt = vt'
  | .vec T sz g es, .vec T' sz' g' es' => T = T' ∧ sz = sz' ∧ (g < g' ∨ (g = g' ∧ ∀ p e1, sub es p = some e1 → ∃ e2, sub es' p = some e2 ∧
      e2.length = e1.length ∧ ∀ (i : Nat) x, e1[i]? = some x → ∃ y, e2[i]? = some y ∧ y.cells.length = x.cells.length))
  | .vec .., .dead => True
  | .dead, .dead => True
  | _, _ => False

theorem OStep.refl (o : AObj) : OStep o o := by
  cases o <;> simp [OStep]
  intro p e1 h; exact ⟨e1, h, rfl, fun i x hx => ⟨x, hx, rfl⟩⟩

structure Ext (γ : Nat → Gh) (L : List AObj) (γ' : Nat → Gh) (L' : List AObj) : Prop where
  ro : ∀ b o, γ b = .ro o → γ' b = .ro o
  ob : ∀ (id : Nat) o, L[id]? = some o → ∃ o', L'[id]? = some o' ∧ OStep o o'
  lab : ∀ b id p c, γ b = .ow id p c → γ' b = .ow id p c ∨
    ∀ o, L[id]? = some o → ∃ T sz g es, o = .vec T sz g es ∧ ∀ T' sz' es', L'[id]? ≠ some (.vec T' sz' g es')
  nil : ∀ (id : Nat) T sz g es T' sz' es', L[id]? = some (.vec T sz g es) → L'[id]? = some (.vec T' sz' g es') →
    ∀ p e1, sub es p = some e1 → ∀ b c, γ' b = .ow id p c → γ b = .ow id p c

theorem Ext.refl (γ : Nat → Gh) (L : List AObj) : Ext γ L γ L :=
  ⟨fun _ _ h => h, fun _ o h => ⟨o, h, OStep.refl o⟩, fun _ _ _ _ h => .inl h, fun _ _ _ _ _ _ _ _ _ _ _ _ _ _ _ h => h⟩

theorem OStep.trans {a b c : AObj} (h : OStep a b) (k : OStep b c) : OStep a c := by
  cases a <;> cases b <;> first | exact h.elim | skip
  all_goals cases c <;> first | exact k.elim | trivial | skip
  · exact ⟨h.1.trans k.1, h.2.trans k.2⟩
  · obtain ⟨rfl, rfl, h⟩ := h
    obtain ⟨rfl, rfl, k⟩ := k
    refine ⟨rfl, rfl, ?_⟩
    rcases h with h | ⟨rfl, h⟩ <;> rcases k with k | ⟨rfl, k⟩
    · exact .inl (by omega)
    · exact .inl h
    · exact .inl k
    · refine .inr ⟨rfl, fun p e1 he1 => ?_⟩
      obtain ⟨e2, he2, hl, hw⟩ := h p e1 he1
      obtain ⟨e3, he3, kl, kw⟩ := k p e2 he2
      refine ⟨e3, he3, kl.trans hl, fun i x hx => ?_⟩
      obtain ⟨y, hy, hyw⟩ := hw i x hx
      obtain ⟨z, hz, hzw⟩ := kw i y hy
      exact ⟨z, hz, hzw.trans hyw⟩
  · exact ⟨h.1.trans k.1, h.2.trans k.2⟩

theorem OStep.stale {T sz g es} {o o' : AObj} (h : OStep (.vec T sz g es) o) (hn : ∀ T' sz' es', o ≠ .vec T' sz' g es') (k : OStep o o') : ∀ T' sz' es', o' ≠ .vec T' sz' g es' := by
  intro T' sz' es' e
  subst e
  cases o <;> first | exact h.elim | exact k.elim | skip
  obtain ⟨rfl, rfl, h⟩ := h
  obtain ⟨rfl, rfl, k⟩ := k
  rename_i g2 es2
  have : g2 = g := by rcases h with h | ⟨h, _⟩ <;> rcases k with k | ⟨k, _⟩ <;> omega
  subst this
  exact hn _ _ _ rfl

theorem Ext.trans {γ γ' γ'' : Nat → Gh} {L L' L'' : List AObj} (h : Ext γ L γ' L') (k : Ext γ' L' γ'' L'') : Ext γ L γ'' L'' := by
  refine ⟨fun b o hb => k.ro b o (h.ro b o hb), fun id o hL => ?_, fun b id p c hb => ?_, fun id T sz g es T' sz' es' hL hL'' p e1 he1 b c hb => ?_⟩
  · obtain ⟨o', hL', h1⟩ := h.ob id o hL
    obtain ⟨o'', hL'', h2⟩ := k.ob id o' hL'
    exact ⟨o'', hL'', h1.trans h2⟩
  · rcases h.lab b id p c hb with hb' | hs
    · rcases k.lab b id p c hb' with hb'' | hs'
      · exact .inl hb''
      · refine .inr fun o hL => ?_
        obtain ⟨o', hL', h1⟩ := h.ob id o hL
        obtain ⟨T', sz', g', es', rfl, hn⟩ := hs' o' hL'
        cases o <;> first | exact h1.elim | skip
        rename_i T sz g es
        refine ⟨T, sz, g, es, rfl, fun T'' sz'' es'' hL'' => ?_⟩
        obtain ⟨o'', hL2, h2⟩ := k.ob id _ hL'
        rw [hL''] at hL2; cases hL2
        obtain ⟨_, _, h1⟩ := h1
        obtain ⟨_, _, h2⟩ := h2
        have : g = g' := by rcases h1 with h1 | ⟨h1, _⟩ <;> rcases h2 with h2 | ⟨h2, _⟩ <;> omega
        subst this
        exact hn _ _ _ hL''
    · refine .inr fun o hL => ?_
      obtain ⟨T, sz, g, es, rfl, hn⟩ := hs o hL
      obtain ⟨o', hL', h1⟩ := h.ob id _ hL
      obtain ⟨o'', hL2, h2⟩ := k.ob id _ hL'
      refine ⟨T, sz, g, es, rfl, fun T' sz' es' hL'' => ?_⟩
      rw [hL2] at hL''
      exact h1.stale (fun T' sz' es' e => hn T' sz' es' (by rw [hL', e])) h2 T' sz' es' (Option.some.inj hL'')
  · obtain ⟨o', hL', h1⟩ := h.ob id _ hL
    obtain ⟨o'', hL2, h2⟩ := k.ob id _ hL'
    rw [hL''] at hL2; cases hL2
    cases o' <;> first | exact h1.elim | exact h2.elim | skip
    rename_i T1 sz1 g1 es1
    obtain ⟨_, _, h1⟩ := h1
    obtain ⟨_, _, h2⟩ := h2
    have hg : g1 = g := by rcases h1 with h1 | ⟨h1, _⟩ <;> rcases h2 with h2 | ⟨h2, _⟩ <;> omega
    subst hg
    have hsub : ∃ e2, sub es1 p = some e2 := by
      rcases h1 with h1 | ⟨_, h1⟩
      · omega
      · obtain ⟨e2, he2, _⟩ := h1 p e1 he1; exact ⟨e2, he2⟩
    obtain ⟨e2, he2⟩ := hsub
    exact h.nil id _ _ _ _ _ _ _ hL hL' p e1 he1 b c (k.nil id _ _ _ _ _ _ _ hL' hL'' p e2 he2 b c hb)

theorem roCell_mono {γ γ' : Nat → Gh} (h : ∀ b o, γ b = .ro o → γ' b = .ro o) {A : Option Addr} {k : Nat} {v : Value} (hr : roCell γ A k = some v) : roCell γ' A k = some v := by
  unfold roCell at *
  split at hr
  · rename_i b o
    split at hr
    · rename_i arr T fr hb
      simp only [h _ _ hb]
      exact hr
    · cases hr
  · cases hr

theorem RefOk.mono {γ γ' : Nat → Gh} {L L' : List AObj} (E : Ext γ L γ' L') {id : Nat} {p : Pth} {g n : Nat} {v : Value} (h : RefOk γ L id p g n v) : RefOk γ' L' id p g n v := by
  unfold RefOk at *
  split at h
  · rename_i T sz g' es hL
    obtain ⟨o', hL', ho⟩ := E.ob _ _ hL
    rw [hL']
    cases o' with
    | vec T' sz' g'' es'' =>
      obtain ⟨rfl, rfl, hg⟩ := ho
      obtain ⟨h1, h2⟩ := h
      rcases hg with hg | ⟨rfl, hs⟩
      · exact ⟨by omega, fun e => by omega⟩
      · refine ⟨h1, fun e => ?_⟩
        obtain ⟨es', he, hn, hv⟩ := h2 e
        obtain ⟨e2, he2, hl, _⟩ := hs _ _ he
        refine ⟨e2, he2, by omega, ?_⟩
        rcases hv with ⟨rfl, rfl, hb⟩ | ⟨b, c, rfl, hb⟩
        · exact .inl ⟨rfl, List.eq_nil_of_length_eq_zero hl, fun b c hb' => hb b c (E.nil _ _ _ _ _ _ _ _ hL hL' _ _ he b c hb')⟩
        · refine .inr ⟨b, c, rfl, ?_⟩
          rcases E.lab _ _ _ _ hb with hk | hk
          · exact hk
          · obtain ⟨_, _, _, _, h2, hne⟩ := hk _ hL; cases h2; exact absurd hL' (hne _ _ _)
    | dead => trivial
    | box => exact ho.elim
    | map => exact ho.elim
  · rename_i o hne hL
    obtain ⟨o', hL', ho⟩ := E.ob _ _ hL
    rw [hL']
    cases o' <;> first | trivial | (cases o <;> first | exact ho.elim | exact (hne _ _ _ _ rfl).elim)
  · exact h.elim

theorem EptrOk.mono {γ γ' : Nat → Gh} {L L' : List AObj} (E : Ext γ L γ' L') {id : Nat} {p : Pth} {g i off : Nat} {v : Value} (h : EptrOk γ L id p g i off v) : EptrOk γ' L' id p g i off v := by
  unfold EptrOk at *
  split at h
  · rename_i T sz g' es hL
    obtain ⟨o', hL', ho⟩ := E.ob _ _ hL
    rw [hL']
    cases o' with
    | vec T' sz' g'' es'' =>
      obtain ⟨rfl, rfl, hg⟩ := ho
      obtain ⟨h1, h2⟩ := h
      rcases hg with hg | ⟨rfl, hs⟩
      · exact ⟨by omega, fun e => by omega⟩
      · refine ⟨h1, fun e => ?_⟩
        obtain ⟨es', x, b, c, s, he, hx, hxs, hall, rfl, hb⟩ := h2 e
        obtain ⟨e2, he2, hl, hw⟩ := hs _ _ he
        obtain ⟨y, hy, hys⟩ := hw _ _ hx
        refine ⟨e2, y, b, c, s, he2, hy, by omega, ?_, rfl, ?_⟩
        · intro z hz
          obtain ⟨k, hk, rfl⟩ := List.getElem_of_mem hz
          obtain ⟨y', hy', hys'⟩ := hw k es'[k] (List.getElem?_eq_getElem (by omega))
          rw [List.getElem?_eq_getElem hk] at hy'
          cases hy'
          rw [hys']
          exact hall _ (List.getElem_mem _)
        · rcases E.lab _ _ _ _ hb with hk | hk
          · exact hk
          · obtain ⟨_, _, _, _, h2, hne⟩ := hk _ hL; cases h2; exact absurd hL' (hne _ _ _)
    | dead => trivial
    | box => exact ho.elim
    | map => exact ho.elim
  · rename_i o hne hL
    obtain ⟨o', hL', ho⟩ := E.ob _ _ hL
    rw [hL']
    cases o' <;> first | trivial | (cases o <;> first | exact ho.elim | exact (hne _ _ _ _ rfl).elim)
  · exact h.elim

theorem RV.mono {γ γ' : Nat → Gh} {L L' : List AObj} (E : Ext γ L γ' L') {x : AV} {v : Value} (h : RV γ L x v) : RV γ' L' x v := by
  induction h with
  | int k n => exact .int k n
  | bool b => exact .bool b
  | str s => exact .str s
  | lit v h => exact .lit v h
  | sl own es A n c sz vals hn hc hsz h2 h1 h3 ih => exact .sl own es A n c sz vals hn hc hsz (fun i e j x a b => roCell_mono E.ro (h2 i e j x a b)) h1 ih
  | agg cs vs hn h1 h ih => exact .agg cs vs hn h1 ih
  | tup cs vs hn h ih => exact .tup cs vs hn ih
  | ref id p g n v h h1 => exact .ref id p g n v (h.mono E) h1
  | ptr id off b c T cs hL h =>
    obtain ⟨o', hL', ho⟩ := E.ob _ _ hL
    rcases E.lab _ _ _ _ h with hk | hk
    · cases o' <;> first | exact ho.elim | exact .ptr id off b c _ _ hL' hk
    · obtain ⟨_, _, _, _, h2, _⟩ := hk _ hL; cases h2
  | eptr id p g i off v h h1 => exact .eptr id p g i off v (h.mono E) h1
  | rptr x off b o vals h2 h1 h3 ih => exact .rptr x off b o vals (fun j y a => roCell_mono E.ro (h2 j y a)) h1 ih
  | fn f cs vs hn h ih => exact .fn f cs vs hn ih
  | map id b c kt vt es hL h =>
    obtain ⟨o', hL', ho⟩ := E.ob _ _ hL
    rcases E.lab _ _ _ _ h with hk | hk
    · cases o' <;> first | exact ho.elim | exact .map id b c _ _ _ hL' hk
    · obtain ⟨_, _, _, _, h2, _⟩ := hk _ hL; cases h2
  | junk v => exact .junk v

theorem sub_append : ∀ (p : Pth) (es es' : List AV) (q : Pth), sub es p = some es' → sub es (p ++ q) = sub es' q
  | [], es, es', q, h => by simp [sub] at h; subst h; rfl
  | (i, j) :: p, es, es', q, h => by
    simp only [List.cons_append, sub] at h ⊢
    cases he : es[i]? with
    | none => simp only [he] at h; cases h
    | some e =>
      simp only [he] at h
      cases hc : e.cells[j]? with
      | none => simp only [hc] at h; cases h
      | some x =>
        simp only [hc] at h
        cases x with
        | sl own es2 =>
          cases own with
          | true => simp only [hc]; exact sub_append p es2 es' q h
          | false => cases h
        | _ => cases h

end Go.Proofs.Ytolfjeedgedblaa.K
