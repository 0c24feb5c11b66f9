/-
  Texts joined in one: K1, K2, K3, K4, K5, K6, K7, K8, K9, K10, KA, KB, KC, KD.
-/
import Derived.Calls
import Derived.Orders
import Derived.LoopN
import Derived.Laws.AppendOwn
import Derived.Laws.Tables
import Derived.Laws.Cells
import Derived.Below
import Derived.KernelRfl
import Derived.Laws.Small
import Derived.Laws.Strings
import Derived.Laws.Strings3
import Derived.Laws.Cover1
import Derived.CallsIn
import Derived.OrdersIn
import Derived.LoopNIn
import Derived.RangeFuncRecord
import Derived.Laws.Strings2
import Derived.Laws.StructEq
import Derived.Laws.Build
import Derived.Deep.AppendSrc
import Derived.Laws.MakeOwn
/-
  A logic of values for Go's functions (part 1): the values as pure data, what a world holds of them, and that this is kept.
-/
namespace Go.Proofs.Ytobdpkkmkbafbaa.K
set_option linter.unusedVariables false
set_option linter.unusedSimpArgs false
open Go

/-- Values as pure data: a slice that is only read is the list of its elements; what a call owns has a number. -/
inductive AV where
  | int (k : IntKind) (n : Int)
  | bool (b : Bool)
  | str (s : ByteArray)
  | sl (own : Bool) (es : List AV)
  | agg (cs : List AV)
  | tup (vs : List AV)
  | ref (id : Nat) (p : List (Nat × Nat)) (g n : Nat)
  | ptr (id : Nat) (off : Nat)
  | eptr (id : Nat) (p : List (Nat × Nat)) (g i off : Nat)
  | rptr (c : AV) (off : Nat)
  | fn (f : FuncId) (cap : List AV)
  | map (id : Nat)
  | lit (v : Value)
  | yld (l : Nat) (r : Loop) (ts : List AV)
  | junk
  deriving Inhabited

abbrev Pth := List (Nat × Nat)

/-- The cells of a value. -/
def AV.cells : AV → List AV
  | .agg cs => cs
  | v => [v]

/-- What a call owns. -/
inductive AObj where
  | dead
  | box (T : TypeId) (cs : List AV)
  | vec (T : TypeId) (sz g : Nat) (es : List AV)
  | map (kt vt : TypeId) (es : List (AV × AV))
  deriving Inhabited

/-- What a block of memory is for the call: not its own and not known; known and never written; its own. -/
inductive Gh where
  | out
  | ro (o : Obj)
  | ow (id : Nat) (p : Pth) (c : Nat)

def sub : List AV → Pth → Option (List AV)
  | es, [] => some es
  | es, (i, j) :: p =>
    match es[i]? with
    | some e =>
      match e.cells[j]? with
      | some (.sl true es') => sub es' p
      | _ => none
    | none => none

def roCell (γ : Nat → Gh) (A : Option Addr) (k : Nat) : Option Value :=
  match A with
  | some ⟨b, o, none⟩ =>
    match γ b with
    | .ro (.cells arr _ _) => arr[o + k]?
    | _ => none
  | _ => none

def RefOk (γ : Nat → Gh) (L : List AObj) (id : Nat) (p : Pth) (g n : Nat) (v : Value) : Prop :=
  match L[id]? with
  | some (.vec _ _ g' es) =>
    g ≤ g' ∧ (g = g' → ∃ es', sub es p = some es' ∧ n ≤ es'.length ∧
      ((v = .slice none 0 0 ∧ es' = [] ∧ ∀ b c, γ b ≠ .ow id p c) ∨
       ∃ b c, v = .slice (some ⟨b, 0, none⟩) n c ∧ γ b = .ow id p c))
  | some _ => True
  | none => False

def EptrOk (γ : Nat → Gh) (L : List AObj) (id : Nat) (p : Pth) (g i off : Nat) (v : Value) : Prop :=
  match L[id]? with
  | some (.vec _ _ g' es) =>
    g ≤ g' ∧ (g = g' → ∃ es' e b c sz, sub es p = some es' ∧ es'[i]? = some e ∧ e.cells.length = sz ∧
      (∀ e ∈ es', e.cells.length = sz) ∧ v = .pointer (some ⟨b, i * sz + off, none⟩) ∧ γ b = .ow id p c)
  | some _ => True
  | none => False

/-- 'v' is the value 'x'. -/
inductive RV (γ : Nat → Gh) (L : List AObj) : AV → Value → Prop where
  | int (k : IntKind) (n : Int) : RV γ L (.int k n) (.int k n)
  | bool (b : Bool) : RV γ L (.bool b) (.bool b)
  | str (s : ByteArray) : RV γ L (.str s) (.string s)
  | lit (v : Value) (h : v.oneCell' = true) : RV γ L (.lit v) v
  | sl (own : Bool) (es : List AV) (A : Option Addr) (n c sz : Nat) (vals : Nat → Nat → Value) (hn : n = es.length) (hc : n ≤ c)
      (hsz : ∀ e ∈ es, e.cells.length = sz)
      (h2 : ∀ i e j x, es[i]? = some e → e.cells[j]? = some x → roCell γ A (i * sz + j) = some (vals i j))
      (h1 : ∀ i e j x, es[i]? = some e → e.cells[j]? = some x → (vals i j).oneCell' = true)
      (h3 : ∀ i e j x, es[i]? = some e → e.cells[j]? = some x → RV γ L x (vals i j)) : RV γ L (.sl own es) (.slice A n c)
  | agg (cs : List AV) (vs : Array Value) (hn : vs.size = cs.length) (h1 : ∀ v ∈ vs, v.oneCell' = true)
      (h : ∀ (i : Nat) x, cs[i]? = some x → RV γ L x (vs.getD i undef)) : RV γ L (.agg cs) (.agg vs)
  | tup (cs : List AV) (vs : Array Value) (hn : vs.size = cs.length)
      (h : ∀ (i : Nat) x, cs[i]? = some x → RV γ L x (vs.getD i undef)) : RV γ L (.tup cs) (.tuple vs)
  | ref (id : Nat) (p : Pth) (g n : Nat) (v : Value) (h : RefOk γ L id p g n v) (h1 : v.oneCell' = true) : RV γ L (.ref id p g n) v
  | ptr (id off b c : Nat) (T : TypeId) (cs : List AV) (hL : L[id]? = some (.box T cs)) (h : γ b = .ow id [] c) : RV γ L (.ptr id off) (.pointer (some ⟨b, off, none⟩))
  | eptr (id : Nat) (p : Pth) (g i off : Nat) (v : Value) (h : EptrOk γ L id p g i off v) (h1 : v.oneCell' = true) : RV γ L (.eptr id p g i off) v
  | rptr (x : AV) (off b o : Nat) (vals : Nat → Value)
      (h2 : ∀ j y, x.cells[j]? = some y → roCell γ (some ⟨b, o, none⟩) j = some (vals j))
      (h1 : ∀ j y, x.cells[j]? = some y → (vals j).oneCell' = true)
      (h3 : ∀ j y, x.cells[j]? = some y → RV γ L y (vals j)) : RV γ L (.rptr x off) (.pointer (some ⟨b, o + off, none⟩))
  | fn (f : FuncId) (cs : List AV) (vs : Array Value) (hn : vs.size = cs.length)
      (h : ∀ (i : Nat) x, cs[i]? = some x → RV γ L x (vs.getD i undef)) : RV γ L (.fn f cs) (.func (.func f) #[] vs)
  | map (id b c : Nat) (kt vt : TypeId) (es : List (AV × AV)) (hL : L[id]? = some (.map kt vt es)) (h : γ b = .ow id [] c) : RV γ L (.map id) (.map (some b))
  | yld (l : Nat) (r : Loop) (ts : List AV) (h : γ l = .ro (.loop r)) (hts : ∀ (i : Nat) x, ts[i]? = some x → RV γ L x (r.tmps.getD i undef)) : RV γ L (.yld l r ts) (.func (.yield l) #[] #[])
  | junk (v : Value) : RV γ L .junk v

/-- A cell of a row that the call owns: an element's slice that is owned by the row, too, has its place. -/
def CV (γ : Nat → Gh) (L : List AObj) (id : Nat) (q : Pth) (x : AV) (v : Value) : Prop :=
  match x with
  | .sl true es => (es = [] ∧ v = .slice none 0 0 ∧ ∀ b c, γ b ≠ .ow id q c) ∨ ∃ b c, v = .slice (some ⟨b, 0, none⟩) es.length c ∧ γ b = .ow id q c
  | x => RV γ L x v

def RowRep (γ : Nat → Gh) (L : List AObj) (id : Nat) (p : Pth) (s : Nat) (es : List AV) (arr : Array Value) : Prop :=
  (∀ e ∈ es, e.cells.length = s) ∧
  ∀ i e j x, es[i]? = some e → e.cells[j]? = some x → ∃ v, arr[i * s + j]? = some v ∧ v.oneCell' = true ∧ CV γ L id (p ++ [(i, j)]) x v

/-- A map's entries: keys and values are plain. -/
def MapRep (es : List (AV × AV)) (m : Array MapEntry) (clock : Nat) : Prop :=
  m.size = es.length ∧ (∀ (i : Nat) (e : AV × AV), es[i]? = some e → ∃ x : MapEntry, m[i]? = some x ∧ RV (fun _ => .out) [] e.1 x.key ∧ RV (fun _ => .out) [] e.2 x.val) ∧ (∀ x : MapEntry, x ∈ m → x.born < clock)

def BlockRep (γ : Nat → Gh) (L : List AObj) (o : Obj) (id : Nat) (p : Pth) (c : Nat) : Prop :=
  match L[id]? with
  | some (.box T cs) => p = [] ∧ ∃ arr, o = .cells arr T (0, 0) ∧ arr.size = cs.length ∧
      ∀ (j : Nat) x, cs[j]? = some x → ∃ v, arr[j]? = some v ∧ v.oneCell' = true ∧ RV γ L x v
  | some (.vec T sz _ es) => ∃ es' s arr T', sub es p = some es' ∧ o = .cells arr T' (0, 0) ∧ (p = [] → T' = T ∧ s = sz) ∧
      arr.size = c * s ∧ es'.length ≤ c ∧ c ≤ maxLen ∧ RowRep γ L id p s es' arr
  | some (.map _ _ es) => p = [] ∧ ∃ m clock, o = .map m clock ∧ MapRep es m clock
  | _ => False

structure Inv (γ : Nat → Gh) (L : List AObj) (w : World) : Prop where
  ro : ∀ b o, γ b = .ro o → w.heap[b]? = some o
  ow : ∀ b id p c, γ b = .ow id p c → ∃ o, w.heap[b]? = some o ∧ BlockRep γ L o id p c
  inj : ∀ b b' id p c c', γ b = .ow id p c → γ b' = .ow id p c' → b = b'
  box : ∀ (id : Nat) T cs, L[id]? = some (.box T cs) → ∃ b c, γ b = .ow id [] c
  map : ∀ (id : Nat) kt vt es, L[id]? = some (.map kt vt es) → ∃ b c, γ b = .ow id [] c

/-- What a stretch of a call may do to memory. -/
structure Stp (γ : Nat → Gh) (w : World) (γ' : Nat → Gh) (w' : World) : Prop where
  os : w'.os = w.os
  tape : w'.tape = w.tape
  output : w'.output = w.output
  size : w.heap.size ≤ w'.heap.size
  ro : ∀ b o, γ b = .ro o → γ' b = .ro o
  out : ∀ b, b < w.heap.size → γ b = .out → γ' b = .out ∧ w'.heap[b]? = w.heap[b]?

theorem Stp.refl (γ : Nat → Gh) (w : World) : Stp γ w γ w := ⟨rfl, rfl, rfl, Nat.le_refl _, fun _ _ h => h, fun _ _ h => ⟨h, rfl⟩⟩
theorem Stp.trans {γ γ' γ'' : Nat → Gh} {w w' w'' : World} (h : Stp γ w γ' w') (k : Stp γ' w' γ'' w'') : Stp γ w γ'' w'' :=
  ⟨k.os.trans h.os, k.tape.trans h.tape, k.output.trans h.output, Nat.le_trans h.size k.size, fun b o hb => k.ro b o (h.ro b o hb),
   fun b hb ho => by
    obtain ⟨h1, h2⟩ := h.out b hb ho
    obtain ⟨k1, k2⟩ := k.out b (Nat.lt_of_lt_of_le hb h.size) h1
    exact ⟨k1, k2.trans h2⟩⟩

/-! ### What keeps a value's meaning -/
def OStep : AObj → AObj → Prop
  | .box T cs, .box T' cs' => T = T' ∧ cs.length = cs'.length
  | .map kt vt _, .map kt' vt' _ => kt = kt' ∧ vt = vt'
  | .vec T sz g es, .vec T' sz' g' es' => T = T' ∧ sz = sz' ∧ (g < g' ∨ (g = g' ∧ ∀ p e1, sub es p = some e1 → ∃ e2, sub es' p = some e2 ∧
      e2.length = e1.length ∧ ∀ (i : Nat) x, e1[i]? = some x → ∃ y, e2[i]? = some y ∧ y.cells.length = x.cells.length))
  | .vec .., .dead => True
  | .dead, .dead => True
  | _, _ => False

theorem OStep.refl (o : AObj) : OStep o o := by
  cases o <;> simp [OStep]
  intro p e1 h; exact ⟨e1, h, rfl, fun i x hx => ⟨x, hx, rfl⟩⟩

structure Ext (γ : Nat → Gh) (L : List AObj) (γ' : Nat → Gh) (L' : List AObj) : Prop where
  ro : ∀ b o, γ b = .ro o → γ' b = .ro o
  ob : ∀ (id : Nat) o, L[id]? = some o → ∃ o', L'[id]? = some o' ∧ OStep o o'
  lab : ∀ b id p c, γ b = .ow id p c → γ' b = .ow id p c ∨
    ∀ o, L[id]? = some o → ∃ T sz g es, o = .vec T sz g es ∧ ∀ T' sz' es', L'[id]? ≠ some (.vec T' sz' g es')
  nil : ∀ (id : Nat) T sz g es T' sz' es', L[id]? = some (.vec T sz g es) → L'[id]? = some (.vec T' sz' g es') →
    ∀ p e1, sub es p = some e1 → ∀ b c, γ' b = .ow id p c → γ b = .ow id p c

theorem Ext.refl (γ : Nat → Gh) (L : List AObj) : Ext γ L γ L :=
  ⟨fun _ _ h => h, fun _ o h => ⟨o, h, OStep.refl o⟩, fun _ _ _ _ h => .inl h, fun _ _ _ _ _ _ _ _ _ _ _ _ _ _ _ h => h⟩

theorem OStep.trans {a b c : AObj} (h : OStep a b) (k : OStep b c) : OStep a c := by
  cases a <;> cases b <;> first | exact h.elim | skip
  all_goals cases c <;> first | exact k.elim | trivial | skip
  · exact ⟨h.1.trans k.1, h.2.trans k.2⟩
  · obtain ⟨rfl, rfl, h⟩ := h
    obtain ⟨rfl, rfl, k⟩ := k
    refine ⟨rfl, rfl, ?_⟩
    rcases h with h | ⟨rfl, h⟩ <;> rcases k with k | ⟨rfl, k⟩
    · exact .inl (by omega)
    · exact .inl h
    · exact .inl k
    · refine .inr ⟨rfl, fun p e1 he1 => ?_⟩
      obtain ⟨e2, he2, hl, hw⟩ := h p e1 he1
      obtain ⟨e3, he3, kl, kw⟩ := k p e2 he2
      refine ⟨e3, he3, kl.trans hl, fun i x hx => ?_⟩
      obtain ⟨y, hy, hyw⟩ := hw i x hx
      obtain ⟨z, hz, hzw⟩ := kw i y hy
      exact ⟨z, hz, hzw.trans hyw⟩
  · exact ⟨h.1.trans k.1, h.2.trans k.2⟩

theorem OStep.stale {T sz g es} {o o' : AObj} (h : OStep (.vec T sz g es) o) (hn : ∀ T' sz' es', o ≠ .vec T' sz' g es') (k : OStep o o') : ∀ T' sz' es', o' ≠ .vec T' sz' g es' := by
  intro T' sz' es' e
  subst e
  cases o <;> first | exact h.elim | exact k.elim | skip
  obtain ⟨rfl, rfl, h⟩ := h
  obtain ⟨rfl, rfl, k⟩ := k
  rename_i g2 es2
  have : g2 = g := by rcases h with h | ⟨h, _⟩ <;> rcases k with k | ⟨k, _⟩ <;> omega
  subst this
  exact hn _ _ _ rfl

theorem Ext.trans {γ γ' γ'' : Nat → Gh} {L L' L'' : List AObj} (h : Ext γ L γ' L') (k : Ext γ' L' γ'' L'') : Ext γ L γ'' L'' := by
  refine ⟨fun b o hb => k.ro b o (h.ro b o hb), fun id o hL => ?_, fun b id p c hb => ?_, fun id T sz g es T' sz' es' hL hL'' p e1 he1 b c hb => ?_⟩
  · obtain ⟨o', hL', h1⟩ := h.ob id o hL
    obtain ⟨o'', hL'', h2⟩ := k.ob id o' hL'
    exact ⟨o'', hL'', h1.trans h2⟩
  · rcases h.lab b id p c hb with hb' | hs
    · rcases k.lab b id p c hb' with hb'' | hs'
      · exact .inl hb''
      · refine .inr fun o hL => ?_
        obtain ⟨o', hL', h1⟩ := h.ob id o hL
        obtain ⟨T', sz', g', es', rfl, hn⟩ := hs' o' hL'
        cases o <;> first | exact h1.elim | skip
        rename_i T sz g es
        refine ⟨T, sz, g, es, rfl, fun T'' sz'' es'' hL'' => ?_⟩
        obtain ⟨o'', hL2, h2⟩ := k.ob id _ hL'
        rw [hL''] at hL2; cases hL2
        obtain ⟨_, _, h1⟩ := h1
        obtain ⟨_, _, h2⟩ := h2
        have : g = g' := by rcases h1 with h1 | ⟨h1, _⟩ <;> rcases h2 with h2 | ⟨h2, _⟩ <;> omega
        subst this
        exact hn _ _ _ hL''
    · refine .inr fun o hL => ?_
      obtain ⟨T, sz, g, es, rfl, hn⟩ := hs o hL
      obtain ⟨o', hL', h1⟩ := h.ob id _ hL
      obtain ⟨o'', hL2, h2⟩ := k.ob id _ hL'
      refine ⟨T, sz, g, es, rfl, fun T' sz' es' hL'' => ?_⟩
      rw [hL2] at hL''
      exact h1.stale (fun T' sz' es' e => hn T' sz' es' (by rw [hL', e])) h2 T' sz' es' (Option.some.inj hL'')
  · obtain ⟨o', hL', h1⟩ := h.ob id _ hL
    obtain ⟨o'', hL2, h2⟩ := k.ob id _ hL'
    rw [hL''] at hL2; cases hL2
    cases o' <;> first | exact h1.elim | exact h2.elim | skip
    rename_i T1 sz1 g1 es1
    obtain ⟨_, _, h1⟩ := h1
    obtain ⟨_, _, h2⟩ := h2
    have hg : g1 = g := by rcases h1 with h1 | ⟨h1, _⟩ <;> rcases h2 with h2 | ⟨h2, _⟩ <;> omega
    subst hg
    have hsub : ∃ e2, sub es1 p = some e2 := by
      rcases h1 with h1 | ⟨_, h1⟩
      · omega
      · obtain ⟨e2, he2, _⟩ := h1 p e1 he1; exact ⟨e2, he2⟩
    obtain ⟨e2, he2⟩ := hsub
    exact h.nil id _ _ _ _ _ _ _ hL hL' p e1 he1 b c (k.nil id _ _ _ _ _ _ _ hL' hL'' p e2 he2 b c hb)

theorem roCell_mono {γ γ' : Nat → Gh} (h : ∀ b o, γ b = .ro o → γ' b = .ro o) {A : Option Addr} {k : Nat} {v : Value} (hr : roCell γ A k = some v) : roCell γ' A k = some v := by
  unfold roCell at *
  split at hr
  · rename_i b o
    split at hr
    · rename_i arr T fr hb
      simp only [h _ _ hb]
      exact hr
    · cases hr
  · cases hr

theorem RefOk.mono {γ γ' : Nat → Gh} {L L' : List AObj} (E : Ext γ L γ' L') {id : Nat} {p : Pth} {g n : Nat} {v : Value} (h : RefOk γ L id p g n v) : RefOk γ' L' id p g n v := by
  unfold RefOk at *
  split at h
  · rename_i T sz g' es hL
    obtain ⟨o', hL', ho⟩ := E.ob _ _ hL
    rw [hL']
    cases o' with
    | vec T' sz' g'' es'' =>
      obtain ⟨rfl, rfl, hg⟩ := ho
      obtain ⟨h1, h2⟩ := h
      rcases hg with hg | ⟨rfl, hs⟩
      · exact ⟨by omega, fun e => by omega⟩
      · refine ⟨h1, fun e => ?_⟩
        obtain ⟨es', he, hn, hv⟩ := h2 e
        obtain ⟨e2, he2, hl, _⟩ := hs _ _ he
        refine ⟨e2, he2, by omega, ?_⟩
        rcases hv with ⟨rfl, rfl, hb⟩ | ⟨b, c, rfl, hb⟩
        · exact .inl ⟨rfl, List.eq_nil_of_length_eq_zero hl, fun b c hb' => hb b c (E.nil _ _ _ _ _ _ _ _ hL hL' _ _ he b c hb')⟩
        · refine .inr ⟨b, c, rfl, ?_⟩
          rcases E.lab _ _ _ _ hb with hk | hk
          · exact hk
          · obtain ⟨_, _, _, _, h2, hne⟩ := hk _ hL; cases h2; exact absurd hL' (hne _ _ _)
    | dead => trivial
    | box => exact ho.elim
    | map => exact ho.elim
  · rename_i o hne hL
    obtain ⟨o', hL', ho⟩ := E.ob _ _ hL
    rw [hL']
    cases o' <;> first | trivial | (cases o <;> first | exact ho.elim | exact (hne _ _ _ _ rfl).elim)
  · exact h.elim

theorem EptrOk.mono {γ γ' : Nat → Gh} {L L' : List AObj} (E : Ext γ L γ' L') {id : Nat} {p : Pth} {g i off : Nat} {v : Value} (h : EptrOk γ L id p g i off v) : EptrOk γ' L' id p g i off v := by
  unfold EptrOk at *
  split at h
  · rename_i T sz g' es hL
    obtain ⟨o', hL', ho⟩ := E.ob _ _ hL
    rw [hL']
    cases o' with
    | vec T' sz' g'' es'' =>
      obtain ⟨rfl, rfl, hg⟩ := ho
      obtain ⟨h1, h2⟩ := h
      rcases hg with hg | ⟨rfl, hs⟩
      · exact ⟨by omega, fun e => by omega⟩
      · refine ⟨h1, fun e => ?_⟩
        obtain ⟨es', x, b, c, s, he, hx, hxs, hall, rfl, hb⟩ := h2 e
        obtain ⟨e2, he2, hl, hw⟩ := hs _ _ he
        obtain ⟨y, hy, hys⟩ := hw _ _ hx
        refine ⟨e2, y, b, c, s, he2, hy, by omega, ?_, rfl, ?_⟩
        · intro z hz
          obtain ⟨k, hk, rfl⟩ := List.getElem_of_mem hz
          obtain ⟨y', hy', hys'⟩ := hw k es'[k] (List.getElem?_eq_getElem (by omega))
          rw [List.getElem?_eq_getElem hk] at hy'
          cases hy'
          rw [hys']
          exact hall _ (List.getElem_mem _)
        · rcases E.lab _ _ _ _ hb with hk | hk
          · exact hk
          · obtain ⟨_, _, _, _, h2, hne⟩ := hk _ hL; cases h2; exact absurd hL' (hne _ _ _)
    | dead => trivial
    | box => exact ho.elim
    | map => exact ho.elim
  · rename_i o hne hL
    obtain ⟨o', hL', ho⟩ := E.ob _ _ hL
    rw [hL']
    cases o' <;> first | trivial | (cases o <;> first | exact ho.elim | exact (hne _ _ _ _ rfl).elim)
  · exact h.elim

theorem RV.mono {γ γ' : Nat → Gh} {L L' : List AObj} (E : Ext γ L γ' L') {x : AV} {v : Value} (h : RV γ L x v) : RV γ' L' x v := by
  induction h with
  | int k n => exact .int k n
  | bool b => exact .bool b
  | str s => exact .str s
  | lit v h => exact .lit v h
  | sl own es A n c sz vals hn hc hsz h2 h1 h3 ih => exact .sl own es A n c sz vals hn hc hsz (fun i e j x a b => roCell_mono E.ro (h2 i e j x a b)) h1 ih
  | agg cs vs hn h1 h ih => exact .agg cs vs hn h1 ih
  | tup cs vs hn h ih => exact .tup cs vs hn ih
  | ref id p g n v h h1 => exact .ref id p g n v (h.mono E) h1
  | ptr id off b c T cs hL h =>
    obtain ⟨o', hL', ho⟩ := E.ob _ _ hL
    rcases E.lab _ _ _ _ h with hk | hk
    · cases o' <;> first | exact ho.elim | exact .ptr id off b c _ _ hL' hk
    · obtain ⟨_, _, _, _, h2, _⟩ := hk _ hL; cases h2
  | eptr id p g i off v h h1 => exact .eptr id p g i off v (h.mono E) h1
  | rptr x off b o vals h2 h1 h3 ih => exact .rptr x off b o vals (fun j y a => roCell_mono E.ro (h2 j y a)) h1 ih
  | fn f cs vs hn h ih => exact .fn f cs vs hn ih
  | map id b c kt vt es hL h =>
    obtain ⟨o', hL', ho⟩ := E.ob _ _ hL
    rcases E.lab _ _ _ _ h with hk | hk
    · cases o' <;> first | exact ho.elim | exact .map id b c _ _ _ hL' hk
    · obtain ⟨_, _, _, _, h2, _⟩ := hk _ hL; cases h2
  | yld l r ts h hts ih => exact .yld l r ts (E.ro _ _ h) ih
  | junk v => exact .junk v

theorem sub_append : ∀ (p : Pth) (es es' : List AV) (q : Pth), sub es p = some es' → sub es (p ++ q) = sub es' q
  | [], es, es', q, h => by simp [sub] at h; subst h; rfl
  | (i, j) :: p, es, es', q, h => by
    simp only [List.cons_append, sub] at h ⊢
    cases he : es[i]? with
    | none => simp only [he] at h; cases h
    | some e =>
      simp only [he] at h
      cases hc : e.cells[j]? with
      | none => simp only [hc] at h; cases h
      | some x =>
        simp only [hc] at h
        cases x with
        | sl own es2 =>
          cases own with
          | true => simp only [hc]; exact sub_append p es2 es' q h
          | false => cases h
        | _ => cases h

end Go.Proofs.Ytobdpkkmkbafbaa.K
/-
  A logic of values for Go's functions (part 2): states, one operation's meaning, and the operations that only compute or read.
-/
namespace Go.Proofs.Ytobdpkkmkbafbaa.K
set_option linter.unusedVariables false
set_option linter.unusedSimpArgs false
open Go

structure St where
  t : List AV
  L : List AObj

def absA : Value → AV
  | .int k n => .int k n
  | .bool b => .bool b
  | .string s => .str s
  | v => if v.oneCell' then .lit v else .junk
/-- A record that is written out. -/
def absG : Value → AV
  | .agg vs => if vs.toList.all Value.oneCell' then .agg (vs.toList.map absA) else .junk
  | _ => .junk
def absV : Value → AV
  | .int k n => .int k n
  | .bool b => .bool b
  | .string s => .str s
  | v => if v.oneCell' then .lit v else absG v

def St.ev (s : St) : Operand → AV
  | .tmp t => s.t.getD t .junk
  | .const v => absV v
  | .global _ => .junk
  | .func f => .fn f []

def St.put (s : St) (d : Option Tmp) (x : AV) : St :=
  match d with
  | some d => { s with t := s.t.set d x }
  | none => s

/-- The marks of loops over functions among a call's deferred calls: each names a block of deferred calls that is empty. -/
def Marks (γ : Nat → Gh) (ds : List Deferred) : Prop :=
  ∃ rs : List Nat, rs.Nodup ∧ ds = rs.map (fun r => ({ target := .collected r, args := #[] } : Deferred)) ∧ ∀ r ∈ rs, γ r = .ro (.deferred (some []))

theorem Marks.nil {γ : Nat → Gh} : Marks γ [] := ⟨[], .nil, rfl, fun r h => by simp at h⟩
theorem Marks.mono {γ γ' : Nat → Gh} {ds : List Deferred} (h : Marks γ ds) (hro : ∀ b o, γ b = .ro o → γ' b = .ro o) : Marks γ' ds := by
  obtain ⟨rs, h1, h2, h3⟩ := h
  exact ⟨rs, h1, h2, fun r hr => hro _ _ (h3 r hr)⟩

structure Rel (γ : Nat → Gh) (s : St) (a : Act) (w : World) : Prop where
  defers : Marks γ a.defers
  size : a.tmps.size = s.t.length
  tmps : ∀ (i : Nat) x, s.t[i]? = some x → RV γ s.L x (a.tmps.getD i undef)
  inv : Inv γ s.L w

theorem RV.absA {γ : Nat → Gh} {L : List AObj} (v : Value) : RV γ L (absA v) v := by
  unfold K.absA
  split
  · exact .int _ _
  · exact .bool _
  · exact .str _
  · split
    · rename_i h; exact .lit _ h
    · exact .junk _
theorem RV.absG {γ : Nat → Gh} {L : List AObj} (v : Value) : RV γ L (absG v) v := by
  unfold K.absG
  split
  · split
    · rename_i vs h
      refine .agg _ _ (by simp) (fun v hv => List.all_eq_true.1 h v (by simpa using hv)) fun i x hx => ?_
      rw [List.getElem?_map, Option.map_eq_some_iff] at hx
      obtain ⟨y, hy, rfl⟩ := hx
      have : vs.getD i undef = y := by
        rw [Array.getElem?_toList] at hy
        simp [Array.getD_eq_getD_getElem?, hy]
      rw [this]
      exact .absA y
    · exact .junk _
  · exact .junk _
theorem RV.absV {γ : Nat → Gh} {L : List AObj} (v : Value) : RV γ L (absV v) v := by
  unfold K.absV
  split
  · exact .int _ _
  · exact .bool _
  · exact .str _
  · split
    · rename_i h; exact .lit _ h
    · exact .absG _

theorem Rel.ev {γ : Nat → Gh} {s : St} {a : Act} {w : World} (h : Rel γ s a w) (x : Operand) : RV γ s.L (s.ev x) (a.eval x) := by
  cases x with
  | tmp t =>
    simp only [St.ev, Act.eval, List.getD_eq_getElem?_getD]
    cases ht : s.t[t]? with
    | none => exact .junk _
    | some y => exact h.tmps t y ht
  | const v => exact .absV v
  | global g => exact .junk _
  | func f => exact .fn f [] #[] rfl (fun i x h => by simp at h)

theorem Rel.put {γ : Nat → Gh} {s : St} {a : Act} {w : World} (h : Rel γ s a w) (d : Option Tmp) {x : AV} {v : Value} (hv : RV γ s.L x v) : Rel γ (s.put d x) (a.put d v) w := by
  cases d with
  | none => exact h
  | some d =>
    refine ⟨h.defers, ?_, ?_, h.inv⟩
    · simp [Act.put, St.put, h.size]
    · intro i y hy
      simp only [St.put, List.getElem?_set] at hy
      simp only [Act.put, Array.getD_eq_getD_getElem?, Array.getElem?_setIfInBounds, h.size]
      split at hy
      · subst_vars
        split at hy
        · cases hy
          rename_i hd
          simp [hd]; exact hv
        · cases hy
      · rename_i hne
        simp only [hne, if_false]
        have := h.tmps i y hy
        rw [Array.getD_eq_getD_getElem?] at this
        exact this

theorem Rel.mono {γ γ' : Nat → Gh} {s : St} {a : Act} {w w' : World} {L' : List AObj} (h : Rel γ s a w) (E : Ext γ s.L γ' L') (hI : Inv γ' L' w') : Rel γ' { s with L := L' } a w' :=
  ⟨h.defers.mono E.ro, h.size, fun i x hx => (h.tmps i x hx).mono E, hI⟩

theorem St.put_L (s : St) (d : Option Tmp) (x : AV) : (s.put d x).L = s.L := by cases d <;> rfl

/-- The wide fence, in a function's frame or in a loop's round. -/
def FW (ro : Option Nat) : Fence := { fn := fun _ => True, depth := none, alive := false, round := ro }

theorem callsIn_FW {ro : Option Nat} {n : Nat} {P : Program} {f : FuncId} {args : Array Value} {w : World} {R : Ending → World → Prop} (h : Calls P f args w R) : CallsIn (FW ro) n P f args w R :=
  (callsIn_wide (n := n)).2 h
theorem callsIn_FW' {ro : Option Nat} {n : Nat} {P : Program} {f : FuncId} {args : Array Value} {w : World} {R : Ending → World → Prop} (h : CallsIn (FW ro) n P f args w R) : Calls P f args w R :=
  (callsIn_wide (n := n)).1 h
theorem rowsIn_FW {ro : Option Nat} {n : Nat} {P : Program} {row : String} {args : Array Value} {w : World} {R : Value → World → Prop} (h : Rows P row args w R) : RowsIn (FW ro) n P row args w R :=
  fun c cs _ => let ⟨v, w', r, s⟩ := h c cs; ⟨v, w', r, stepsIn_wide.2 s⟩

/-- What one operation does: as everywhere; or a loop's round. -/
def OpR (P : Program) (o : Oper) (a : Act) (w : World) (K : Act → World → Prop) (Q : Exit → Act → World → Prop) : Prop :=
  o.wp P a w K Q ∨ ∃ l f tmps assign body w', (execOp a.eval o).run P w = .ok (.round l f tmps assign body) w' ∧
    ∀ ro, RoundIn (FW ro) 0 P l f tmps assign body w' fun e w'' => ∃ v, e = .returned v ∧ K (a.put o.dst v) w''

theorem OpR.wpIn {P : Program} {o : Oper} {a : Act} {w : World} {K : Act → World → Prop} {Q : Exit → Act → World → Prop} (h : OpR P o a w K Q) (hd : ∀ c, o.op ≠ .defer c) (ro : Option Nat) :
    o.wpIn (FW ro) 0 P a w K Q := by
  refine ⟨fun _ _ => trivial, ?_⟩
  rw [Oper.semAt_eq _ _ _ hd]
  rcases h with h | ⟨l, f, tmps, assign, body, w', hr, h⟩
  · unfold Oper.wp at h
    generalize (execOp a.eval o).run P w = r at *
    cases r with
    | ok x w' =>
      cases x <;> simp only [Oper.upon, Oper.uponIn] at h ⊢ <;>
        first
          | exact h
          | exact ⟨fun h => by simp [FW] at h, (callsIn_FW h)⟩
          | exact ⟨fun h => by simp [FW] at h, (rowsIn_FW h)⟩
    | halt x w' => cases x <;> simp only [Oper.upon, Oper.uponIn] at h ⊢ <;> exact h
  · rw [hr]
    simp only [Oper.uponIn]
    refine ⟨fun h => by simp [FW] at h, RoundIn.mono (h ro) ?_⟩
    rintro e w'' ⟨v, rfl, hk⟩
    exact hk

/-- One operation leads from the state 's' to the state 's''. -/
def OpS (P : Program) (o : Oper) (s s' : St) : Prop :=
  ∀ γ a w K Q, Rel γ s a w → (∀ γ' a' w', Rel γ' s' a' w' → Ext γ s.L γ' s'.L → Stp γ w γ' w' → K a' w') → OpR P o a w K Q

theorem Act.put_defers (a : Act) (d : Option Tmp) (v : Value) : (a.put d v).defers = a.defers := by cases d <;> rfl

theorem ofValue_target {v : Value} {args : Array Value} {P : Program} {w w' : World} {d : Deferred} (h : (Deferred.ofValue v args).run P w = .ok d w') : ∀ r, d.target ≠ .collected r := by
  intro r e
  unfold Deferred.ofValue at h
  split at h <;> simp [stuck, Sem.run] at h
  all_goals (try (obtain ⟨rfl, _⟩ := h; cases e))

/-- What leads on is no 'defer' statement. -/
theorem OpS.noDefer {P : Program} {o : Oper} {s s' : St} (h : OpS P o s s') {γ : Nat → Gh} {a : Act} {w : World} (hr : Rel γ s a w) : ∀ c, o.op ≠ .defer c := by
  intro c hc
  have key : ∀ d w1, (resolve a.eval c o.type).run P w = .ok d w1 → ∀ r, d.target ≠ .collected r := by
    intro d w1 hd r e
    unfold resolve at hd
    split at hd
    · simp at hd; obtain ⟨rfl, _⟩ := hd; cases e
    · simp at hd; obtain ⟨rfl, _⟩ := hd; cases e
    · exact ofValue_target hd r e
  rcases h γ a w (fun a' w' => ∃ γ', Rel γ' s' a' w') (fun _ _ _ => False) hr (fun γ' a' w' h1 _ _ => ⟨γ', h1⟩) with h1 | ⟨l, f, tmps, assign, body, w', hr', _⟩
  · unfold Oper.wp execOp at h1
    simp only [hc, Sem.run_bind] at h1
    cases hres : (resolve a.eval c o.type).run P w with
    | ok d w1 =>
      rw [hres] at h1
      simp only [Result.andThen_ok, Sem.run_pure, Oper.upon] at h1
      obtain ⟨γ', h2⟩ := h1
      obtain ⟨rs, _, he, _⟩ := h2.defers
      rw [Act.put_defers] at he
      cases rs with
      | nil => simp at he
      | cons r rs => simp at he; exact key d w1 hres r (by rw [he.1])
    | halt x w1 =>
      rw [hres] at h1
      cases x <;> simp [Result.andThen, Oper.upon] at h1
  · unfold execOp at hr'
    simp only [hc, Sem.run_bind] at hr'
    cases hres : (resolve a.eval c o.type).run P w with
    | ok d w1 => rw [hres] at hr'; simp at hr'
    | halt x w1 => rw [hres] at hr'; simp [Result.andThen] at hr'

theorem OpS.wpIn {P : Program} {o : Oper} {s s' : St} (h : OpS P o s s') {γ : Nat → Gh} {a : Act} {w : World} (ro : Option Nat) {K : Act → World → Prop} {Q : Exit → Act → World → Prop} (hr : Rel γ s a w)
    (hK : ∀ γ' a' w', Rel γ' s' a' w' → Ext γ s.L γ' s'.L → Stp γ w γ' w' → K a' w') : o.wpIn (FW ro) 0 P a w K Q :=
  (h γ a w K Q hr hK).wpIn (h.noDefer hr) ro

theorem OpS.pure {P : Program} {o : Oper} {s : St} {x : AV}
    (h : ∀ γ a w, Rel γ s a w → ∃ v, (execOp a.eval o).run P w = .ok (.value v) w ∧ RV γ s.L x v) : OpS P o s (s.put o.dst x) := by
  intro γ a w K Q hr hK
  refine .inl ?_
  obtain ⟨v, hv, hx⟩ := h γ a w hr
  unfold Oper.wp
  rw [hv]
  refine hK γ _ w (hr.put _ hx) ?_ (Stp.refl _ _)
  cases o.dst <;> exact Ext.refl _ _

theorem Inv.drew {γ : Nat → Gh} {L : List AObj} {w : World} (h : Inv γ L w) : Inv γ L w.drew := ⟨h.ro, h.ow, h.inj, h.box, h.map⟩

/-! ### reading cells -/
theorem oneCell_cells {v : Value} (h : v.oneCell' = true) : v.cells = #[v] := by
  cases v <;> first | rfl | simp [Value.oneCell'] at h

/-- The cells of a value that is told as a datum. -/
theorem RV.cells {γ : Nat → Gh} {L : List AObj} {x : AV} {v : Value} (h : RV γ L x v) (hj : x ≠ .junk) (ht : ∀ vs, x ≠ .tup vs) :
    v.cells.size = x.cells.length ∧ ∀ (j : Nat) y, x.cells[j]? = some y → ∃ u, v.cells[j]? = some u ∧ u.oneCell' = true ∧ RV γ L y u := by
  have one : ∀ {x : AV} {v : Value}, RV γ L x v → v.oneCell' = true → x.cells = [x] → v.cells.size = x.cells.length ∧ ∀ (j : Nat) y, x.cells[j]? = some y → ∃ u, v.cells[j]? = some u ∧ u.oneCell' = true ∧ RV γ L y u := by
    intro x v h h1 hx
    rw [oneCell_cells h1, hx]
    refine ⟨rfl, fun j y hy => ?_⟩
    cases j with
    | zero => simp at hy; subst hy; exact ⟨v, rfl, h1, h⟩
    | succ j => simp at hy
  cases h with
  | int k n => exact one (.int k n) rfl rfl
  | bool b => exact one (.bool b) rfl rfl
  | str s => exact one (.str s) rfl rfl
  | lit v h => exact one (.lit v h) h rfl
  | sl own es A n c sz vals hn hc hsz h2 h1 h3 => exact one (.sl own es A n c sz vals hn hc hsz h2 h1 h3) rfl rfl
  | agg cs vs hn h1 h =>
    refine ⟨hn, fun j y hy => ?_⟩
    have hlt : j < vs.size := by
      have := (List.getElem?_eq_some_iff.1 hy).1
      simp only [AV.cells] at this
      omega
    refine ⟨vs[j], by simp [Value.cells, hlt], h1 _ (Array.getElem_mem _), ?_⟩
    have := h j y hy
    simpa [Array.getD, hlt] using this
  | tup cs vs hn h => exact absurd rfl (ht cs)
  | ref id p g n v h h1 => exact one (.ref id p g n v h h1) h1 rfl
  | ptr id off b c T cs hL h => exact one (.ptr id off b c T cs hL h) rfl rfl
  | eptr id p g i off v h h1 => exact one (.eptr id p g i off v h h1) h1 rfl
  | rptr x off b o vals h2 h1 h3 => exact one (.rptr x off b o vals h2 h1 h3) rfl rfl
  | fn f cs vs hn h => exact one (.fn f cs vs hn h) rfl rfl
  | map id b c kt vt es hL h => exact one (.map id b c kt vt es hL h) rfl rfl
  | yld l r ts h hts => exact one (.yld l r ts h hts) rfl rfl
  | junk v => exact absurd rfl hj

/-- Is a type's value a record? -/
def aggT (P : Program) (t : TypeId) : Bool :=
  match P.underlying t with
  | some (.struct _) | some (.array _ _) => true
  | _ => false

/-- 'n' cells from 'off' on, as a value of the type 't'. -/
def takeA (P : Program) (t : TypeId) (cs : List AV) (off : Nat) : Option AV :=
  if (P.underlying t).isSome ∧ (P.info? t).isSome then
    if aggT P t then (if off + P.cellsOf t ≤ cs.length then some (.agg ((cs.drop off).take (P.cellsOf t))) else none) else cs[off]?
  else none

theorem info_of {P : Program} {t : TypeId} (h : (P.info? t).isSome = true) : ∃ i, P.info? t = some i ∧ P.cellsOf t = i.size := by
  obtain ⟨i, hi⟩ := Option.isSome_iff_exists.1 h
  exact ⟨i, hi, by simp [Program.cellsOf, hi]⟩

theorem run_isAgg {P : Program} {t : TypeId} (w : World) (h : (P.underlying t).isSome = true) : (isAgg t).run P w = .ok (aggT P t) w := by
  obtain ⟨d, hd⟩ := Option.isSome_iff_exists.1 h
  unfold isAgg aggT
  simp only [Sem.run_bind, run_underlying hd, Result.andThen_ok, hd]
  cases d <;> rfl

theorem run_sizeOf {P : Program} {t : TypeId} (w : World) (h : (P.info? t).isSome = true) : (sizeOf t).run P w = .ok (P.cellsOf t) w := by
  obtain ⟨i, hi, hs⟩ := info_of h
  simp [sizeOf, typeInfo, hi, hs]

/-- A load of cells that are known. -/
theorem run_loadVar {P : Program} {γ : Nat → Gh} {L : List AObj} {w : World} {t : TypeId} {cs : List AV} {off : Nat} {x : AV} {b o : Nat}
    (hx : takeA P t cs off = some x)
    (hc : ∀ (j : Nat) y, cs[j]? = some y → ∃ u, w.cell? ⟨b, o + j, none⟩ = some u ∧ u.oneCell' = true ∧ RV γ L y u) :
    ∃ v, (loadVar t ⟨b, o + off, none⟩).run P w = .ok v w ∧ RV γ L x v := by
  unfold takeA at hx
  split at hx
  case isFalse => cases hx
  rename_i hT
  obtain ⟨hu, hi⟩ := hT
  simp only [loadVar, Sem.run_bind, run_isAgg w hu, Result.andThen_ok]
  split at hx
  · rename_i hag
    split at hx
    case isFalse => cases hx
    rename_i hle
    cases hx
    have hex : ∀ j, j < P.cellsOf t → ∃ u, w.cell? ⟨b, o + off + j, none⟩ = some u ∧ u.oneCell' = true ∧ RV γ L (cs.getD (off + j) .junk) u := by
      intro j hj
      have hlt : off + j < cs.length := by omega
      obtain ⟨u, h1, h2, h3⟩ := hc (off + j) cs[off + j] (by simp [hlt])
      exact ⟨u, by rw [Nat.add_assoc]; exact h1, h2, by simpa [List.getD_eq_getElem?_getD, hlt] using h3⟩
    let f : Nat → Value := fun j => if h : j < P.cellsOf t then (hex j h).choose else undef
    have hf : ∀ j (h : j < P.cellsOf t), f j = (hex j h).choose := fun j h => by simp [f, h]
    have hload := run_loadCells (P := P) (w := w) ⟨b, o + off, none⟩ (P.cellsOf t) f (fun j hj => by
      have hadd : (⟨b, o + off, none⟩ : Addr).add j = ⟨b, o + off + j, none⟩ := by unfold Addr.add; split <;> simp_all
      rw [hadd, hf j hj]
      exact (hex j hj).choose_spec.1)
    simp only [hag, if_true, Sem.run_bind, run_sizeOf w hi, Result.andThen_ok, hload, Sem.run_pure]
    refine ⟨_, rfl, .agg _ _ ?_ ?_ ?_⟩
    · simp [List.length_take, List.length_drop]; omega
    · intro v hv
      simp only [List.mem_toArray, List.mem_map, List.mem_range] at hv
      obtain ⟨j, hj, rfl⟩ := hv
      rw [hf j hj]
      exact (hex j hj).choose_spec.2.1
    · intro i y hy
      have hi' : i < P.cellsOf t := by
        have := (List.getElem?_eq_some_iff.1 hy).1
        simp [List.length_take] at this
        omega
      have hy' : cs.getD (off + i) .junk = y := by
        rw [List.getElem?_take] at hy
        simp only [hi', if_true, List.getElem?_drop] at hy
        simp [List.getD_eq_getElem?_getD, hy]
      have h3 : RV γ L (cs.getD (off + i) .junk) (f i) := by rw [hf i hi']; exact (hex i hi').choose_spec.2.2
      rw [hy'] at h3
      simp [Array.getD, hi']
      exact h3
  · rename_i hag
    obtain ⟨u, h1, h2, h3⟩ := hc off x hx
    simp only [hag, if_false, Bool.false_eq_true]
    exact ⟨u, by rw [run_load, h1], h3⟩

end Go.Proofs.Ytobdpkkmkbafbaa.K
/-
  A logic of values for Go's functions (part 3): the operations that only compute or read.
-/
namespace Go.Proofs.Ytobdpkkmkbafbaa.K
set_option linter.unusedVariables false
set_option linter.unusedSimpArgs false
open Go

/-- An element of a row of the call's own, as it is read: what it owns itself is told by its place. -/
def viewC (id : Nat) (q : Pth) (g : Nat) : AV → AV
  | .sl true es => .ref id q g es.length
  | x => x

def eview (id : Nat) (p : Pth) (g i : Nat) (e : AV) : List AV := e.cells.mapIdx fun j c => viewC id (p ++ [(i, j)]) g c

def loadA (P : Program) (s : St) (t : TypeId) : AV → Option AV
  | .ptr id off =>
    match s.L[id]? with
    | some (.box _ cs) => takeA P t cs off
    | _ => none
  | .rptr x off => takeA P t x.cells off
  | .eptr id p g i off =>
    match s.L[id]? with
    | some (.vec _ _ g' es) =>
      if g = g' then
        match sub es p with
        | some es' =>
          match es'[i]? with
          | some e => takeA P t (eview id p g i e) off
          | none => none
        | none => none
      else none
    | _ => none
  | _ => none

/-- What a box's block holds. -/
theorem Inv.boxCell {γ : Nat → Gh} {L : List AObj} {w : World} (h : Inv γ L w) {id b c : Nat} {T : TypeId} {cs : List AV}
    (hL : L[id]? = some (.box T cs)) (hb : γ b = .ow id [] c) :
    ∃ arr, w.heap[b]? = some (.cells arr T (0, 0)) ∧ arr.size = cs.length ∧
      ∀ (j : Nat) y, cs[j]? = some y → ∃ u, arr[j]? = some u ∧ w.cell? ⟨b, j, none⟩ = some u ∧ u.oneCell' = true ∧ RV γ L y u := by
  obtain ⟨o, ho, hrep⟩ := h.ow _ _ _ _ hb
  simp only [BlockRep, hL] at hrep
  obtain ⟨_, arr, rfl, hsz, hall⟩ := hrep
  refine ⟨arr, ho, hsz, fun j y hy => ?_⟩
  obtain ⟨v, h1, h2, h3⟩ := hall j y hy
  exact ⟨v, h1, by rw [cell_of_row w b j arr T (0, 0) ho]; exact h1, h2, h3⟩

/-- What a row's block holds. -/
theorem Inv.rowCell {γ : Nat → Gh} {L : List AObj} {w : World} (h : Inv γ L w) {id b c g : Nat} {p : Pth} {T : TypeId} {sz : Nat} {es es' : List AV}
    (hL : L[id]? = some (.vec T sz g es)) (hs : sub es p = some es') (hb : γ b = .ow id p c) :
    ∃ arr s T', w.heap[b]? = some (.cells arr T' (0, 0)) ∧ (p = [] → T' = T ∧ s = sz) ∧ arr.size = c * s ∧ es'.length ≤ c ∧ c ≤ maxLen ∧ RowRep γ L id p s es' arr := by
  obtain ⟨o, ho, hrep⟩ := h.ow _ _ _ _ hb
  simp only [BlockRep, hL] at hrep
  obtain ⟨es2, s, arr, T', h1, rfl, h2, h3, h4, h5, h6⟩ := hrep
  rw [hs] at h1
  cases h1
  exact ⟨arr, s, T', ho, h2, h3, h4, h5, h6⟩

theorem roCell_cell {γ : Nat → Gh} {L : List AObj} {w : World} (h : Inv γ L w) {b o k : Nat} {v : Value} (hr : roCell γ (some ⟨b, o, none⟩) k = some v) :
    w.cell? ⟨b, o + k, none⟩ = some v := by
  simp only [roCell] at hr
  split at hr
  · rename_i arr T fr hb
    rw [cell_of_row w b (o + k) arr T fr (h.ro _ _ hb)]
    exact hr
  · cases hr

theorem roCell_addr {γ : Nat → Gh} {A : Option Addr} {k : Nat} {v : Value} (hr : roCell γ A k = some v) : ∃ b o, A = some ⟨b, o, none⟩ := by
  unfold roCell at hr
  split at hr
  · exact ⟨_, _, rfl⟩
  · cases hr

/-- A cell of a row, as it is read. -/
theorem RV.viewC {γ : Nat → Gh} {L : List AObj} {id g : Nat} {p : Pth} {i j : Nat} {T : TypeId} {sz : Nat} {es es' : List AV} {e x : AV} {v : Value}
    (hL : L[id]? = some (.vec T sz g es)) (hs : sub es p = some es') (he : es'[i]? = some e) (hx : e.cells[j]? = some x)
    (h1 : v.oneCell' = true) (h : CV γ L id (p ++ [(i, j)]) x v) : RV γ L (viewC id (p ++ [(i, j)]) g x) v := by
  unfold CV at h
  split at h
  · rename_i xs
    refine .ref _ _ _ _ _ ?_ h1
    simp only [RefOk, hL]
    refine ⟨Nat.le_refl _, fun _ => ⟨xs, ?_, Nat.le_refl _, ?_⟩⟩
    · rw [sub_append p es es' _ hs]
      simp only [sub, he, hx]
    · rcases h with ⟨rfl, rfl, hb⟩ | ⟨b, c, rfl, hb⟩
      · exact .inl ⟨rfl, rfl, hb⟩
      · exact .inr ⟨b, c, rfl, hb⟩
  · rename_i hne
    unfold K.viewC
    split
    · rename_i xs; exact absurd rfl (hne xs)
    · exact h

theorem loadA_run {P : Program} {γ : Nat → Gh} {s : St} {w : World} {t : TypeId} {x y : AV} {v : Value} (hI : Inv γ s.L w) (hv : RV γ s.L x v) (h : loadA P s t x = some y) :
    ∃ u, (Instr.loadAt t v).run P w = .ok u w ∧ RV γ s.L y u := by
  unfold loadA at h
  split at h
  · rename_i id off
    split at h
    · rename_i T cs hL
      cases hv with
      | ptr id off b c T' cs' hL' hb =>
        rw [hL] at hL'; cases hL'
        obtain ⟨arr, _, _, hcell⟩ := hI.boxCell hL hb
        obtain ⟨u, hu, hr⟩ := run_loadVar (γ := γ) (L := s.L) (w := w) (b := b) (o := 0) h (fun j y hy => by
          obtain ⟨u, _, h2, h3, h4⟩ := hcell j y hy
          exact ⟨u, by simpa using h2, h3, h4⟩)
        refine ⟨u, ?_, hr⟩
        simpa [Instr.loadAt, Instr.sureAddr] using hu
    · cases h
  · rename_i z off
    cases hv with
    | rptr _ _ b o vals h2 h1 h3 =>
      obtain ⟨u, hu, hr⟩ := run_loadVar (γ := γ) (L := s.L) (w := w) (b := b) (o := o) h (fun j y hy =>
        ⟨vals j, roCell_cell hI (h2 j y hy), h1 j y hy, h3 j y hy⟩)
      refine ⟨u, ?_, hr⟩
      simpa [Instr.loadAt, Instr.sureAddr] using hu
  · rename_i id p g i off
    split at h
    · rename_i T sz g' es hL
      split at h
      · rename_i hg
        split at h
        · rename_i es' hs
          split at h
          · rename_i e he
            cases hv with
            | eptr _ _ _ _ _ _ hok h1 =>
              simp only [EptrOk, hL] at hok
              obtain ⟨es2, e2, b, c, sz2, hs2, he2, hsz2, hall, rfl, hb⟩ := hok.2 hg
              rw [hs] at hs2; cases hs2
              rw [he] at he2; cases he2
              obtain ⟨arr, s2, T', harr, _, hasz, _, _, hrow⟩ := hI.rowCell hL hs hb
              have hse : s2 = sz2 := by rw [← hrow.1 e (List.mem_of_getElem? he), hsz2]
              subst hse
              obtain ⟨u, hu, hr⟩ := run_loadVar (γ := γ) (L := s.L) (w := w) (b := b) (o := i * s2) h (fun j y hy => by
                simp only [eview, List.getElem?_mapIdx, Option.map_eq_some_iff] at hy
                obtain ⟨x, hx, rfl⟩ := hy
                obtain ⟨u, hu1, hu2, hu3⟩ := hrow.2 i e j x he hx
                refine ⟨u, ?_, hu2, ?_⟩
                · rw [cell_of_row w b _ arr T' (0, 0) harr]; exact hu1
                · subst hg; exact RV.viewC hL hs he hx hu2 hu3)
              refine ⟨u, ?_, hr⟩
              simpa [Instr.loadAt, Instr.sureAddr] using hu
          · cases h
        · cases h
      · cases h
    · cases h
  · cases h

/-! ### numbers, bools, strings -/
def intA (op : BinOp) (k : IntKind) (a b : Int) : Option AV :=
  match op with
  | .add => some (.int k (k.wrap (a + b)))
  | .sub => some (.int k (k.wrap (a - b)))
  | .mul => some (.int k (k.wrap (a * b)))
  | .quo => if b = 0 then none else some (.int k (k.wrap (a.tdiv b)))
  | .rem => if b = 0 then none else some (.int k (a.tmod b))
  | .and => some (.int k (Go.bits .and k a b))
  | .or => some (.int k (Go.bits .or k a b))
  | .xor => some (.int k (Go.bits .xor k a b))
  | .andNot => some (.int k (Go.bits .andNot k a b))
  | .eql => some (.bool (a == b))
  | .neq => some (.bool (a != b))
  | .lss => some (.bool (decide (a < b)))
  | .leq => some (.bool (decide (a ≤ b)))
  | .gtr => some (.bool (decide (b < a)))
  | .geq => some (.bool (decide (b ≤ a)))
  | _ => none

def strA (op : BinOp) (a b : ByteArray) : Option AV :=
  match op with
  | .add => if a.size + b.size ≤ 9223372036854775807 then some (.str (a ++ b)) else none
  | .eql => some (.bool (a.toList == b.toList))
  | .neq => some (.bool (!(a.toList == b.toList)))
  | .lss => some (.bool (Op.bytesLess a.toList b.toList))
  | .geq => some (.bool (!Op.bytesLess a.toList b.toList))
  | _ => none

def isBoolT (P : Program) (t : TypeId) : Bool :=
  match P.underlying t with
  | some .bool => true
  | _ => false
theorem isBoolT_eq {P : Program} {t : TypeId} (h : isBoolT P t = true) : P.underlying t = some .bool := by
  unfold isBoolT at h
  split at h
  · assumption
  · cases h

/-- Is a type a whole number's? -/
def isIntT (P : Program) (t : TypeId) : Bool :=
  match P.underlying t with
  | some (.int _) => (P.info? t).isSome
  | _ => false
/-- Fields that are whole numbers, one behind another. -/
def flatI (P : Program) : List Field → Nat → Bool
  | [], _ => true
  | f :: fs, o => f.offset == o && f.name != "_" && isIntT P f.type && flatI P fs (o + 1)
/-- A record of whole numbers: how many there are. -/
def structN (P : Program) (t : TypeId) : Option Nat :=
  match P.underlying t with
  | some (.struct fs) => if flatI P fs.toList 0 && !P.stoodInHeld t && !P.eqGuardType P.depth t then some fs.size else none
  | _ => none
def eqIs : List AV → List AV → Option Bool
  | [], [] => some true
  | .int k a :: xs, .int k' b :: ys =>
    if k = k' then (match eqIs xs ys with | some r => some (a == b && r) | none => none) else none
  | _, _ => none
theorem isIntT_spec {P : Program} {t : TypeId} (h : isIntT P t = true) : (∃ k, P.underlying t = some (.int k)) ∧ (P.info? t).isSome = true := by
  unfold isIntT at h
  split at h
  · rename_i k hk; exact ⟨⟨k, hk⟩, h⟩
  · cases h
theorem run_part {P : Program} {γ : Nat → Gh} {L : List AObj} {w : World} {t : TypeId} {cs : List AV} {vs : Array Value} {off : Nat} {x : AV}
    (hx : takeA P t cs off = some x) (hn : vs.size = cs.length) (h1 : ∀ v ∈ vs, v.oneCell' = true) (h : ∀ (i : Nat) y, cs[i]? = some y → RV γ L y (vs.getD i undef)) :
    ∃ v, (part t vs off).run P w = .ok v w ∧ RV γ L x v := by
  unfold takeA at hx
  split at hx
  case isFalse => cases hx
  rename_i hT
  obtain ⟨hu, hi⟩ := hT
  simp only [part, Sem.run_bind, run_isAgg w hu, Result.andThen_ok]
  split at hx
  · rename_i hag
    split at hx
    case isFalse => cases hx
    rename_i hle
    cases hx
    simp only [hag, if_true, Sem.run_bind, run_sizeOf w hi, Result.andThen_ok, Sem.run_pure]
    refine ⟨_, rfl, .agg _ _ ?_ ?_ ?_⟩
    · simp [List.length_take, List.length_drop]; omega
    · intro v hv
      obtain ⟨k, hk, rfl⟩ := Array.getElem_of_mem hv
      simp only [Array.getElem_extract]
      exact h1 _ (Array.getElem_mem _)
    · intro i y hy
      have hi' : i < P.cellsOf t := by
        have := (List.getElem?_eq_some_iff.1 hy).1
        simp [List.length_take] at this
        omega
      rw [List.getElem?_take] at hy
      simp only [hi', if_true, List.getElem?_drop] at hy
      have := h _ _ hy
      have hlt : off + i < vs.size := by omega
      have hsz : i < (vs.extract off (off + P.cellsOf t)).size := by simp; omega
      simp only [Array.getD, hlt, dif_pos, hsz] at this ⊢
      simpa using this
  · rename_i hag
    have hlt : off < vs.size := by have := (List.getElem?_eq_some_iff.1 hx).1; omega
    simp only [hag, if_false, Bool.false_eq_true]
    refine ⟨vs[off], by simp [hlt], ?_⟩
    have := h off x hx
    simpa [Array.getD, hlt] using this

theorem eqFields_ints {P : Program} {γ : Nat → Gh} {L : List AObj} {w : World} (d : Nat) {cs ds : List AV} {us vs : Array Value}
    (hn : us.size = cs.length) (h1 : ∀ v ∈ us, v.oneCell' = true) (h : ∀ (i : Nat) y, cs[i]? = some y → RV γ L y (us.getD i undef))
    (kn : vs.size = ds.length) (k1 : ∀ v ∈ vs, v.oneCell' = true) (k : ∀ (i : Nat) y, ds[i]? = some y → RV γ L y (vs.getD i undef)) :
    ∀ (fs : List Field) (o : Nat) (b : Bool), flatI P fs o = true → fs.length = (cs.drop o).length → eqIs (cs.drop o) (ds.drop o) = some b → (Op.eqFields (d + 1) us vs fs).run P w = .ok b w
  | [], o, b, _, hl, he => by
    have : cs.drop o = [] := List.eq_nil_of_length_eq_zero hl.symm
    rw [this] at he
    cases hd : ds.drop o with
    | nil => rw [hd] at he; simp [eqIs] at he; subst he; simp [Op.eqFields]
    | cons _ _ => rw [hd] at he; simp [eqIs] at he
  | f :: fs, o, b, hf, hl, he => by
    simp only [flatI, Bool.and_eq_true, beq_iff_eq, bne_iff_ne] at hf
    obtain ⟨⟨⟨ho, hnm⟩, hi⟩, hr⟩ := hf
    obtain ⟨⟨k0, hu⟩, hin⟩ := isIntT_spec hi
    cases hc : cs.drop o with
    | nil => rw [hc] at hl; simp at hl
    | cons x xs =>
      cases hd : ds.drop o with
      | nil => rw [hc, hd] at he; cases x <;> simp [eqIs] at he
      | cons y ys =>
        rw [hc, hd] at he
        have ex : cs[o]? = some x := by have := congrArg (·[0]?) hc; simpa using this
        have ey : ds[o]? = some y := by have := congrArg (·[0]?) hd; simpa using this
        have dx : cs.drop (o + 1) = xs := by rw [← List.drop_drop, hc]; rfl
        have dy : ds.drop (o + 1) = ys := by rw [← List.drop_drop, hd]; rfl
        cases x <;> cases y <;> first | (simp [eqIs] at he; done) | skip
        rename_i ka a kb b'
        simp only [eqIs] at he
        split at he
        case isFalse => cases he
        rename_i hk
        subst hk
        have hag : aggT P f.type = false := by simp [aggT, hu]
        have tk : ∀ {l : List AV} {z : AV}, l[o]? = some z → takeA P f.type l f.offset = some z := by
          intro l z hz
          unfold takeA
          rw [if_pos ⟨by simp [hu], hin⟩, if_neg (by simp [hag]), ho]
          exact hz
        obtain ⟨u, pu, ru⟩ := run_part (P := P) (w := w) (tk ex) hn h1 h
        obtain ⟨v, pv, rv⟩ := run_part (P := P) (w := w) (tk ey) kn k1 k
        cases ru; cases rv
        cases hq : eqIs xs ys with
        | none => simp [hq] at he
        | some r =>
          simp only [hq, Option.some.injEq] at he
          have ih := eqFields_ints (w := w) d hn h1 h kn k1 k fs (o + 1) r hr (by rw [dx]; rw [hc] at hl; simpa using hl) (by rw [dx, dy]; exact hq)
          simp only [Op.eqFields, hnm, ne_eq, not_false_eq_true, if_true, Sem.run_bind, pu, pv, Result.andThen_ok, run_equalIn_int w d f.type ka k0 a b' hu]
          cases hab : (a == b')
          · simp [hab] at he ⊢; exact he
          · simp [hab] at he ⊢; rw [ih, he]

def binA (P : Program) (op : BinOp) (t : TypeId) (x y : AV) : Option AV :=
  match x, y with
  | .int k a, .int k' b =>
    match op with
    | .shl => if 0 ≤ b then some (.int k (k.wrap (a * 2 ^ min b.toNat k.bits))) else none
    | .shr => if 0 ≤ b then some (.int k (a.fdiv (2 ^ min b.toNat k.bits))) else none
    | op => if k = k' then intA op k a b else none
  | .bool a, .bool b =>
    if isBoolT P t then
      match op with
      | .eql => some (.bool (a == b))
      | .neq => some (.bool (a != b))
      | _ => none
    else none
  | .str a, .str b => strA op a b
  | .agg xs, .agg ys =>
    match structN P t with
    | some n =>
      if xs.length = n then
        match eqIs xs ys with
        | some b => (match op with | .eql => some (.bool b) | .neq => some (.bool (!b)) | _ => none)
        | none => none
      else none
    | none => none
  | _, _ => none

theorem eqIs_len : ∀ {xs ys : List AV} {b : Bool}, eqIs xs ys = some b → xs.length = ys.length
  | [], [], _, _ => rfl
  | [], _ :: _, _, h => by simp [eqIs] at h
  | x :: xs, [], _, h => by cases x <;> simp [eqIs] at h
  | x :: xs, y :: ys, b, h => by
    cases x <;> cases y <;> first | (simp [eqIs] at h; done) | skip
    simp only [eqIs] at h
    split at h
    · split at h
      · rename_i r hr; simp [eqIs_len hr]
      · cases h
    · cases h
theorem binA_run {P : Program} {γ : Nat → Gh} {L : List AObj} {w : World} {op : BinOp} {t : TypeId} {ox oy : Operand} {x y z : AV} {u v : Value}
    (hx : RV γ L x u) (hy : RV γ L y v) (h : binA P op t x y = some z) :
    ∃ r, (do eqGuard op t ox oy u v; binOp op t u v : Sem Value).run P w = .ok r w ∧ RV γ L z r := by
  unfold binA at h
  split at h
  · rename_i k a k' b
    cases hx; cases hy
    have hg : (eqGuard op t ox oy (.int k a) (.int k' b)).run P w = .ok () w := by
      unfold eqGuard
      split <;> simp
    simp only [Sem.run_bind, hg, Result.andThen_ok]
    split at h
    · split at h
      · rename_i hb
        cases h
        refine ⟨_, ?_, .int _ _⟩
        simp [binOp, Op.shift, Int.not_lt.2 hb]
      · cases h
    · split at h
      · rename_i hb
        cases h
        refine ⟨_, ?_, .int _ _⟩
        simp [binOp, Op.shift, Int.not_lt.2 hb]
      · cases h
    · rename_i hs1 hs2
      split at h
      · rename_i hk
        subst hk
        unfold intA at h
        split at h <;> first
          | (cases h; refine ⟨_, ?_, .int _ _⟩; simp [binOp, Op.intArith]; done)
          | (cases h; refine ⟨_, ?_, .bool _⟩; simp [binOp, Op.intCmp]; done)
          | (cases h; refine ⟨_, ?_, .int _ _⟩; simp [binOp, intBits_and, intBits_or, intBits_xor, intBits_andNot]; done)
          | (split at h
             · cases h
             · rename_i hb; cases h; refine ⟨_, ?_, .int _ _⟩; simp [binOp, Op.intDiv, hb]; done)
          | cases h
      · cases h
  · rename_i a b
    cases hx; cases hy
    split at h
    · rename_i ht
      have hg : (eqGuard op t ox oy (.bool a) (.bool b)).run P w = .ok () w := by
        unfold eqGuard
        split <;> simp
      simp only [Sem.run_bind, hg, Result.andThen_ok]
      split at h
      · cases h
        refine ⟨_, ?_, .bool _⟩
        simp [binOp, run_equal_bool w t a b (isBoolT_eq ht)]
      · cases h
        refine ⟨_, ?_, .bool _⟩
        simp [binOp, run_equal_bool w t a b (isBoolT_eq ht)]
        cases a <;> cases b <;> rfl
      · cases h
    · cases h
  · rename_i a b
    cases hx; cases hy
    have hg : (eqGuard op t ox oy (.string a) (.string b)).run P w = .ok () w := by
      unfold eqGuard
      split <;> simp
    simp only [Sem.run_bind, hg, Result.andThen_ok]
    unfold strA at h
    split at h
    · split at h
      · rename_i hsz
        cases h
        refine ⟨_, ?_, .str _⟩
        have : ¬ (((a.size + b.size : Nat) : Int) > IntKind.i64.max) := by simp [IntKind.max, IntKind.signed, IntKind.bits]; omega
        simp only [binOp, Op.stringOp, this, if_false]; rfl
      · cases h
    · cases h; exact ⟨_, by simp [binOp, Op.stringOp], .bool _⟩
    · cases h; exact ⟨_, by simp [binOp, Op.stringOp], .bool _⟩
    · cases h; exact ⟨_, by simp [binOp, Op.stringOp], .bool _⟩
    · cases h; exact ⟨_, by simp [binOp, Op.stringOp], .bool _⟩
    · cases h
  · rename_i xs ys
    split at h
    case h_2 => cases h
    rename_i n hsn
    split at h
    case isFalse => cases h
    rename_i hxl
    split at h
    case h_2 => cases h
    rename_i b hq
    have hyl : xs.length = ys.length := eqIs_len hq
    cases hx with
    | agg _ us hn h1 hr =>
    cases hy with
    | agg _ vs kn k1 kr =>
    unfold structN at hsn
    split at hsn
    case h_2 => cases hsn
    rename_i fs hu
    split at hsn
    case isFalse => cases hsn
    rename_i hc
    simp only [Bool.and_eq_true, Bool.not_eq_true'] at hc
    cases hsn
    have hfo : P.fieldsOf t = fs := by simp [Program.fieldsOf, hu]
    have e := eqFields_ints (P := P) (w := w) 9998 hn h1 hr kn k1 kr fs.toList 0 b hc.1.1 (by simpa using hxl.symm) (by simpa using hq)
    have e2 : (Op.equalIn 10000 t (.agg us) (.agg vs)).run P w = .ok b w := by
      rw [run_equalIn_struct w 9999 t us vs (by rw [hfo]; exact hu) hc.1.2, hfo]; exact e
    simp only [Sem.run_bind, run_eqGuard_agg w op t ox oy us vs hc.2, Result.andThen_ok]
    split at h
    · cases h; exact ⟨_, by rw [run_eql_struct, e2]; rfl, .bool _⟩
    · cases h; exact ⟨_, by rw [run_neq_struct, e2]; rfl, .bool _⟩
    · cases h
  · cases h

end Go.Proofs.Ytobdpkkmkbafbaa.K
/-
  A logic of values for Go's functions (part 4): the operations that only compute or read, all together.
-/
namespace Go.Proofs.Ytobdpkkmkbafbaa.K
set_option linter.unusedVariables false
set_option linter.unusedSimpArgs false
open Go

def unA (op : UnOp) : AV → Option AV
  | .int k n =>
    match op with
    | .neg => some (.int k (k.wrap (0 - n)))
    | .xor => some (.int k (Go.bits .xor k (if k.signed then -1 else k.max) n))
    | _ => none
  | .bool b =>
    match op with
    | .not => some (.bool (!b))
    | _ => none
  | _ => none

theorem unA_run {P : Program} {γ : Nat → Gh} {L : List AObj} {w : World} {op : UnOp} {x z : AV} {u : Value} (hx : RV γ L x u) (h : unA op x = some z) :
    ∃ r, (Op.unary op u).run P w = .ok r w ∧ RV γ L z r := by
  unfold unA at h
  split at h
  · cases hx
    split at h
    · cases h; exact ⟨_, by simp [Op.unary, Op.intArith], .int _ _⟩
    · cases h; exact ⟨_, by simp [Op.unary, intBits_xor], .int _ _⟩
    · cases h
  · cases hx
    split at h
    · cases h; exact ⟨_, by simp [Op.unary], .bool _⟩
    · cases h
  · cases h

/-- Conversions between kinds of whole numbers, and of a type to itself. -/
def convA (P : Program) (src dst : TypeId) : AV → Option AV
  | .int _ n =>
    match P.underlying src, P.underlying dst with
    | some _, some (.int k') => some (.int k' (k'.wrap n))
    | _, _ => none
  | .str s =>
    match P.underlying src, P.underlying dst with
    | some .string, some .string => some (.str s)
    | _, _ => none
  | _ => none

theorem convA_run {P : Program} {γ : Nat → Gh} {L : List AObj} {w : World} {src dst : TypeId} {x z : AV} {u : Value} (hx : RV γ L x u) (h : convA P src dst x = some z) :
    ∃ r, (convert src dst u).run P w = .ok r w ∧ RV γ L z r := by
  unfold convA at h
  split at h
  · cases hx
    split at h
    · rename_i d k' h1 h2
      cases h
      refine ⟨_, ?_, .int _ _⟩
      simp only [convert, Sem.run_bind, run_underlying h1, run_underlying h2, Result.andThen_ok]
      cases d <;> simp [Conv.intToInt]
    · cases h
  · cases hx
    split at h
    · rename_i h1 h2
      cases h
      refine ⟨_, ?_, .str _⟩
      simp only [convert, Sem.run_bind, run_underlying h1, run_underlying h2, Result.andThen_ok]
      simp
    · cases h
  · cases h

/-- A field's place and type. -/
def fieldOf (P : Program) (t : TypeId) (f : Nat) : Option (Nat × TypeId) :=
  match P.underlying t with
  | some (.struct fs) => (fs[f]?).map fun f => (f.offset, f.type)
  | _ => none

def fieldAddrA (P : Program) (t : TypeId) (f : Nat) (x : AV) : Option AV :=
  match fieldOf P t f with
  | some (o, ft) =>
    if (P.info? ft).isSome ∧ P.cellsOf ft ≠ 0 then
      match x with
      | .ptr id off => some (.ptr id (off + o))
      | .rptr c off => some (.rptr c (off + o))
      | .eptr id p g i off => some (.eptr id p g i (off + o))
      | _ => none
    else none
  | none => none

theorem EptrOk.shift {γ : Nat → Gh} {L : List AObj} {id : Nat} {p : Pth} {g i off : Nat} {b o k : Nat}
    (h : EptrOk γ L id p g i off (.pointer (some ⟨b, o, none⟩))) : EptrOk γ L id p g i (off + k) (.pointer (some ⟨b, o + k, none⟩)) := by
  unfold EptrOk at *
  split at h
  · rename_i hL
    refine ⟨h.1, fun e => ?_⟩
    obtain ⟨es', x, b', c, s, h1, h2, h3, h4, h5, h6⟩ := h.2 e
    simp only [Value.pointer.injEq, Option.some.injEq, Addr.mk.injEq] at h5
    obtain ⟨rfl, rfl, _⟩ := h5
    exact ⟨es', x, b, c, s, h1, h2, h3, h4, by rw [Nat.add_assoc], h6⟩
  · trivial
  · exact h

/-- An element's address, if it may still be used. -/
def eptrNow (L : List AObj) (id g : Nat) : Bool :=
  match L[id]? with
  | some (.vec _ _ g' _) => g == g'
  | _ => false

theorem EptrOk.form {γ : Nat → Gh} {L : List AObj} {id : Nat} {p : Pth} {g i off : Nat} {v : Value} (hn : eptrNow L id g = true) (h : EptrOk γ L id p g i off v) :
    ∃ b o, v = .pointer (some ⟨b, o, none⟩) := by
  unfold eptrNow at hn
  unfold EptrOk at h
  split at hn
  · rename_i hL
    simp only [hL] at h
    obtain ⟨_, _, b, _, _, _, _, _, _, rfl, _⟩ := h.2 (by simpa using hn)
    exact ⟨_, _, rfl⟩
  · cases hn

theorem run_fieldAt {P : Program} {t : TypeId} {f o : Nat} {ft : TypeId} (w : World) (h : fieldOf P t f = some (o, ft)) (hi : (P.info? ft).isSome = true) (hz : P.cellsOf ft ≠ 0) (b off : Nat) :
    (Instr.fieldAt t (.pointer (some ⟨b, off, none⟩)) f).run P w = .ok (.pointer (some ⟨b, off + o, none⟩)) w := by
  unfold fieldOf at h
  split at h
  · rename_i fs hfs
    obtain ⟨fd, hfd, he⟩ := Option.map_eq_some_iff.1 h
    cases he
    have hadd : (⟨b, off, none⟩ : Addr).add fd.offset = ⟨b, off + fd.offset, none⟩ := by unfold Addr.add; split <;> simp_all
    simp [Instr.fieldAt, run_underlying hfs, hfd, Instr.sureAddr, fieldPlace, run_sizeOf w hi, hz, hadd]
  · cases h

def fieldA (P : Program) (t : TypeId) (f : Nat) : AV → Option AV
  | .agg cs =>
    match fieldOf P t f with
    | some (o, ft) => takeA P ft cs o
    | none => none
  | _ => none

def asI : AV → Option Int
  | .int _ i => some i
  | _ => none

/-- An index into a slice. -/
def indexAddrA (P : Program) (t : TypeId) (x : AV) (i : AV) : Option AV :=
  match P.underlying t, i with
  | some (.slice e), .int _ i =>
    if (P.info? e).isSome then
      match x with
      | .sl _ es =>
        if 0 ≤ i then
          match es[i.toNat]? with
          | some y => if y.cells.length = P.cellsOf e ∧ P.cellsOf e ≠ 0 then some (.rptr y 0) else none
          | none => none
        else none
      | _ => none
    else none
  | _, _ => none

theorem toNat_lt_of {i : Int} {n : Nat} (h0 : 0 ≤ i) (h : i.toNat < n) : i < (n : Int) := by omega

theorem run_indexAt {P : Program} {t e : TypeId} (w : World) (ht : P.underlying t = some (.slice e)) (hi : (P.info? e).isSome = true) (k : IntKind) (i : Int) (b o n c : Nat)
    (h0 : 0 ≤ i) (h1 : i < (n : Int)) :
    (Instr.indexAt t (.slice (some ⟨b, o, none⟩) n c) (.int k i)).run P w = .ok (.pointer (some ⟨b, o + i.toNat * P.cellsOf e, none⟩)) w := by
  have hadd : (⟨b, o, none⟩ : Addr).add (i.toNat * P.cellsOf e) = ⟨b, o + i.toNat * P.cellsOf e, none⟩ := by unfold Addr.add; split <;> simp_all
  simp [Instr.indexAt, asIntOf, run_underlying ht, h0, h1, run_sizeOf w hi, hadd]

theorem indexAddrA_run {P : Program} {γ : Nat → Gh} {L : List AObj} {w : World} {t : TypeId} {x i z : AV} {u v : Value} (hx : RV γ L x u) (hi : RV γ L i v)
    (h : indexAddrA P t x i = some z) : ∃ r, (Instr.indexAt t u v).run P w = .ok r w ∧ RV γ L z r := by
  unfold indexAddrA at h
  split at h
  case h_2 => cases h
  rename_i _ _ e k i ht
  split at h
  case isFalse => cases h
  rename_i hsz
  cases hi
  split at h
  case h_2 => cases h
  rename_i own es
  split at h
  case isFalse => cases h
  rename_i h0
  split at h
  case h_2 => cases h
  rename_i y hy
  split at h
  case isFalse => cases h
  rename_i hw
  obtain ⟨hw, hnz⟩ := hw
  cases h
  cases hx with
  | sl own es A n c sz vals hn hc hszs h2 h1 h3 =>
    have hlt : i.toNat < es.length := (List.getElem?_eq_some_iff.1 hy).1
    have hse : sz = P.cellsOf e := by rw [← hszs y (List.mem_of_getElem? hy), hw]
    subst hse
    · have hlt2 : 0 < y.cells.length := by omega
      obtain ⟨b, o, rfl⟩ := roCell_addr (h2 i.toNat y 0 y.cells[0] hy (by simp [hlt2]))
      refine ⟨_, run_indexAt w ht hsz k i b o n c h0 (by omega), ?_⟩
      have hcell : ∀ (j : Nat) z, y.cells[j]? = some z → roCell γ (some ⟨b, o + i.toNat * P.cellsOf e, none⟩) j = some (vals i.toNat j) := by
        intro j z hz
        have := h2 i.toNat y j z hy hz
        unfold roCell at this ⊢
        dsimp only at this ⊢
        rw [Nat.add_assoc]
        exact this
      exact .rptr y 0 b (o + i.toNat * P.cellsOf e) (vals i.toNat) hcell (fun j z hz => h1 i.toNat y j z hy hz) (fun j z hz => h3 i.toNat y j z hy hz)

/-- An index into a row of the call's own. -/
def indexRefA (P : Program) (L : List AObj) (t : TypeId) (x : AV) (i : AV) : Option AV :=
  match P.underlying t, i with
  | some (.slice e), .int _ i =>
    if (P.info? e).isSome then
      match x with
      | .ref id p g n =>
        match L[id]? with
        | some (.vec _ _ g' es) =>
          if g = g' ∧ 0 ≤ i ∧ i < n then
            match sub es p with
            | some es' =>
              match es'[i.toNat]? with
              | some y => if y.cells.length = P.cellsOf e then some (.eptr id p g i.toNat 0) else none
              | none => none
            | none => none
          else none
        | _ => none
      | _ => none
    else none
  | _, _ => none

theorem indexRefA_run {P : Program} {γ : Nat → Gh} {L : List AObj} {w : World} {t : TypeId} {x i z : AV} {u v : Value} (hI : Inv γ L w) (hx : RV γ L x u) (hi : RV γ L i v)
    (h : indexRefA P L t x i = some z) : ∃ r, (Instr.indexAt t u v).run P w = .ok r w ∧ RV γ L z r := by
  unfold indexRefA at h
  split at h
  case h_2 => cases h
  rename_i _ _ e k i ht
  split at h
  case isFalse => cases h
  rename_i hsz
  cases hi
  split at h
  case h_2 => cases h
  rename_i id p g n
  split at h
  case h_2 => cases h
  rename_i T sz g' es hL
  split at h
  case isFalse => cases h
  rename_i hg
  obtain ⟨rfl, h0, h1⟩ := hg
  split at h
  case h_2 => cases h
  rename_i es' hs
  split at h
  case h_2 => cases h
  rename_i y hy
  split at h
  case isFalse => cases h
  rename_i hw
  cases h
  cases hx with
  | ref _ _ _ _ _ hok ho =>
    rw [RefOk, hL] at hok
    obtain ⟨es2, hs2, hn, hv⟩ := hok.2 rfl
    rw [hs] at hs2; cases hs2
    rcases hv with ⟨rfl, rfl, _⟩ | ⟨b, c, rfl, hb⟩
    · simp at hy
    · obtain ⟨arr, s, T', harr, _, hasz, _, _, hrow⟩ := hI.rowCell hL hs hb
      have hse : s = P.cellsOf e := by rw [← hrow.1 y (List.mem_of_getElem? hy), hw]
      subst hse
      refine ⟨_, run_indexAt w ht hsz k i b 0 n c h0 h1, .eptr _ _ _ _ _ _ ?_ rfl⟩
      simp only [EptrOk, hL]
      exact ⟨Nat.le_refl _, fun _ => ⟨es', y, b, c, _, hs, hy, hw, hrow.1, by simp, hb⟩⟩

/-- A byte of a string; a part of an array. -/
def indexA (P : Program) (t : TypeId) (x i : AV) : Option AV :=
  match x, i with
  | .str s, .int _ i =>
    match P.underlying t with
    | some .string => if 0 ≤ i then (s[i.toNat]?).map fun b => .int .u8 b.toNat else none
    | _ => none
  | .agg cs, .int _ i =>
    match P.underlying t with
    | some (.array len e) => if 0 ≤ i ∧ i < len ∧ (P.info? e).isSome then takeA P e cs (i.toNat * P.cellsOf e) else none
    | _ => none
  | _, _ => none

theorem indexA_run {P : Program} {γ : Nat → Gh} {L : List AObj} {w : World} {t : TypeId} {x i z : AV} {u v : Value} (hx : RV γ L x u) (hi : RV γ L i v)
    (h : indexA P t x i = some z) : ∃ r, (Instr.index t u v).run P w = .ok r w ∧ RV γ L z r := by
  unfold indexA at h
  split at h
  · rename_i s k i
    cases hx; cases hi
    split at h
    case h_2 => cases h
    rename_i ht
    split at h
    case isFalse => cases h
    rename_i h0
    obtain ⟨b, hb, rfl⟩ := Option.map_eq_some_iff.1 h
    refine ⟨_, ?_, .int _ _⟩
    simp [Instr.index, asIntOf, run_underlying ht, h0, hb]
  · rename_i cs k i
    cases hi
    split at h
    case h_2 => cases h
    rename_i len e ht
    split at h
    case isFalse => cases h
    rename_i h0
    obtain ⟨h0, h1, h2⟩ := h0
    cases hx with
    | agg _ vs hn ho hall =>
      obtain ⟨r, hr, hrv⟩ := run_part (w := w) h hn ho hall
      refine ⟨r, ?_, hrv⟩
      simp [Instr.index, asIntOf, run_underlying ht, h0, h1, run_sizeOf w h2, hr]
  · cases h

def extractA (i : Nat) : AV → Option AV
  | .tup vs => vs[i]?
  | _ => none

theorem extractA_run {P : Program} {γ : Nat → Gh} {L : List AObj} {w : World} {x z : AV} {i : Nat} {u : Value} (hx : RV γ L x u) (h : extractA i x = some z) :
    ∃ r, (Instr.extract u i).run P w = .ok r w ∧ RV γ L z r := by
  unfold extractA at h
  split at h
  · cases hx with
    | tup cs vs hn hall =>
      have hlt : i < vs.size := by have := (List.getElem?_eq_some_iff.1 h).1; omega
      refine ⟨vs[i], by simp [Instr.extract, hlt], ?_⟩
      have := hall i z h
      simpa [Array.getD, hlt] using this
  · cases h

def boundA (n : Nat) : Option AV → Option Int
  | none => some n
  | some (.int _ i) => some i
  | _ => none

/-- A cut of a slice that is only read, of a row of the call's own (from its begin), or of a string. -/
def sliceA (P : Program) (L : List AObj) (t : TypeId) (x : AV) (lo hi : Option AV) : Option AV :=
  match x with
  | .str s =>
    match P.underlying t, boundA 0 lo, boundA s.size hi with
    | some .string, some l, some h => if 0 ≤ l ∧ l ≤ h ∧ h ≤ (s.size : Int) then some (.str (s.extract l.toNat h.toNat)) else none
    | _, _, _ => none
  | .sl _ es =>
    match P.underlying t, boundA 0 lo, boundA es.length hi with
    | some (.slice e), some l, some h =>
      if 0 ≤ l ∧ l ≤ h ∧ h ≤ (es.length : Int) ∧ (P.info? e).isSome ∧ (∀ y ∈ es, y.cells.length = P.cellsOf e) then some (.sl false ((es.take h.toNat).drop l.toNat)) else none
    | _, _, _ => none
  | .ref id p g n =>
    match P.underlying t, lo, boundA n hi with
    | some (.slice e), none, some h => if 0 ≤ h ∧ h ≤ (n : Int) ∧ (P.info? e).isSome ∧ eptrNow L id g then some (.ref id p g h.toNat) else none
    | _, _, _ => none
  | _ => none

theorem boundA_run {P : Program} {γ : Nat → Gh} {L : List AObj} {w : World} {n y : Nat} {code : BoundsCode} {lo : AV} {l : Int} {v : Value} (hv : RV γ L lo v) (h : boundA n (some lo) = some l) (h0 : 0 ≤ l) (h1 : l ≤ (y : Int)) :
    (Instr.sliceBound v y code).run P w = .ok l.toNat w := by
  cases lo <;> simp only [boundA] at h <;> try (cases h; done)
  cases h
  cases hv
  simp [Instr.sliceBound, asIntOf, h0, h1]

/-- The bounds of a cut. -/
theorem run_sliceBounds {P : Program} {γ : Nat → Gh} {L : List AObj} {w : World} {isS : Bool} {len cap : Nat} {lo hi : Option AV} {ulo uhi : Option Value} {l h : Int}
    (hlo : ∀ x, lo = some x → ∃ u, ulo = some u ∧ RV γ L x u) (hlo' : lo = none → ulo = none) (hhi : ∀ x, hi = some x → ∃ u, uhi = some u ∧ RV γ L x u) (hhi' : hi = none → uhi = none)
    (hl : boundA 0 lo = some l) (hh : boundA len hi = some h) (h0 : 0 ≤ l) (h1 : l ≤ h) (h2 : h ≤ (len : Int)) (hc : len ≤ cap) :
    (Instr.sliceBounds isS len cap ulo uhi none).run P w = .ok (l.toNat, h.toNat, cap) w := by
  unfold Instr.sliceBounds
  cases hi with
  | none =>
    rw [hhi' rfl]
    simp only [boundA, Option.some.injEq] at hh
    subst hh
    cases lo with
    | none =>
      rw [hlo' rfl]
      simp only [boundA, Option.some.injEq] at hl
      subst hl
      simp
    | some x =>
      obtain ⟨u, rfl, hu⟩ := hlo x rfl
      have := boundA_run (P := P) (w := w) (y := len) (code := .sliceB) hu hl h0 h1
      simp [this]
  | some y =>
    obtain ⟨u, rfl, hu⟩ := hhi y rfl
    have e1 := boundA_run (P := P) (w := w) (y := cap) (code := if isS then .sliceAcap else .sliceAlen) hu hh (by omega) (by omega)
    cases lo with
    | none =>
      rw [hlo' rfl]
      simp only [boundA, Option.some.injEq] at hl
      subst hl
      simp [e1]
    | some x =>
      obtain ⟨u', rfl, hu'⟩ := hlo x rfl
      have e2 := boundA_run (P := P) (w := w) (y := h.toNat) (code := .sliceB) hu' hl h0 (by omega)
      simp [e1, e2]

theorem sliceA_run {P : Program} {γ : Nat → Gh} {L : List AObj} {w : World} {t : TypeId} {x z : AV} {v : Value} {lo hi : Option AV} {ulo uhi : Option Value} (hI : Inv γ L w)
    (hx : RV γ L x v) (hlo : ∀ x, lo = some x → ∃ u, ulo = some u ∧ RV γ L x u) (hlo' : lo = none → ulo = none) (hhi : ∀ x, hi = some x → ∃ u, uhi = some u ∧ RV γ L x u) (hhi' : hi = none → uhi = none)
    (h : sliceA P L t x lo hi = some z) : ∃ r, (Instr.sliceAt t v ulo uhi none).run P w = .ok r w ∧ RV γ L z r := by
  unfold sliceA at h
  split at h
  · rename_i s
    split at h
    case h_2 => cases h
    rename_i _ _ _ l h' ht hl hh
    split at h
    case isFalse => cases h
    rename_i hb
    cases h
    cases hx
    refine ⟨_, ?_, .str _⟩
    simp [Instr.sliceAt, Instr.slice, run_underlying ht, run_sliceBounds (P := P) (w := w) (isS := false) hlo hlo' hhi hhi' hl hh hb.1 hb.2.1 hb.2.2 (Nat.le_refl _)]
  · rename_i own es
    split at h
    case h_2 => cases h
    rename_i _ _ _ e l h' ht hl hh
    split at h
    case isFalse => cases h
    rename_i hb
    obtain ⟨b0, b1, b2, b3, b4⟩ := hb
    cases h
    cases hx with
    | sl _ _ A n c sz vals hn hc hszs h2 h1 h3 =>
      subst hn
      refine ⟨_, by simp [Instr.sliceAt, Instr.slice, run_underlying ht, run_sliceBounds (P := P) (w := w) (isS := true) hlo hlo' hhi hhi' hl hh b0 b1 b2 hc, run_sizeOf w b3]; rfl, ?_⟩
      have hget : ∀ (i : Nat) y, ((es.take h'.toNat).drop l.toNat)[i]? = some y → es[l.toNat + i]? = some y := by
        intro i y hy
        rw [List.getElem?_drop, List.getElem?_take] at hy
        split at hy
        · exact hy
        · cases hy
      refine .sl false _ _ _ _ sz (fun i j => vals (l.toNat + i) j) ?_ ?_ ?_ ?_ ?_ ?_
      · simp [List.length_drop, List.length_take]; omega
      · omega
      · intro y hy
        exact hszs y (List.mem_of_mem_take (List.mem_of_mem_drop hy))
      · intro i y j z hy hz
        have hy' := hget i y hy
        have hr := h2 (l.toNat + i) y j z hy' hz
        have hse : sz = P.cellsOf e := by rw [← hszs y (List.mem_of_getElem? hy'), b4 y (List.mem_of_getElem? hy')]
        obtain ⟨b, o, rfl⟩ := roCell_addr hr
        have hlt := (List.getElem?_eq_some_iff.1 hy').1
        have hne : ¬ (c = l.toNat) := by omega
        have hadd : (⟨b, o, none⟩ : Addr).add (l.toNat * P.cellsOf e) = ⟨b, o + l.toNat * P.cellsOf e, none⟩ := by unfold Addr.add; split <;> simp_all
        simp only [hne, if_false, Option.map_some, hadd]
        unfold roCell at hr ⊢
        dsimp only at hr ⊢
        have e1 : o + l.toNat * P.cellsOf e + (i * sz + j) = o + ((l.toNat + i) * sz + j) := by rw [hse, Nat.add_mul]; omega
        rw [e1]; exact hr
      · intro i y j z hy hz; exact h1 _ y j z (hget i y hy) hz
      · intro i y j z hy hz; exact h3 _ y j z (hget i y hy) hz
  · rename_i id p g n
    split at h
    case h_2 => cases h
    rename_i _ _ _ e h' ht hh
    split at h
    case isFalse => cases h
    rename_i hb
    obtain ⟨b0, b1, b2, b3⟩ := hb
    cases h
    cases hx with
    | ref _ _ _ _ _ hok ho =>
      unfold eptrNow at b3
      split at b3
      case h_2 => cases b3
      rename_i T sz g' es hL
      have hg : g = g' := by simpa using b3
      subst hg
      rw [RefOk, hL] at hok
      obtain ⟨es2, hs2, hn, hv⟩ := hok.2 rfl
      have hok' : ∀ r, ((r = .slice none 0 0 ∧ es2 = [] ∧ ∀ b c, γ b ≠ .ow id p c) ∨ ∃ b c, r = .slice (some ⟨b, 0, none⟩) h'.toNat c ∧ γ b = .ow id p c) → RV γ L (.ref id p g h'.toNat) r := by
        intro r hr
        refine .ref _ _ _ _ _ ?_ ?_
        · rw [RefOk, hL]
          exact ⟨Nat.le_refl _, fun _ => ⟨es2, hs2, by omega, hr⟩⟩
        · rcases hr with ⟨rfl, _⟩ | ⟨b, c, rfl, _⟩
          · rfl
          · rfl
      rcases hv with ⟨rfl, rfl, hb⟩ | ⟨b, c, rfl, hb⟩
      · have hn0 : n = 0 := by simpa using hn
        subst hn0
        have hh0 : h' = 0 := by omega
        subst hh0
        have hbd := run_sliceBounds (P := P) (γ := γ) (L := L) (w := w) (isS := true) (len := 0) (cap := 0) (lo := none) (hi := hi) (ulo := ulo) (uhi := uhi) hlo hlo' hhi hhi' (l := 0) (h := 0) rfl hh (by omega) (by omega) (by omega) (Nat.le_refl _)
        exact ⟨_, by simp [Instr.sliceAt, Instr.slice, run_underlying ht, hbd, run_sizeOf w b2], hok' _ (.inl ⟨rfl, rfl, hb⟩)⟩
      · obtain ⟨arr, s, T', harr, _, hasz, hlc, _, hrow⟩ := hI.rowCell hL hs2 hb
        have hbd := run_sliceBounds (P := P) (γ := γ) (L := L) (w := w) (isS := true) (len := n) (cap := c) (lo := none) (hi := hi) (ulo := ulo) (uhi := uhi) hlo hlo' hhi hhi' (l := 0) (h := h') rfl hh (by omega) (by omega) (by omega) (by omega)
        have hif : (if c = 0 then (some ⟨b, 0, none⟩ : Option Addr) else (some ⟨b, 0, none⟩ : Option Addr).map (·.add (0 * P.cellsOf e))) = some ⟨b, 0, none⟩ := by
          split <;> simp [Addr.add]
        refine ⟨.slice (some ⟨b, 0, none⟩) h'.toNat c, ?_, hok' _ (.inr ⟨b, c, rfl, hb⟩)⟩
        simp [Instr.sliceAt, Instr.slice, run_underlying ht, hbd, run_sizeOf w b2, Addr.add]
  · cases h

end Go.Proofs.Ytobdpkkmkbafbaa.K
/-
  A logic of values for Go's functions (part 5): all operations that only compute or read, and what each leads to.
-/
namespace Go.Proofs.Ytobdpkkmkbafbaa.K
set_option linter.unusedVariables false
set_option linter.unusedSimpArgs false
open Go

def lenA (P : Program) (L : List AObj) (t : TypeId) (x : AV) : Option AV :=
  match x with
  | .str s => match P.underlying t with | some .string => some (.int .i64 s.size) | _ => none
  | .sl _ es => match P.underlying t with | some (.slice _) => some (.int .i64 es.length) | _ => none
  | .lit (.slice none 0 0) => match P.underlying t with | some (.slice _) => some (.int .i64 0) | _ => none
  | .ref id _ g n => match P.underlying t with | some (.slice _) => if eptrNow L id g then some (.int .i64 n) else none | _ => none
  | _ => none

theorem RefOk.form {γ : Nat → Gh} {L : List AObj} {id : Nat} {p : Pth} {g n : Nat} {v : Value} (hn : eptrNow L id g = true) (h : RefOk γ L id p g n v) :
    ∃ T sz es es', L[id]? = some (.vec T sz g es) ∧ sub es p = some es' ∧ n ≤ es'.length ∧
      ((v = .slice none 0 0 ∧ es' = [] ∧ n = 0 ∧ ∀ b c, γ b ≠ .ow id p c) ∨ ∃ b c, v = .slice (some ⟨b, 0, none⟩) n c ∧ γ b = .ow id p c) := by
  unfold eptrNow at hn
  split at hn
  case h_2 => cases hn
  rename_i T sz g' es hL
  have hg : g = g' := by simpa using hn
  subst hg
  rw [RefOk, hL] at h
  obtain ⟨es2, hs2, hl, hv⟩ := h.2 rfl
  refine ⟨T, sz, es, es2, hL, hs2, hl, ?_⟩
  rcases hv with ⟨rfl, rfl, hb⟩ | hv
  · exact .inl ⟨rfl, rfl, by simpa using hl, hb⟩
  · exact .inr hv

theorem lenA_run {P : Program} {γ : Nat → Gh} {L : List AObj} {w : World} {t ty : TypeId} {x z : AV} {u : Value} (hx : RV γ L x u) (h : lenA P L t x = some z) :
    ∃ r, (Builtin.len_ #[t] ty #[u]).run P w = .ok r w ∧ RV γ L z r := by
  unfold lenA at h
  split at h
  · cases hx
    split at h <;> cases h
    rename_i ht
    exact ⟨_, by simp [Builtin.len_, run_underlying ht, goInt], .int _ _⟩
  · rename_i own es
    split at h <;> cases h
    rename_i ht
    cases hx with
    | sl _ _ A n c sz vals hn hc hszs h2 h1 h3 =>
      subst hn
      exact ⟨_, by simp [Builtin.len_, run_underlying ht, goInt], .int _ _⟩
  · cases hx
    split at h <;> cases h
    rename_i ht
    exact ⟨_, by simp [Builtin.len_, run_underlying ht, goInt], .int _ _⟩
  · split at h
    case h_2 => cases h
    rename_i _ e ht
    split at h
    case isFalse => cases h
    rename_i hn
    cases h
    cases hx with
    | ref _ _ _ _ _ hok ho =>
      obtain ⟨T, sz, es, es', hL, hs, hl, hv⟩ := hok.form hn
      rcases hv with ⟨rfl, rfl, rfl, _⟩ | ⟨b, c, rfl, _⟩
      · exact ⟨_, by simp [Builtin.len_, run_underlying ht, goInt], .int _ _⟩
      · exact ⟨_, by simp [Builtin.len_, run_underlying ht, goInt], .int _ _⟩
  · cases h

def mmA (max : Bool) (x y : AV) : Option AV :=
  match x, y with
  | .int k a, .int k' b => if k = k' then some (.int k (if max then (if a < b then b else a) else (if b < a then b else a))) else none
  | _, _ => none

theorem maxA_run {P : Program} {γ : Nat → Gh} {L : List AObj} {w : World} {ts : Array TypeId} {t : TypeId} {x y z : AV} {u v : Value} (hx : RV γ L x u) (hy : RV γ L y v) (h : mmA true x y = some z) :
    ∃ r, (Builtin.max_ ts t #[u, v]).run P w = .ok r w ∧ RV γ L z r := by
  unfold mmA at h
  split at h
  case h_2 => cases h
  cases hx; cases hy
  split at h <;> cases h
  exact ⟨_, run_max_int2 w ts t _ _ _ _, .int _ _⟩

theorem minA_run {P : Program} {γ : Nat → Gh} {L : List AObj} {w : World} {ts : Array TypeId} {t : TypeId} {x y z : AV} {u v : Value} (hx : RV γ L x u) (hy : RV γ L y v) (h : mmA false x y = some z) :
    ∃ r, (Builtin.min_ ts t #[u, v]).run P w = .ok r w ∧ RV γ L z r := by
  unfold mmA at h
  split at h
  case h_2 => cases h
  cases hx; cases hy
  split at h <;> cases h
  exact ⟨_, run_min_int2 w ts t _ _ _ _, .int _ _⟩

/-- A type's zero value, as cells. -/
def zeroOf (P : Program) (t : TypeId) : Option Value := (P.info? t).bind (·.zero)

def absVs (v : Value) : AV :=
  match v with
  | .agg cs => .agg (cs.toList.map absV)
  | v => absV v

theorem RV.absVs {γ : Nat → Gh} {L : List AObj} {v : Value} (h : ∀ c ∈ v.cells, c.oneCell' = true) : RV γ L (absVs v) v := by
  unfold K.absVs
  split
  · rename_i cs
    refine .agg _ _ (by simp) (by simpa [Value.cells] using h) (fun i x hx => ?_)
    simp only [List.getElem?_map, Option.map_eq_some_iff] at hx
    obtain ⟨c, hc, rfl⟩ := hx
    have : cs.getD i undef = c := by
      have hlt := (List.getElem?_eq_some_iff.1 hc).1
      simp at hlt
      simp [Array.getD, hlt]
      simpa [hlt] using hc
    rw [this]
    exact .absV _
  · exact .absV _

/-- Parts laid into a record. -/
def fillA (place : Nat → Option (Nat × Nat)) (cells : List AV) : List (Nat × AV) → Option (List AV)
  | [] => some cells
  | (i, v) :: rest =>
    match place i with
    | none => none
    | some (off, size) =>
      if v.cells.length ≠ size ∨ off + size > cells.length then none
      else match v with
        | .junk => none
        | .tup _ => none
        | v => fillA place (cells.take off ++ v.cells ++ cells.drop (off + size)) rest

theorem fill_step (cs : Array Value) (off : Nat) : ∀ (vs : List Value) (k : Nat), off + k + vs.length ≤ cs.size →
    ((vs.zipIdx k).foldl (fun (cs : Array Value) (x : Value × Nat) => cs.setIfInBounds (off + x.2) x.1) cs).toList = cs.toList.take (off + k) ++ vs ++ cs.toList.drop (off + k + vs.length)
  | [], k, h => by simp
  | v :: vs, k, h => by
    simp only [List.zipIdx_cons, List.foldl_cons]
    have ih := fill_step (cs.setIfInBounds (off + k) v) off vs (k + 1) (by simp at h ⊢; omega)
    rw [ih]
    simp only [List.length_cons] at h
    have := list_seg_step cs.toList (off + k) v vs (by simp; omega)
    simp only [Array.toList_setIfInBounds, List.length_cons]
    rw [show off + (k + 1) = off + k + 1 by omega, show off + k + (vs.length + 1) = off + k + 1 + vs.length by omega]
    rw [show off + k + (vs.length + 1) = off + k + 1 + vs.length by omega] at this
    exact this

def CellsR (γ : Nat → Gh) (L : List AObj) (xs : List AV) (cs : Array Value) : Prop :=
  cs.size = xs.length ∧ ∀ (j : Nat) x, xs[j]? = some x → ∃ u, cs[j]? = some u ∧ u.oneCell' = true ∧ RV γ L x u

theorem CellsR.splice {γ : Nat → Gh} {L : List AObj} {xs ys : List AV} {cs vs : Array Value} {off size : Nat} (h : CellsR γ L xs cs) (k : CellsR γ L ys vs) (hs : ys.length = size) (hle : off + size ≤ xs.length) :
    CellsR γ L (xs.take off ++ ys ++ xs.drop (off + size)) (cs.toList.take off ++ vs.toList ++ cs.toList.drop (off + size)).toArray := by
  refine ⟨?_, ?_⟩
  · have := h.1; have := k.1
    simp only [List.size_toArray, List.length_append, List.length_take, List.length_drop, Array.length_toList]; omega
  · intro j x hx
    have h1 := h.1; have k1 := k.1
    simp only [List.append_assoc, List.getElem?_append, List.length_take] at hx
    simp only [List.getElem?_toArray, List.append_assoc, List.getElem?_append, List.length_take, Array.length_toList]
    have hm : min off xs.length = off := by omega
    have hm' : min off cs.size = off := by omega
    rw [hm] at hx; rw [hm']
    split at hx
    · rename_i hlt
      simp only [hlt, if_true, List.getElem?_take] at hx ⊢
      obtain ⟨u, hu, r⟩ := h.2 j x hx
      exact ⟨u, by simpa using hu, r⟩
    · rename_i hlt
      simp only [hlt, if_false]
      split at hx
      · rename_i hlt2
        rw [k1] 
        simp only [hlt2, if_true]
        obtain ⟨u, hu, r⟩ := k.2 _ x hx
        exact ⟨u, by simpa using hu, r⟩
      · rename_i hlt2
        rw [k1]
        simp only [hlt2, if_false, List.getElem?_drop] at hx ⊢
        obtain ⟨u, hu, r⟩ := h.2 _ x hx
        exact ⟨u, by simpa using hu, r⟩

theorem RV.cellsR {γ : Nat → Gh} {L : List AObj} {x : AV} {v : Value} (h : RV γ L x v) (hj : x ≠ .junk) (ht : ∀ vs, x ≠ .tup vs) : CellsR γ L x.cells v.cells := h.cells hj ht

theorem fillA_run {γ : Nat → Gh} {L : List AObj} {place : Nat → Option (Nat × Nat)} : ∀ (parts : List (Nat × AV)) (vparts : List (Nat × Value)) (xs zs : List AV) (cs : Array Value),
    CellsR γ L xs cs → parts.length = vparts.length → (∀ (i : Nat) p q, parts[i]? = some p → vparts[i]? = some q → p.1 = q.1 ∧ RV γ L p.2 q.2) →
    fillA place xs parts = some zs → ∃ cs', Instr.fill place cs vparts = some cs' ∧ CellsR γ L zs cs'
  | [], [], xs, zs, cs, h, _, _, hf => by simp [fillA] at hf; subst hf; exact ⟨cs, rfl, h⟩
  | (i, x) :: parts, (i', v) :: vparts, xs, zs, cs, h, hl, hp, hf => by
    obtain ⟨rfl, hv⟩ := hp 0 _ _ rfl rfl
    simp only [fillA] at hf
    simp only [Instr.fill]
    cases hpl : place i with
    | none => simp only [hpl] at hf; cases hf
    | some os =>
      obtain ⟨off, size⟩ := os
      simp only [hpl] at hf
      split at hf
      · cases hf
      rename_i hc
      simp only [not_or, Decidable.not_not, Nat.not_lt] at hc
      have key : ∀ {zs}, x ≠ .junk → (∀ vs, x ≠ .tup vs) → fillA place (xs.take off ++ x.cells ++ xs.drop (off + size)) parts = some zs →
          ∃ cs', (if (v.cells.size ≠ size || decide (off + v.cells.size > cs.size)) = true then none else Instr.fill place (v.cells.zipIdx.foldl (fun cs (x : Value × Nat) => cs.setIfInBounds (off + x.2) x.1) cs) vparts) = some cs' ∧ CellsR γ L zs cs' := by
        intro zs hj ht hf
        have hvc := hv.cellsR hj ht
        have h1 : v.cells.size = size := by rw [hvc.1]; exact hc.1
        have h2 : ¬ (off + v.cells.size > cs.size) := by rw [h.1]; omega
        have hst := fill_step cs off v.cells.toList 0 (by simp [h1, h.1]; omega)
        have hfold : v.cells.zipIdx.foldl (fun cs (x : Value × Nat) => cs.setIfInBounds (off + x.2) x.1) cs = (cs.toList.take off ++ v.cells.toList ++ cs.toList.drop (off + size)).toArray := by
          apply Array.toList_inj.1
          rw [← Array.foldl_toList, Array.toList_zipIdx]
          simpa [h1] using hst
        simp only [h1, ne_eq, not_true_eq_false, decide_false, Bool.false_or, decide_eq_true_eq]
        rw [if_neg (by omega), hfold]
        exact fillA_run parts vparts _ zs _ (h.splice hvc hc.1 (by omega)) (by simpa using hl) (fun j p q hp' hq' => hp (j + 1) p q (by simpa using hp') (by simpa using hq')) hf
      cases x with
      | junk => cases hf
      | tup vs => cases hf
      | _ => exact key (by intro h; cases h) (by intro vs h; cases h) hf
  | [], _ :: _, _, _, _, _, hl, _, _ => by simp at hl
  | _ :: _, [], _, _, _, _, hl, _, _ => by simp at hl

end Go.Proofs.Ytobdpkkmkbafbaa.K
/-
  A logic of values for Go's functions (part 6): one operation that computes or reads leads from a state to a state.
-/
namespace Go.Proofs.Ytobdpkkmkbafbaa.K
set_option linter.unusedVariables false
set_option linter.unusedSimpArgs false
open Go

def pickA (c : Bool) (x y : AV) : Option AV :=
  match x, y with
  | .bool p, .bool q => some (.bool (bif c then p else q))
  | x, y => some (bif c then x else y)

def buildA (P : Program) (t : TypeId) (parts : List (Nat × AV)) : Option AV :=
  match zeroOf P t, P.underlying t with
  | some (.agg z), some (.struct fs) =>
    if fs.all (fun f => (P.info? f.type).isSome) ∧ z.all (·.oneCell') then
      (fillA (fun i => (fs[i]?).map fun f => (f.offset, P.cellsOf f.type)) (z.toList.map absV) parts).map .agg
    else none
  | some (.agg z), some (.array _ e) =>
    if (P.info? e).isSome ∧ z.all (·.oneCell') then
      (fillA (fun i => some (i * P.cellsOf e, P.cellsOf e)) (z.toList.map absV) parts).map .agg
    else none
  | _, _ => none

def funcA (s : St) (fn : Fn) (first cap : Array Operand) : Option AV :=
  match fn with
  | .func f => if first.size = 0 then some (.fn f (cap.toList.map s.ev)) else none
  | _ => none

def callA (P : Program) (s : St) (c : Call) : Option AV :=
  match c.callee with
  | .builtin b =>
    match b, c.args.toList, c.argTypes.toList with
    | .len, [x], [t] => lenA P s.L t (s.ev x)
    | .max, [x, y], _ => mmA true (s.ev x) (s.ev y)
    | .min, [x, y], _ => mmA false (s.ev x) (s.ev y)
    | _, _, _ => none
  | _ => none

def pureA (P : Program) (s : St) : Op → Option AV
  | .move x => some (s.ev x)
  | .assign x => some (s.ev x)
  | .pick c a b => match s.ev c with | .bool c => pickA c (s.ev a) (s.ev b) | _ => none
  | .load t a => loadA P s t (s.ev a)
  | .nilCheck x =>
    match s.ev x with
    | .ptr id off => some (.ptr id off)
    | .rptr c off => some (.rptr c off)
    | .eptr id p g i off => if eptrNow s.L id g then some (.eptr id p g i off) else none
    | .fn f c => some (.fn f c)
    | _ => none
  | .binOp op t x y _ => binA P op t (s.ev x) (s.ev y)
  | .unOp op _ x => unA op (s.ev x)
  | .convert a b x => convA P a b (s.ev x)
  | .fieldAddr t x f =>
    match s.ev x with
    | .eptr id p g i off => if eptrNow s.L id g then fieldAddrA P t f (.eptr id p g i off) else none
    | x => fieldAddrA P t f x
  | .field t x f => fieldA P t f (s.ev x)
  | .indexAddr t x i =>
    match s.ev x with
    | .ref id p g n => indexRefA P s.L t (.ref id p g n) (s.ev i)
    | x => indexAddrA P t x (s.ev i)
  | .index t x i => indexA P t (s.ev x) (s.ev i)
  | .slice t x lo hi none => sliceA P s.L t (s.ev x) (lo.map s.ev) (hi.map s.ev)
  | .extract t i => extractA i (s.ev t)
  | .makeFunc fn first cap => funcA s fn first cap
  | .build t parts => buildA P t (parts.toList.map fun p => (p.1, s.ev p.2))
  | .call c => callA P s c
  | _ => none

theorem buildA_run {P : Program} {γ : Nat → Gh} {s : St} {a : Act} {w : World} {t : TypeId} {parts : Array (Nat × Operand)} {x : AV} (hr : Rel γ s a w)
    (h : buildA P t (parts.toList.map fun p => (p.1, s.ev p.2)) = some x) :
    ∃ v, (Instr.build t (parts.map fun (i, x) => (i, a.eval x))).run P w = .ok v w ∧ RV γ s.L x v := by
  have hz : ∀ z, zeroOf P t = some z → (zeroValue t).run P w = .ok z w := by
    intro z hz
    unfold zeroOf at hz
    obtain ⟨i, hi, hz⟩ := Option.bind_eq_some_iff.1 hz
    simp [zeroValue, typeInfo, hi, hz]
  have hcells : ∀ z : Array Value, (z.all (·.oneCell')) = true → CellsR γ s.L (z.toList.map absV) z := by
    intro z hz
    refine ⟨by simp, fun j x hx => ?_⟩
    simp only [List.getElem?_map, Option.map_eq_some_iff] at hx
    obtain ⟨c, hc, rfl⟩ := hx
    refine ⟨c, by simpa using hc, ?_, .absV _⟩
    have hm : c ∈ z := by simpa using List.mem_of_getElem? hc
    exact (Array.all_eq_true_iff_forall_mem.1 hz) c hm
  have hparts : ∀ (i : Nat) (p : Nat × AV) (q : Nat × Value), (parts.toList.map fun p => (p.1, s.ev p.2))[i]? = some p → ((parts.map fun (i, x) => (i, a.eval x)).toList)[i]? = some q → p.1 = q.1 ∧ RV γ s.L p.2 q.2 := by
    intro i p q hp hq
    simp only [List.getElem?_map, Option.map_eq_some_iff, Array.toList_map] at hp hq
    obtain ⟨c, hc, rfl⟩ := hp
    obtain ⟨d, hd, rfl⟩ := hq
    rw [hc] at hd; cases hd
    exact ⟨rfl, hr.ev _⟩
  unfold buildA at h
  split at h
  · rename_i _ _ z fs hzo hfs
    split at h
    case isFalse => cases h
    rename_i hc
    obtain ⟨zs, hzs, rfl⟩ := Option.map_eq_some_iff.1 h
    obtain ⟨cs', hfill, hcr⟩ := fillA_run _ _ _ _ z (hcells z hc.2) (by simp) hparts hzs
    have hpl : ∀ (l : List Field), (∀ f ∈ l, (P.info? f.type).isSome = true) → (l.mapM fun f => (do pure (f.offset, ← sizeOf f.type) : Sem (Nat × Nat))).run P w = .ok (l.map fun f => (f.offset, P.cellsOf f.type)) w := by
      intro l
      induction l with
      | nil => intro _; simp
      | cons f l ih =>
        intro hl
        simp only [List.mapM_cons, Sem.run_bind, run_sizeOf w (hl f (by simp)), Result.andThen_ok, Sem.run_pure, ih (fun g hg => hl g (by simp [hg])), List.map_cons]
    have hplaces : (fs.mapM fun f => (do pure (f.offset, ← sizeOf f.type) : Sem (Nat × Nat))).run P w = .ok (fs.map fun f => (f.offset, P.cellsOf f.type)) w := by
      rw [Array.mapM_eq_mapM_toList]
      have := hpl fs.toList (fun f hf => by
        have := Array.all_eq_true_iff_forall_mem.1 hc.1 f (by simpa using hf)
        simpa using this)
      simp only [map_eq_pure_bind] 
      rw [Sem.run_bind, this]
      simp only [Result.andThen_ok, Sem.run_pure]
      congr 1
      apply Array.toList_inj.1
      simp
    refine ⟨.agg cs', ?_, ?_⟩
    · simp only [Instr.build, Sem.run_bind, hz _ hzo, Result.andThen_ok, Value.cells, run_underlying hfs, hplaces]
      have : (fun (i : Nat) => (fs.map fun f => (f.offset, P.cellsOf f.type))[i]?) = fun i => (fs[i]?).map fun f => (f.offset, P.cellsOf f.type) := by
        funext i; simp
      simp only [this, hfill, Sem.run_pure]
    · exact .agg _ _ hcr.1 (fun v hv => by
        obtain ⟨j, hj, rfl⟩ := Array.getElem_of_mem hv
        obtain ⟨u, hu, h1, _⟩ := hcr.2 j (zs[j]'(by have := hcr.1; omega)) (by simp)
        rw [Array.getElem?_eq_getElem hj] at hu; cases hu; exact h1) (fun i y hy => by
        obtain ⟨u, hu, _, h2⟩ := hcr.2 i y hy
        obtain ⟨hlt, hu'⟩ := Array.getElem?_eq_some_iff.1 hu
        simp [Array.getD, hlt, hu', h2])
  · rename_i _ _ z len e hzo hfs
    split at h
    case isFalse => cases h
    rename_i hc
    obtain ⟨zs, hzs, rfl⟩ := Option.map_eq_some_iff.1 h
    obtain ⟨cs', hfill, hcr⟩ := fillA_run _ _ _ _ z (hcells z hc.2) (by simp) hparts hzs
    refine ⟨.agg cs', ?_, ?_⟩
    · simp only [Instr.build, Sem.run_bind, hz _ hzo, Result.andThen_ok, Value.cells, run_underlying hfs, run_sizeOf w hc.1, hfill, Sem.run_pure]
    · exact .agg _ _ hcr.1 (fun v hv => by
        obtain ⟨j, hj, rfl⟩ := Array.getElem_of_mem hv
        obtain ⟨u, hu, h1, _⟩ := hcr.2 j (zs[j]'(by have := hcr.1; omega)) (by simp)
        rw [Array.getElem?_eq_getElem hj] at hu; cases hu; exact h1) (fun i y hy => by
        obtain ⟨u, hu, _, h2⟩ := hcr.2 i y hy
        obtain ⟨hlt, hu'⟩ := Array.getElem?_eq_some_iff.1 hu
        simp [Array.getD, hlt, hu', h2])
  · cases h

theorem fieldAddrA_run {P : Program} {γ : Nat → Gh} {L : List AObj} {w : World} {t : TypeId} {f : Nat} {x z : AV} {u : Value} (hx : RV γ L x u)
    (he : ∀ id p g i off, x = .eptr id p g i off → eptrNow L id g = true) (h : fieldAddrA P t f x = some z) :
    ∃ r, (Instr.fieldAt t u f).run P w = .ok r w ∧ RV γ L z r := by
  unfold fieldAddrA at h
  split at h
  case h_2 => cases h
  rename_i o ft hf
  split at h
  case isFalse => cases h
  rename_i hc
  split at h
  · cases h
    cases hx with
    | ptr _ _ b c T cs hL hb => exact ⟨_, run_fieldAt w hf hc.1 hc.2 b _, .ptr _ _ _ _ _ _ hL hb⟩
  · cases h
    cases hx with
    | rptr _ _ b o' vals h2 h1 h3 =>
      refine ⟨_, run_fieldAt w hf hc.1 hc.2 b (o' + _), ?_⟩
      rw [Nat.add_assoc]
      exact .rptr _ _ b o' vals h2 h1 h3
  · cases h
    cases hx with
    | eptr _ _ _ _ _ _ hok h1 =>
      obtain ⟨b, o', rfl⟩ := hok.form (he _ _ _ _ _ rfl)
      exact ⟨_, run_fieldAt w hf hc.1 hc.2 b o', .eptr _ _ _ _ _ _ hok.shift rfl⟩
  · cases h

theorem pureA_sound {P : Program} {o : Oper} {s : St} {x : AV} (h : pureA P s o.op = some x) : OpS P o s (s.put o.dst x) := by
  refine OpS.pure fun γ a w hr => ?_
  have val : ∀ {m : Sem Value}, (∃ v, m.run P w = .ok v w ∧ RV γ s.L x v) → ∃ v, ((do pure (.value (← m)) : Sem Next)).run P w = .ok (.value v) w ∧ RV γ s.L x v := by
    rintro m ⟨v, hv, hx⟩
    exact ⟨v, by simp [hv], hx⟩
  have hev := fun y => hr.ev y
  unfold pureA at h
  unfold execOp
  split at h
  · rename_i y ho
    cases h; rw [ho]; exact ⟨_, by simp, hev _⟩
  · rename_i y ho
    cases h; rw [ho]; exact ⟨_, by simp, hev _⟩
  · rename_i c p q ho
    rw [ho]
    split at h
    case h_2 => cases h
    rename_i c' hc
    have hcv := hev c
    rw [hc] at hcv
    generalize hcc : a.eval c = vc at hcv
    cases hcv
    have hp := hev p
    have hq := hev q
    refine ⟨if c' then a.eval p else a.eval q, ?_, ?_⟩
    · simp only [hcc, asBool, Sem.run_bind, Sem.run_pure, Result.andThen_ok]
    · unfold pickA at h
      split at h
      · rename_i p' q' e1 e2
        cases h
        rw [e1] at hp; rw [e2] at hq
        cases c' <;> simp <;> assumption
      · cases h
        cases c' <;> simp <;> assumption
  · rename_i t y ho
    rw [ho]
    exact val (loadA_run hr.inv (hev y) h)
  · rename_i y ho
    rw [ho]
    have hy := hev y
    split at h
    · rename_i e; rw [e] at hy; cases h; clear hev; have hy2 := hy; generalize hv : a.eval y = v at hy2; cases hy2; exact ⟨a.eval y, (by simp [hv]), hy⟩
    · rename_i e; rw [e] at hy; cases h; clear hev; have hy2 := hy; generalize hv : a.eval y = v at hy2; cases hy2; exact ⟨a.eval y, (by simp [hv]), hy⟩
    · rename_i e; rw [e] at hy
      split at h
      case isFalse => cases h
      rename_i hn
      cases h
      clear hev
      have hy2 := hy
      generalize hv : a.eval y = v at hy2
      cases hy2 with
      | eptr _ _ _ _ _ _ hok h1 =>
        obtain ⟨b, o', rfl⟩ := hok.form hn
        exact ⟨a.eval y, (by simp [hv]), hy⟩
    · rename_i e; rw [e] at hy; cases h; clear hev; have hy2 := hy; generalize hv : a.eval y = v at hy2; cases hy2; exact ⟨a.eval y, (by simp [hv]), hy⟩
    · cases h
  · rename_i op t y z ty ho
    rw [ho]
    exact val (binA_run (hev y) (hev z) h)
  · rename_i op t y ho
    rw [ho]
    exact val (unA_run (hev y) h)
  · rename_i t t' y ho
    rw [ho]
    exact val (convA_run (hev y) h)
  · rename_i t y f ho
    rw [ho]
    have hy := hev y
    split at h
    · rename_i e
      split at h
      case isFalse => cases h
      rename_i hn
      rw [e] at hy
      exact val (fieldAddrA_run hy (fun _ _ _ _ _ he => by cases he; exact hn) h)
    · rename_i e
      exact val (fieldAddrA_run hy (fun _ _ _ _ _ he => (e _ _ _ _ _ he).elim) h)
  · rename_i t y f ho
    rw [ho]
    have hy := hev y
    refine val ?_
    unfold fieldA at h
    split at h
    case h_2 => cases h
    rename_i cs e
    rw [e] at hy
    split at h
    case h_2 => cases h
    rename_i o' ft hf
    unfold fieldOf at hf
    split at hf
    case h_2 => cases hf
    rename_i fs hfs
    obtain ⟨fd, hfd, he⟩ := Option.map_eq_some_iff.1 hf
    cases he
    clear hev
    generalize hv : a.eval y = v at hy
    cases hy with
    | agg _ vs hn ho' hall =>
      obtain ⟨r, hrun, hrv⟩ := run_part (w := w) h hn ho' hall
      exact ⟨r, by simp [Instr.field, run_underlying hfs, hfd, asAgg, hrun], hrv⟩
  · rename_i t y i ho
    rw [ho]
    have hy := hev y
    split at h
    · rename_i e
      rw [e] at hy
      exact val (indexRefA_run hr.inv hy (hev i) h)
    · exact val (indexAddrA_run hy (hev i) h)
  · rename_i t y i ho
    rw [ho]
    exact val (indexA_run (hev y) (hev i) h)
  · rename_i t y lo hi ho
    rw [ho]
    refine val (sliceA_run hr.inv (hev y) ?_ ?_ ?_ ?_ h)
    · rintro x hx
      obtain ⟨l, rfl, rfl⟩ := Option.map_eq_some_iff.1 hx
      exact ⟨_, rfl, hev l⟩
    · intro hl; cases lo with | none => rfl | some l => cases hl
    · rintro x hx
      obtain ⟨l, rfl, rfl⟩ := Option.map_eq_some_iff.1 hx
      exact ⟨_, rfl, hev l⟩
    · intro hl; cases hi with | none => rfl | some l => cases hl
  · rename_i t i ho
    rw [ho]
    exact val (extractA_run (hev t) h)
  · rename_i fn first cap ho
    rw [ho]
    unfold funcA at h
    split at h
    case h_2 => cases h
    rename_i f
    split at h
    case isFalse => cases h
    rename_i h0
    cases h
    have hf : first = #[] := Array.size_eq_zero_iff.1 h0
    subst hf
    refine ⟨.func (.func f) #[] (cap.map a.eval), by simp [Instr.makeFunc], .fn _ _ _ (by simp) (fun i x hx => ?_)⟩
    simp only [List.getElem?_map, Option.map_eq_some_iff] at hx
    obtain ⟨c, hc, rfl⟩ := hx
    have hlt := (List.getElem?_eq_some_iff.1 hc).1
    simp at hlt
    have hc' : cap[i] = c := by simpa [hlt] using hc
    simp [Array.getD, hlt, hc']
    exact hev c
  · rename_i t parts ho
    rw [ho]
    exact val (buildA_run hr h)
  · rename_i c ho
    rw [ho]
    unfold callA at h
    obtain ⟨cal, cargs, cts⟩ := c
    split at h
    case h_2 => cases h
    rename_i b hb
    cases hb
    split at h
    · rename_i y t e1 e2
      obtain rfl : cargs = #[y] := Array.toList_inj.1 e1
      obtain rfl : cts = #[t] := Array.toList_inj.1 e2
      obtain ⟨v, hv, hx⟩ := lenA_run (P := P) (w := w) (ty := o.type) (hev y) h
      exact ⟨v, by simp [resolve, invoke, builtin, hv], hx⟩
    · rename_i y z e1
      obtain rfl : cargs = #[y, z] := Array.toList_inj.1 e1
      obtain ⟨v, hv, hx⟩ := maxA_run (P := P) (w := w) (ts := cts) (t := o.type) (hev y) (hev z) h
      exact ⟨v, by simp [resolve, invoke, builtin, hv], hx⟩
    · rename_i y z e1
      obtain rfl : cargs = #[y, z] := Array.toList_inj.1 e1
      obtain ⟨v, hv, hx⟩ := minA_run (P := P) (w := w) (ts := cts) (t := o.type) (hev y) (hev z) h
      exact ⟨v, by simp [resolve, invoke, builtin, hv], hx⟩
    · cases h
  · cases h

end Go.Proofs.Ytobdpkkmkbafbaa.K
/-
  A logic of values for Go's functions (part 7): operations that make memory.
-/
namespace Go.Proofs.Ytobdpkkmkbafbaa.K
set_option linter.unusedVariables false
set_option linter.unusedSimpArgs false
open Go Go.RowKit

theorem Inv.out {γ : Nat → Gh} {L : List AObj} {w : World} (h : Inv γ L w) {b : Nat} (hb : w.heap.size ≤ b) : γ b = .out := by
  cases hg : γ b with
  | out => rfl
  | ro o =>
    have := (Array.getElem?_eq_some_iff.1 (h.ro b o hg)).1
    omega
  | ow id p c =>
    obtain ⟨o, ho, _⟩ := h.ow b id p c hg
    have := (Array.getElem?_eq_some_iff.1 ho).1
    omega

theorem Inv.idlt {γ : Nat → Gh} {L : List AObj} {w : World} (h : Inv γ L w) {b id c : Nat} {p : Pth} (hb : γ b = .ow id p c) : id < L.length := by
  obtain ⟨o, ho, hr⟩ := h.ow b id p c hb
  unfold BlockRep at hr
  cases hL : L[id]? with
  | none => simp [hL] at hr
  | some x => exact (List.getElem?_eq_some_iff.1 hL).1

theorem CV.mono {γ γ' : Nat → Gh} {L L' : List AObj} (E : Ext γ L γ' L') {id : Nat} {q : Pth} {x : AV} {v : Value}
    (hlab : ∀ b c, γ b = .ow id q c → γ' b = .ow id q c) (hnil : ∀ b c, γ' b = .ow id q c → γ b = .ow id q c) (h : CV γ L id q x v) : CV γ' L' id q x v := by
  unfold CV at *
  split at h
  · rcases h with ⟨h1, h2, h3⟩ | ⟨b, c, h1, h2⟩
    · exact .inl ⟨h1, h2, fun b c hb => h3 b c (hnil b c hb)⟩
    · exact .inr ⟨b, c, h1, hlab b c h2⟩
  · exact h.mono E

/-- A step that only adds objects and blocks keeps what each block holds. -/
theorem BlockRep.grow {γ γ' : Nat → Gh} {L : List AObj} {X : List AObj} (E : Ext γ L γ' (L ++ X)) {o : Obj} {id c : Nat} {p : Pth} (hid : id < L.length)
    (hlab : ∀ b p c, γ b = .ow id p c → γ' b = .ow id p c) (hnil : ∀ b p c, γ' b = .ow id p c → γ b = .ow id p c)
    (h : BlockRep γ L o id p c) : BlockRep γ' (L ++ X) o id p c := by
  unfold BlockRep at *
  rw [List.getElem?_append_left hid]
  split at h
  · rename_i T cs hL
    obtain ⟨h1, arr, h2, h3, h4⟩ := h
    refine ⟨h1, arr, h2, h3, fun j x hx => ?_⟩
    obtain ⟨v, a1, a2, a3⟩ := h4 j x hx
    exact ⟨v, a1, a2, a3.mono E⟩
  · rename_i T sz g es hL
    obtain ⟨es', s, arr, T', h1, h2, h3, h4, h5, h6, h7⟩ := h
    refine ⟨es', s, arr, T', h1, h2, h3, h4, h5, h6, h7.1, fun i e j x he hx => ?_⟩
    obtain ⟨v, a1, a2, a3⟩ := h7.2 i e j x he hx
    exact ⟨v, a1, a2, a3.mono E (fun b c hb => hlab b _ c hb) (fun b c hb => hnil b _ c hb)⟩
  · exact h
  · exact h.elim

def newG (γ : Nat → Gh) (n : Nat) (g : Gh) : Nat → Gh := fun b => if b = n then g else γ b

/-- A new block: it becomes the new object 'X' (or none), or is never written. -/
theorem Inv.alloc {γ : Nat → Gh} {L : List AObj} {w : World} (h : Inv γ L w) (o : Obj) (g : Gh) (X : List AObj)
    (hE : Ext γ L (newG γ w.heap.size g) (L ++ X) → Inv (newG γ w.heap.size g) (L ++ X) (w.alloc o)) (hg : (∃ o', g = .ro o' ) ∨ (∃ c, g = .ow L.length [] c) ∨ g = .out) :
    Ext γ L (newG γ w.heap.size g) (L ++ X) ∧ Inv (newG γ w.heap.size g) (L ++ X) (w.alloc o) ∧ Stp γ w (newG γ w.heap.size g) (w.alloc o) := by
  have hnew : γ w.heap.size = .out := h.out (Nat.le_refl _)
  have E : Ext γ L (newG γ w.heap.size g) (L ++ X) := by
    refine ⟨fun b o' hb => ?_, fun id o' hL => ⟨o', ?_, OStep.refl _⟩, fun b id p c hb => .inl ?_, ?_⟩
    · unfold newG; split
      · subst_vars; rw [hnew] at hb; cases hb
      · exact hb
    · rw [List.getElem?_append_left (List.getElem?_eq_some_iff.1 hL).1]; exact hL
    · unfold newG; split
      · subst_vars; rw [hnew] at hb; cases hb
      · exact hb
    · intro id T sz g' es T' sz' es' hL _ p e1 _ b c hb
      unfold newG at hb; split at hb
      · rcases hg with ⟨o', rfl⟩ | ⟨c', rfl⟩ | rfl
        · cases hb
        · cases hb
          have := (List.getElem?_eq_some_iff.1 hL).1
          omega
        · cases hb
      · exact hb
  refine ⟨E, hE E, rfl, rfl, rfl, by simp, E.ro, fun b hb ho => ⟨?_, heap_alloc_old w o b hb⟩⟩
  unfold newG
  rw [if_neg (by omega)]
  exact ho

theorem Inv.allocObj {γ : Nat → Gh} {L : List AObj} {w : World} (h : Inv γ L w) (o : Obj) (x : AObj) (c : Nat)
    (hr : Ext γ L (newG γ w.heap.size (.ow L.length [] c)) (L ++ [x]) → BlockRep (newG γ w.heap.size (.ow L.length [] c)) (L ++ [x]) o L.length [] c) :
    Ext γ L (newG γ w.heap.size (.ow L.length [] c)) (L ++ [x]) ∧ Inv (newG γ w.heap.size (.ow L.length [] c)) (L ++ [x]) (w.alloc o) ∧ Stp γ w (newG γ w.heap.size (.ow L.length [] c)) (w.alloc o) := by
  refine h.alloc o _ [x] (fun E => ?_) (.inr (.inl ⟨c, rfl⟩))
  have hnew : γ w.heap.size = .out := h.out (Nat.le_refl _)
  have old : ∀ {b id p c'}, newG γ w.heap.size (.ow L.length [] c) b = .ow id p c' → (b = w.heap.size ∧ id = L.length ∧ p = [] ∧ c' = c) ∨ (b ≠ w.heap.size ∧ γ b = .ow id p c') := by
    intro b id p c' hb
    unfold newG at hb
    split at hb
    · cases hb; exact .inl ⟨by assumption, rfl, rfl, rfl⟩
    · exact .inr ⟨by assumption, hb⟩
  have oldlt : ∀ {b id p c'}, γ b = .ow id p c' → b < w.heap.size := by
    intro b id p c' hb
    obtain ⟨o', ho', _⟩ := h.ow _ _ _ _ hb
    exact (Array.getElem?_eq_some_iff.1 ho').1
  refine ⟨?_, ?_, ?_, ?_, ?_⟩
  · intro b o' hb
    unfold newG at hb
    split at hb
    · cases hb
    · have h1 := h.ro b o' hb
      rw [heap_alloc_old w o b (Array.getElem?_eq_some_iff.1 h1).1]; exact h1
  · intro b id p c' hb
    rcases old hb with ⟨rfl, rfl, rfl, rfl⟩ | ⟨hne, hb⟩
    · exact ⟨o, heap_alloc_new w o, hr E⟩
    · obtain ⟨o', ho', hrep⟩ := h.ow _ _ _ _ hb
      have hid := h.idlt hb
      refine ⟨o', by rw [heap_alloc_old w o b (oldlt hb)]; exact ho', hrep.grow E hid ?_ ?_⟩
      · intro b' p' c'' hb'
        have := oldlt hb'
        unfold newG; rw [if_neg (by omega)]; exact hb'
      · intro b' p' c'' hb'
        rcases old hb' with ⟨_, h2, _, _⟩ | ⟨_, hb'⟩
        · omega
        · exact hb'
  · intro b b' id p c1 c2 hb hb'
    rcases old hb with ⟨h1, h2, h3, h4⟩ | ⟨hne, hb⟩ <;> rcases old hb' with ⟨k1, k2, k3, k4⟩ | ⟨kne, hb'⟩
    · omega
    · have := h.idlt hb'; omega
    · have := h.idlt hb; omega
    · exact h.inj _ _ _ _ _ _ hb hb'
  · intro id T cs hL
    by_cases hid : id < L.length
    · rw [List.getElem?_append_left hid] at hL
      obtain ⟨b, c', hb⟩ := h.box _ _ _ hL
      exact ⟨b, c', by have := oldlt hb; unfold newG; rw [if_neg (by omega)]; exact hb⟩
    · have hid2 : id = L.length := by
        have := (List.getElem?_eq_some_iff.1 hL).1
        simp at this; omega
      subst hid2
      exact ⟨w.heap.size, c, by simp [newG]⟩
  · intro id kt vt es hL
    by_cases hid : id < L.length
    · rw [List.getElem?_append_left hid] at hL
      obtain ⟨b, c', hb⟩ := h.map _ _ _ _ hL
      exact ⟨b, c', by have := oldlt hb; unfold newG; rw [if_neg (by omega)]; exact hb⟩
    · have hid2 : id = L.length := by
        have := (List.getElem?_eq_some_iff.1 hL).1
        simp at this; omega
      subst hid2
      exact ⟨w.heap.size, c, by simp [newG]⟩

/-- A new block that is never written. -/
theorem Inv.allocRo {γ : Nat → Gh} {L : List AObj} {w : World} (h : Inv γ L w) (o : Obj) :
    Ext γ L (newG γ w.heap.size (.ro o)) L ∧ Inv (newG γ w.heap.size (.ro o)) L (w.alloc o) ∧ Stp γ w (newG γ w.heap.size (.ro o)) (w.alloc o) := by
  have := h.alloc o (.ro o) [] (fun E => ?_) (.inl ⟨o, rfl⟩)
  · simpa using this
  have hnew : γ w.heap.size = .out := h.out (Nat.le_refl _)
  have old : ∀ {b id p c'}, newG γ w.heap.size (.ro o) b = .ow id p c' → γ b = .ow id p c' := by
    intro b id p c' hb
    unfold newG at hb
    split at hb
    · cases hb
    · exact hb
  have oldlt : ∀ {b id p c'}, γ b = .ow id p c' → b < w.heap.size := by
    intro b id p c' hb
    obtain ⟨o', ho', _⟩ := h.ow _ _ _ _ hb
    exact (Array.getElem?_eq_some_iff.1 ho').1
  have new : ∀ {b id p c'}, γ b = .ow id p c' → newG γ w.heap.size (.ro o) b = .ow id p c' := by
    intro b id p c' hb
    have := oldlt hb
    unfold newG; rw [if_neg (by omega)]; exact hb
  refine ⟨?_, ?_, fun b b' id p c1 c2 hb hb' => h.inj _ _ _ _ _ _ (old hb) (old hb'), ?_, ?_⟩
  · intro b o' hb
    unfold newG at hb
    split at hb
    · cases hb; subst_vars; exact heap_alloc_new w o
    · have h1 := h.ro b o' hb
      rw [heap_alloc_old w o b (Array.getElem?_eq_some_iff.1 h1).1]; exact h1
  · intro b id p c' hb
    obtain ⟨o', ho', hrep⟩ := h.ow _ _ _ _ (old hb)
    exact ⟨o', by rw [heap_alloc_old w o b (oldlt (old hb))]; exact ho', hrep.grow E (h.idlt (old hb)) (fun _ _ _ => new) (fun _ _ _ => old)⟩
  · intro id T cs hL
    rw [List.append_nil] at hL
    obtain ⟨b, c', hb⟩ := h.box _ _ _ hL
    exact ⟨b, c', new hb⟩
  · intro id kt vt es hL
    rw [List.append_nil] at hL
    obtain ⟨b, c', hb⟩ := h.map _ _ _ _ hL
    exact ⟨b, c', new hb⟩

/-- A value laid into a variable of its own. -/
theorem box_sound {P : Program} {o : Oper} {s : St} {T : TypeId} {x : Operand} (ho : o.op = .box T x) (hj : s.ev x ≠ .junk) (ht : ∀ vs, s.ev x ≠ .tup vs) :
    OpS P o s ({ s with L := s.L ++ [AObj.box T (s.ev x).cells] }.put o.dst (.ptr s.L.length 0)) := by
  intro γ a w K Q hr hK
  refine .inl ?_
  have hc := (hr.ev x).cells hj ht
  have hA := hr.inv.allocObj (.cells (a.eval x).cells T) (AObj.box T (s.ev x).cells) 0 (fun E => by
    unfold BlockRep
    simp only [List.getElem?_append_right (Nat.le_refl _), Nat.sub_self, List.getElem?_cons_zero]
    refine ⟨trivial, _, rfl, hc.1, fun j y hy => ?_⟩
    obtain ⟨u, h1, h2, h3⟩ := hc.2 j y hy
    exact ⟨u, h1, h2, h3.mono E⟩)
  obtain ⟨E, hI, hS⟩ := hA
  unfold Oper.wp execOp
  rw [ho]
  have hrun : (Instr.box T (a.eval x)).run P w = .ok (.pointer (some ⟨w.heap.size, 0, none⟩)) (w.alloc (.cells (a.eval x).cells T)) := by
    simp [Instr.box, newVar, newRow, newObj, Sem.run]
  simp only [Sem.run_bind, hrun, Result.andThen_ok, Sem.run_pure]
  refine hK _ _ _ ((hr.mono E hI).put o.dst (.ptr _ _ _ 0 T (s.ev x).cells ?_ ?_)) (by rw [St.put_L]; exact E) hS
  · simp
  · simp [newG]

/-- A new variable, at its zero value. -/
theorem alloc_sound {P : Program} {o : Oper} {s : St} {T : TypeId} {z : Value} (ho : o.op = .alloc T) (hz : zeroOf P T = some z) (h1 : z.cells.all (·.oneCell') = true) :
    OpS P o s ({ s with L := s.L ++ [AObj.box T (z.cells.toList.map absV)] }.put o.dst (.ptr s.L.length 0)) := by
  intro γ a w K Q hr hK
  refine .inl ?_
  have hA := hr.inv.allocObj (.cells z.cells T) (AObj.box T (z.cells.toList.map absV)) 0 (fun E => by
    unfold BlockRep
    simp only [List.getElem?_append_right (Nat.le_refl _), Nat.sub_self, List.getElem?_cons_zero]
    refine ⟨trivial, _, rfl, by simp, fun j y hy => ?_⟩
    simp only [List.getElem?_map, Option.map_eq_some_iff] at hy
    obtain ⟨u, hu, rfl⟩ := hy
    refine ⟨u, by simpa using hu, ?_, .absV _⟩
    exact (Array.all_eq_true_iff_forall_mem.1 h1) u (by simpa using List.mem_of_getElem? hu))
  obtain ⟨E, hI, hS⟩ := hA
  unfold Oper.wp execOp
  rw [ho]
  have hzr : (zeroValue T).run P w = .ok z w := by
    unfold zeroOf at hz
    obtain ⟨i, hi, hz⟩ := Option.bind_eq_some_iff.1 hz
    simp [zeroValue, typeInfo, hi, hz]
  have hrun : (Instr.alloc T true (.tuple #[])).run P w = .ok (.pointer (some ⟨w.heap.size, 0, none⟩)) (w.alloc (.cells z.cells T)) := by
    simp [Instr.alloc, hzr, newVar, newRow, newObj, Sem.run]
  simp only [Sem.run_bind, hrun, Result.andThen_ok, Sem.run_pure]
  refine hK _ _ _ ((hr.mono E hI).put o.dst (.ptr _ _ _ 0 T (z.cells.toList.map absV) ?_ ?_)) (by rw [St.put_L]; exact E) hS
  · simp
  · simp [newG]

end Go.Proofs.Ytobdpkkmkbafbaa.K
/-
  A logic of values for Go's functions (part 8): stores; slices out of literals.
-/
namespace Go.Proofs.Ytobdpkkmkbafbaa.K
set_option linter.unusedVariables false
set_option linter.unusedSimpArgs false
open Go Go.RowKit

theorem BlockRep.upd {γ : Nat → Gh} {L L' : List AObj} (E : Ext γ L γ L') {o : Obj} {id c : Nat} {p : Pth} (hid : L'[id]? = L[id]?)
    (h : BlockRep γ L o id p c) : BlockRep γ L' o id p c := by
  unfold BlockRep at *
  rw [hid]
  split at h
  · rename_i T cs hL
    obtain ⟨h1, arr, h2, h3, h4⟩ := h
    refine ⟨h1, arr, h2, h3, fun j x hx => ?_⟩
    obtain ⟨v, a1, a2, a3⟩ := h4 j x hx
    exact ⟨v, a1, a2, a3.mono E⟩
  · rename_i T sz g es hL
    obtain ⟨es', s, arr, T', h1, h2, h3, h4, h5, h6, h7⟩ := h
    refine ⟨es', s, arr, T', h1, h2, h3, h4, h5, h6, h7.1, fun i e j x he hx => ?_⟩
    obtain ⟨v, a1, a2, a3⟩ := h7.2 i e j x he hx
    exact ⟨v, a1, a2, a3.mono E (fun b c hb => hb) (fun b c hb => hb)⟩
  · exact h
  · exact h.elim

theorem Ext.set {γ : Nat → Gh} {L : List AObj} {id : Nat} {x x' : AObj} (hL : L[id]? = some x) (ho : OStep x x') : Ext γ L γ (L.set id x') := by
  have hlt := (List.getElem?_eq_some_iff.1 hL).1
  refine ⟨fun _ _ h => h, fun id' o' hL' => ?_, fun _ _ _ _ h => .inl h, fun _ _ _ _ _ _ _ _ _ _ _ _ _ _ _ h => h⟩
  by_cases h : id = id'
  · subst h
    rw [hL] at hL'; cases hL'
    exact ⟨x', by simp [hlt], ho⟩
  · exact ⟨o', by rw [List.getElem?_set_ne h]; exact hL', OStep.refl _⟩

/-- A block of the call's own is written. -/
theorem Inv.write {γ : Nat → Gh} {L : List AObj} {w w' : World} (h : Inv γ L w) {b id c : Nat} {p : Pth} {x x' : AObj} {o' : Obj} (hb : γ b = .ow id p c)
    (hL : L[id]? = some x) (ho : OStep x x') (hk : (∀ T cs, x' = .box T cs → ∃ T cs, x = .box T cs) ∧ (∀ kt vt es, x' = .map kt vt es → ∃ kt vt es, x = .map kt vt es))
    (hw : ∀ k, k ≠ b → w'.heap[k]? = w.heap[k]?) (hwb : w'.heap[b]? = some o') (hs : w.heap.size ≤ w'.heap.size) (hos : w'.os = w.os) (htape : w'.tape = w.tape) (hout : w'.output = w.output)
    (hrep : Ext γ L γ (L.set id x') → BlockRep γ (L.set id x') o' id p c)
    (hoth : Ext γ L γ (L.set id x') → ∀ b2 p2 c2 o2, b2 ≠ b → γ b2 = .ow id p2 c2 → BlockRep γ L o2 id p2 c2 → BlockRep γ (L.set id x') o2 id p2 c2) :
    Ext γ L γ (L.set id x') ∧ Inv γ (L.set id x') w' ∧ Stp γ w γ w' := by
  have E : Ext γ L γ (L.set id x') := .set hL ho
  refine ⟨E, ⟨fun b2 o2 hb2 => ?_, fun b2 id2 p2 c2 hb2 => ?_, h.inj, fun id2 T cs hL2 => ?_, fun id2 kt vt es hL2 => ?_⟩, hos, htape, hout, hs, fun _ _ h => h, fun b2 hb2 ho2 => ⟨ho2, ?_⟩⟩
  · have hne : b2 ≠ b := by rintro rfl; rw [hb] at hb2; cases hb2
    rw [hw b2 hne]; exact h.ro _ _ hb2
  · by_cases hne : b2 = b
    · subst hne
      rw [hb] at hb2; cases hb2
      exact ⟨o', hwb, hrep E⟩
    · obtain ⟨o2, ho2, hr2⟩ := h.ow _ _ _ _ hb2
      refine ⟨o2, by rw [hw b2 hne]; exact ho2, ?_⟩
      by_cases hid : id2 = id
      · subst hid; exact hoth E b2 p2 c2 o2 hne hb2 hr2
      · exact hr2.upd E (List.getElem?_set_ne (fun e => hid e.symm))
  · by_cases hid : id = id2
    · subst hid
      have hlt := (List.getElem?_eq_some_iff.1 hL).1
      simp [hlt] at hL2
      obtain ⟨T', cs', rfl⟩ := hk.1 T cs hL2
      exact h.box _ _ _ hL
    · rw [List.getElem?_set_ne hid] at hL2; exact h.box _ _ _ hL2
  · by_cases hid : id = id2
    · subst hid
      have hlt := (List.getElem?_eq_some_iff.1 hL).1
      simp [hlt] at hL2
      obtain ⟨_, _, _, rfl⟩ := hk.2 _ _ _ hL2
      exact h.map _ _ _ _ hL
    · rw [List.getElem?_set_ne hid] at hL2; exact h.map _ _ _ _ hL2
  · have hne : b2 ≠ b := by rintro rfl; rw [hb] at ho2; cases ho2
    exact hw b2 hne

/-- The state behind a store into a variable. -/
def storeA (P : Program) (s : St) (t : TypeId) (p x : AV) : Option St :=
  match p with
  | .ptr id off =>
    match s.L[id]? with
    | some (.box T cs) =>
      if (P.info? t).isSome ∧ x.cells.length = P.cellsOf t ∧ off + P.cellsOf t ≤ cs.length then
        match x with
        | .junk => none
        | .tup _ => none
        | x => some { s with L := s.L.set id (.box T (cs.take off ++ x.cells ++ cs.drop (off + P.cellsOf t))) }
      else none
    | _ => none
  | _ => none

theorem store_sound {P : Program} {o : Oper} {s s' : St} {t : TypeId} {p x : Operand} (ho : o.op = .store t p x) (hd : o.dst = none) (h : storeA P s t (s.ev p) (s.ev x) = some s') : OpS P o s s' := by
  intro γ a w K Q hr hK
  refine .inl ?_
  unfold storeA at h
  split at h
  case h_2 => cases h
  rename_i id off hp
  split at h
  case h_2 => cases h
  rename_i T cs hL
  split at h
  case isFalse => cases h
  rename_i hc
  obtain ⟨hi, hlen, hle⟩ := hc
  have key : s.ev x ≠ .junk → (∀ vs, s.ev x ≠ .tup vs) → s' = { s with L := s.L.set id (.box T (cs.take off ++ (s.ev x).cells ++ cs.drop (off + P.cellsOf t))) } → o.wp P a w K Q := by
    intro hj ht hs'
    subst hs'
    have hpv := hr.ev p
    rw [hp] at hpv
    generalize hpe : a.eval p = pv at hpv
    cases hpv with
    | ptr _ _ b c T' cs' hL' hb =>
      rw [hL] at hL'; cases hL'
      have hcr := (hr.ev x).cellsR hj ht
      obtain ⟨arr, harr, hasz, hcell⟩ := hr.inv.boxCell hL hb
      have hbox : CellsR γ s.L cs arr := ⟨hasz, fun j y hy => by
        obtain ⟨u, h1, _, h3, h4⟩ := hcell j y hy
        exact ⟨u, h1, h3, h4⟩⟩
      have hone : ∀ v ∈ (a.eval x).cells.toList, v.oneCell' = true := by
        intro v hv
        obtain ⟨j, hj', rfl⟩ := List.getElem_of_mem hv
        have hj2 : j < (a.eval x).cells.size := by simpa using hj'
        obtain ⟨u, hu, h1, _⟩ := hcr.2 j ((s.ev x).cells[j]'(by have := hcr.1; omega)) (by simp)
        rw [Array.getElem?_eq_getElem hj2] at hu
        cases hu
        simpa using h1
      have hst := run_storeCells_at P b off T (a.eval x).cells.toList 0 arr w harr (by simp; rw [hcr.1, hlen, hasz]; omega) hone
      simp only [Nat.add_zero] at hst
      have hsz2 : (a.eval x).cells.size = P.cellsOf t := by rw [hcr.1, hlen]
      have hrun : (Instr.storeAt t (.pointer (some ⟨b, off, none⟩)) (a.eval x)).run P w = .ok () (w.setRow b (arr.toList.take off ++ (a.eval x).cells.toList ++ arr.toList.drop (off + P.cellsOf t)).toArray) := by
        simp only [Instr.storeAt, Instr.sureAddr, Sem.run_bind, Sem.run_pure, Result.andThen_ok, storeVar, run_sizeOf w hi, hsz2, ne_eq, not_true_eq_false, if_false]
        rw [hst]
        simp [hsz2]
      have hspl := hbox.splice hcr hlen (by omega)
      have hW := hr.inv.write (x' := AObj.box T (cs.take off ++ (s.ev x).cells ++ cs.drop (off + P.cellsOf t))) (w' := w.setRow b (arr.toList.take off ++ (a.eval x).cells.toList ++ arr.toList.drop (off + P.cellsOf t)).toArray)
        (o' := .cells (arr.toList.take off ++ (a.eval x).cells.toList ++ arr.toList.drop (off + P.cellsOf t)).toArray T (0, 0)) hb hL
        ⟨rfl, by simp [List.length_take, List.length_drop, hlen]; omega⟩ ⟨fun _ _ _ => ⟨_, _, rfl⟩, fun _ _ _ h => by cases h⟩
        (fun k hk => setRow_other w b k _ hk) (setRow_heap w b arr _ T (0, 0) harr) (by simp [World.setRow]) rfl rfl rfl
        (fun E => by
          have hlt := (List.getElem?_eq_some_iff.1 hL).1
          unfold BlockRep
          simp only [List.getElem?_set_self hlt]
          refine ⟨trivial, _, rfl, hspl.1, fun j y hy => ?_⟩
          obtain ⟨u, h1, h2, h3⟩ := hspl.2 j y hy
          exact ⟨u, h1, h2, h3.mono E⟩)
        (fun E b2 p2 c2 o2 hne hb2 hr2 => by
          exfalso
          unfold BlockRep at hr2
          simp only [hL] at hr2
          obtain ⟨rfl, _⟩ := hr2
          exact hne (hr.inv.inj _ _ _ _ _ _ hb2 hb))
      obtain ⟨E, hI, hS⟩ := hW
      unfold Oper.wp execOp
      rw [ho]
      simp only [Sem.run_bind, hpe, hrun, Result.andThen_ok, Sem.run_pure]
      have := hK _ _ _ (hr.mono E hI) E hS
      show K (a.put o.dst undef) _
      rw [hd]
      exact this
  split at h
  · cases h
  · cases h
  · rename_i h1 h2
    cases h
    exact key h1 h2 rfl

/-- A literal slice that is only read from then on. -/
def litRo (P : Program) (t : TypeId) (n : Nat) (parts : List (Nat × AV)) : Option AV :=
  match P.underlying t with
  | some (.slice e) =>
    if (P.info? e).isSome ∧ parts.map (·.1) = List.range n ∧ (∀ p ∈ parts, p.2.cells.length = P.cellsOf e) ∧ n * P.cellsOf e ≤ 2 ^ 24 ∧ (zeroOf P e).isSome then
      some (.sl false (parts.map (·.2)))
    else none
  | _ => none

end Go.Proofs.Ytobdpkkmkbafbaa.K
/-
  A logic of values for Go's functions (part 9): control, calls, and what a function's contract says.
-/
namespace Go.Proofs.Ytobdpkkmkbafbaa.K
set_option linter.unusedVariables false
set_option linter.unusedSimpArgs false
open Go Go.RowKit

/-- Code without a loop over a function. -/
def plainC : Code → Bool
  | .seq a b => plainC a && plainC b
  | .cond _ a b => plainC a && plainC b
  | .block _ a => plainC a
  | .loop a => plainC a
  | .scope a => plainC a
  | .rangeFunc .. => false
  | _ => true

/-- What the code 'c' does from the state 's': in a function's frame; where it holds no loop over a function, in such a loop's round too. -/
def AWp (P : Program) (c : Code) (Q : Exit → St → Prop) (s : St) : Prop :=
  ∀ ro γ a w, (ro = none ∨ plainC c = true) → Rel γ s a w → c.wpIn (FW ro) 0 P (fun e a' w' => ∃ γ' s', Rel γ' s' a' w' ∧ Ext γ s.L γ' s'.L ∧ Stp γ w γ' w' ∧ Q e s') a w

def ExThen (next : St → Prop) (Q : Exit → St → Prop) : Exit → St → Prop
  | .normal, s => next s
  | e, s => Q e s

def ExBlock (id : Nat) (Q : Exit → St → Prop) : Exit → St → Prop
  | .exit id', s => if id' = id then Q .normal s else Q (.exit id') s
  | e, s => Q e s

theorem AWp.mono {P : Program} {c : Code} {Q Q' : Exit → St → Prop} {s : St} (h : AWp P c Q s) (hq : ∀ e s, Q e s → Q' e s) : AWp P c Q' s :=
  fun ro γ a w hp hr => wpIn_mono (h ro γ a w hp hr) fun e a' w' ⟨γ', s', h1, h2, h3, h4⟩ => ⟨γ', s', h1, h2, h3, hq _ _ h4⟩

theorem AWp.skip {P : Program} {Q : Exit → St → Prop} {s : St} (h : Q .normal s) : AWp P .skip Q s := fun ro γ a w _ hr => wpIn_skip ⟨γ, s, hr, .refl _ _, .refl _ _, h⟩
theorem AWp.ret {P : Program} {Q : Exit → St → Prop} {s : St} (h : Q .ret s) : AWp P .ret Q s := fun ro γ a w _ hr => wpIn_ret ⟨γ, s, hr, .refl _ _, .refl _ _, h⟩
theorem AWp.exit {P : Program} {Q : Exit → St → Prop} {s : St} {id : Nat} (h : Q (.exit id) s) : AWp P (.exit id) Q s := fun ro γ a w _ hr => wpIn_exit ⟨γ, s, hr, .refl _ _, .refl _ _, h⟩

theorem AWp.seq {P : Program} {x y : Code} {Q : Exit → St → Prop} {s : St} (h : AWp P x (ExThen (AWp P y Q) Q) s) : AWp P (.seq x y) Q s := by
  intro ro γ a w hp hr
  have hp1 : ro = none ∨ plainC x = true := hp.imp id fun h => by simp only [plainC, Bool.and_eq_true] at h; exact h.1
  have hp2 : ro = none ∨ plainC y = true := hp.imp id fun h => by simp only [plainC, Bool.and_eq_true] at h; exact h.2
  refine wpIn_seq (wpIn_mono (h ro γ a w hp1 hr) ?_)
  rintro e a' w' ⟨γ', s', h1, h2, h3, h4⟩
  cases e with
  | normal => exact wpIn_mono (h4 ro γ' a' w' hp2 h1) fun e a2 w2 ⟨γ2, s2, k1, k2, k3, k4⟩ => ⟨γ2, s2, k1, h2.trans k2, h3.trans k3, k4⟩
  | _ => exact ⟨γ', s', h1, h2, h3, h4⟩

theorem AWp.cond {P : Program} {c : Operand} {x y : Code} {Q : Exit → St → Prop} {s : St} {b : Bool} (hc : s.ev c = .bool b)
    (ht : b = true → AWp P x Q s) (hf : b = false → AWp P y Q s) : AWp P (.cond c x y) Q s := by
  intro ro γ a w hp hr
  have hp1 : ro = none ∨ plainC x = true := hp.imp id fun h => by simp only [plainC, Bool.and_eq_true] at h; exact h.1
  have hp2 : ro = none ∨ plainC y = true := hp.imp id fun h => by simp only [plainC, Bool.and_eq_true] at h; exact h.2
  have hv := hr.ev c
  rw [hc] at hv
  generalize hcv : a.eval c = v at hv
  cases hv
  cases b with
  | true => exact wpIn_cond_true hcv (ht rfl ro γ a w hp1 hr)
  | false => exact wpIn_cond_false hcv (hf rfl ro γ a w hp2 hr)

theorem AWp.block {P : Program} {id : Nat} {c : Code} {Q : Exit → St → Prop} {s : St} (h : AWp P c (ExBlock id Q) s) : AWp P (.block id c) Q s := by
  intro ro γ a w hp hr
  refine wpIn_block (wpIn_mono (h ro γ a w hp hr) ?_)
  rintro e a' w' ⟨γ', s', h1, h2, h3, h4⟩
  cases e with
  | exit id' =>
    simp only [Exit.inBlock, ExBlock] at h4 ⊢
    split
    · rename_i he; rw [if_pos he] at h4; exact ⟨γ', s', h1, h2, h3, h4⟩
    · rename_i he; rw [if_neg he] at h4; exact ⟨γ', s', h1, h2, h3, h4⟩
  | _ => exact ⟨γ', s', h1, h2, h3, h4⟩

def ARounds (P : Program) (c : Code) (Q : Exit → St → Prop) : Nat → St → Prop
  | 0, _ => False
  | n + 1, s => AWp P c (ExThen (ARounds P c Q n) Q) s

theorem AWp.loop {P : Program} {c : Code} {Q : Exit → St → Prop} {s : St} (n : Nat) (h : ARounds P c Q n s) : AWp P (.loop c) Q s := by
  intro ro γ0 a0 w0 hp hr0
  have hp' : ro = none ∨ plainC c = true := hp
  refine wpIn_loop_rounds n ?_
  have key : ∀ n s1 γ a w, Rel γ s1 a w → Ext γ0 s.L γ s1.L → Stp γ0 w0 γ w → ARounds P c Q n s1 →
      Code.roundsIn (FW ro) 0 P c (fun e a' w' => ∃ γ' s', Rel γ' s' a' w' ∧ Ext γ0 s.L γ' s'.L ∧ Stp γ0 w0 γ' w' ∧ Q e s') n a w := by
    intro n
    induction n with
    | zero => intro s1 γ a w _ _ _ h; exact h.elim
    | succ n ih =>
      intro s1 γ a w hr hE hS h
      refine wpIn_mono (h ro γ a w hp' hr) ?_
      rintro e a' w' ⟨γ', s', h1, h2, h3, h4⟩
      cases e with
      | normal => exact ih s' γ' a' w' h1 (hE.trans h2) (hS.trans h3) h4
      | _ => exact ⟨γ', s', h1, hE.trans h2, hS.trans h3, h4⟩
  exact key n s γ0 a0 w0 hr0 (.refl _ _) (.refl _ _) h

theorem rv_undef {γ : Nat → Gh} {L : List AObj} : RV γ L (.tup []) undef := .tup [] #[] rfl (fun i x h => by simp at h)

/-! ### regions in the text's order -/
def guardA (ops : Array Oper) (s : St) (o : Oper) : Option Bool :=
  match o.guard with
  | none => some true
  | some (j, want) =>
    match (ops[j]?).bind (·.dst) with
    | some d => match s.t[d]? with | some (.bool b) => some (b == want) | some (.tup []) => some false | _ => none
    | none => none

theorem guardA_wanted {γ : Nat → Gh} {ops : Array Oper} {s : St} {a : Act} {w : World} {o : Oper} {b : Bool} (hr : Rel γ s a w) (h : guardA ops s o = some b) : Region.wanted o (yielded ops a.tmps) = b := by
  unfold guardA at h
  unfold Region.wanted
  split at h
  · rename_i hg; rw [hg]; exact Option.some.inj h
  · rename_i j want hg
    rw [hg]
    split at h
    · rename_i d hd
      split at h
      · rename_i b' hb
        cases h
        have hv := hr.tmps d _ hb
        generalize hvv : a.tmps.getD d undef = v at hv
        cases hv
        have hy : yielded ops a.tmps j = some b' := by
          unfold yielded
          simp only [hd, Option.bind_some]
          have hlt : d < a.tmps.size := by rw [hr.size]; exact (List.getElem?_eq_some_iff.1 hb).1
          have e : a.tmps[d] = .bool b' := by simpa [Array.getD, hlt] using hvv
          rw [Array.getElem?_eq_getElem hlt, e]
        simp only [hy]
        cases b' <;> cases want <;> rfl
      · rename_i hb
        cases h
        have hv := hr.tmps d _ hb
        generalize hvv : a.tmps.getD d undef = v at hv
        cases hv with
        | tup _ vs hn _ =>
          have hy : yielded ops a.tmps j = none := by
            unfold yielded
            simp only [hd, Option.bind_some]
            have hlt : d < a.tmps.size := by rw [hr.size]; exact (List.getElem?_eq_some_iff.1 hb).1
            have e : a.tmps[d] = .tuple vs := by simpa [Array.getD, hlt] using hvv
            rw [Array.getElem?_eq_getElem hlt, e]
          simp only [hy]
          rfl
      · cases h
    · cases h

/-- What a step hangs on: the slots that it reads; what the call owns, too; it changes what the call owns. -/
inductive Knd where
  | A | B | C | W | D
  deriving DecidableEq

def Knd.le : Knd → Knd → Bool
  | .A, _ => true
  | .B, .B => true
  | .B, .C => true
  | .C, .C => true
  | .W, .W => true
  | .W, .C => true
  | .B, .D => true
  | .D, .D => true
  | .D, .C => true
  | _, _ => false

/-- Does it change what is owned, or add to it? -/
def Knd.mod : Knd → Bool
  | .C => true
  | .W => true
  | _ => false

/-- Is 'id' a variable that only results go to? (Asked of 'k' by an operation that no code here has.) -/
def isW (k : Oper → Knd) (id : Nat) : Bool :=
  (k { dst := none, op := .ready 3999999, type := 0, pos := "", after := #[], guard := none } == .A) && (k { dst := none, op := .ready (4000000 + id), type := 0, pos := "", after := #[], guard := none } == .A)

/-- A step: its kind, what it lays into its slot, and what the call owns behind it. -/
structure Sd where
  kind : Knd
  x : AV
  L' : List AObj

def Sd.app (d : Sd) (o : Oper) (s : St) : St :=
  match d.kind with
  | .C => { s with L := d.L' }.put o.dst d.x
  | .W => { s with L := d.L' }.put o.dst d.x
  | _ => s.put o.dst d.x

def agree (l : List Tmp) (s s1 : St) : Prop := ∀ t ∈ l, s1.t[t]? = s.t[t]?

/-- Is it a row? -/
def isRow (o : Option AObj) : Prop := ∃ T sz g es, o = some (.vec T sz g es)
/-- Do only such operations change rows that change nothing else? (Asked of 'k' by an operation that no code here has.) -/
def rowsW (k : Oper → Knd) : Bool := k { dst := none, op := .ready 3999998, type := 0, pos := "", after := #[], guard := none } == .A
/-- Do they leave the objects 0 and 1 alone? -/
def rowLow (k : Oper → Knd) : Bool := k { dst := none, op := .ready 3999997, type := 0, pos := "", after := #[], guard := none } == .A
def rowsAt (k : Oper → Knd) (id : Nat) : Bool := rowsW k && (decide (2 ≤ id) || !rowLow k)
def SameAt (k : Oper → Knd) (L L0 : List AObj) (i : Nat) : Prop := L0[i]? = L[i]? ∨ (rowsAt k i = true ∧ isRow L[i]? ∧ isRow L0[i]?)
theorem SameAt.trans {k : Oper → Knd} {L L0 L1 : List AObj} {i : Nat} (h : SameAt k L L0 i) (h2 : SameAt k L0 L1 i) : SameAt k L L1 i := by
  rcases h with h | ⟨a, b, c⟩ <;> rcases h2 with h2 | ⟨d, e, f⟩
  · exact .inl (h2.trans h)
  · exact .inr ⟨d, by rw [← h]; exact e, f⟩
  · exact .inr ⟨a, b, by rw [h2]; exact c⟩
  · exact .inr ⟨a, b, f⟩
/-- What a step may find of what the call owns: a reading step may find more than it was told with, and other contents in variables that only results go to. -/
def Lok (k : Oper → Knd) : Knd → List AObj → List AObj → Prop
  | .A, _, _ => True
  | .B, L, L1 => ∃ L0 X, L1 = L0 ++ X ∧ L0.length = L.length ∧ ∀ i, isW k i = false → SameAt k L L0 i
  | .C, L, L1 => L1 = L
  | .W, L, L1 => L1 = L
  | .D, L, L1 => L1 = L
theorem Lok.refl {k : Oper → Knd} (q : Knd) (L : List AObj) : Lok k q L L := by
  cases q
  · trivial
  · exact ⟨L, [], by simp, rfl, fun _ _ => .inl rfl⟩
  · rfl
  · rfl
  · rfl
theorem Lok.trans {k : Oper → Knd} {q : Knd} {L L1 L2 : List AObj} (h : Lok k q L L1) (h2 : Lok k q L1 L2) : Lok k q L L2 := by
  cases q
  · trivial
  · obtain ⟨L0, X, rfl, h3, h4⟩ := h
    obtain ⟨M0, Y, rfl, h5, h6⟩ := h2
    refine ⟨M0.take L.length, M0.drop L.length ++ Y, by rw [← List.append_assoc, List.take_append_drop], ?_, fun i hi => ?_⟩
    · rw [List.length_take]; simp at h5; omega
    · by_cases hlt : i < L.length
      · refine (h4 i hi).trans ?_
        have h7 := h6 i hi
        unfold SameAt at h7 ⊢
        rw [List.getElem?_append_left (by omega)] at h7
        rw [List.getElem?_take, if_pos hlt]
        exact h7
      · left
        rw [List.getElem?_eq_none (by simp only [List.length_take]; omega), List.getElem?_eq_none (by omega)]
  · exact Eq.trans h2 h
  · exact Eq.trans h2 h
  · exact Eq.trans h2 h
theorem Lok.of {k : Oper → Knd} {q : Knd} {L L1 : List AObj} (h : q ≠ .A → L1 = L) : Lok k q L L1 := by
  cases q
  · trivial
  · rw [h (by simp)]; exact Lok.refl .B L
  · exact h (by simp)
  · exact h (by simp)
  · exact h (by simp)
/-- Operations that only add to what is owned; of calls, 'k' tells (asked by an operation that no code here has). -/
def isAlloc (k : Oper → Knd) (o : Oper) : Bool :=
  match o.op with
  | .alloc _ => true
  | .box _ _ => true
  | .buildSlice _ _ _ => true
  | .makeSlice _ _ _ => true
  | .call c => match c.callee with | .value (.func f) => k { o with op := .ready f } == .A | .value _ => k { o with op := .ready 3999990 } == .A | _ => false
  | _ => false

def Valid (P : Program) (k : Oper → Knd) (ops : Array Oper) (o : Oper) (d : Sd) (s : St) : Prop :=
  ((isAlloc k o = true → d.kind = .C → ∃ X, d.L' = s.L ++ X) ∧ (d.kind = .W → ∃ id o', (isW k id = true ∨ (rowsAt k id = true ∧ isRow s.L[id]? ∧ isRow (some o'))) ∧ d.L' = s.L.set id o')) ∧
  ∀ s1, agree (o.looksAt ops) s s1 → Lok k d.kind s.L s1.L → guardA ops s1 o = some true ∧ OpS P o s1 (d.app o s1)

/-- The operations of a region, in the text's order. -/
inductive RunL (P : Program) (k : Oper → Knd) (ops : Array Oper) : List Oper → St → (St → Prop) → Prop where
  | nil {s : St} {K : St → Prop} (h : K s) : RunL P k ops [] s K
  | op {o : Oper} {rest : List Oper} {s : St} {K : St → Prop} (d : Sd) (hk : d.kind.le (k o) = true) (h : Valid P k ops o d s) (hr : RunL P k ops rest (d.app o s) K) : RunL P k ops (o :: rest) s K
  | off {o : Oper} {rest : List Oper} {s : St} {K : St → Prop} (hg : guardA ops s o = some false) (hr : RunL P k ops rest (s.put o.dst (.tup [])) K) : RunL P k ops (o :: rest) s K

theorem RunL.sound {P : Program} {k : Oper → Knd} {ops : Array Oper} {Q : Exit → St → Prop} {ro : Option Nat} {γ0 : Nat → Gh} {L0 : List AObj} {w0 : World} : ∀ (rest : List Oper) (pre : List Oper) (s : St) (γ : Nat → Gh) (a : Act) (w : World),
    ops.toList = pre ++ rest → Rel γ s a w → Ext γ0 L0 γ s.L → Stp γ0 w0 γ w → RunL P k ops rest s (Q .normal) →
    wpOpsIn (FW ro) 0 P ops (fun e a' w' => ∃ γ' s', Rel γ' s' a' w' ∧ Ext γ0 L0 γ' s'.L ∧ Stp γ0 w0 γ' w' ∧ Q e s') (List.range' pre.length rest.length) a w
  | [], pre, s, γ, a, w, hl, hr, hE, hS, h => by
    cases h with
    | nil h => exact ⟨γ, s, hr, hE, hS, h⟩
  | o :: rest, pre, s, γ, a, w, hl, hr, hE, hS, h => by
    have hi : ops[pre.length]? = some o := by
      rw [← Array.getElem?_toList, hl, List.getElem?_append_right (Nat.le_refl _)]; simp
    simp only [List.length_cons, List.range'_succ, wpOpsIn, hi]
    have hl' : ops.toList = (pre ++ [o]) ++ rest := by rw [hl]; simp
    cases h with
    | op d hkk h hk =>
      obtain ⟨hg, h⟩ := h.2 s (fun _ _ => rfl) (Lok.refl _ _)
      rw [guardA_wanted hr hg, if_pos rfl]
      refine h.wpIn ro hr fun γ' a' w' hr' hE' hS' => ?_
      have := RunL.sound (ro := ro) rest (pre ++ [o]) _ γ' a' w' hl' hr' (hE.trans hE') (hS.trans hS') hk
      simpa using this
    | off hg hk =>
      rw [guardA_wanted hr hg, if_neg (by decide)]
      refine ⟨fun _ _ => trivial, ?_⟩
      have := RunL.sound (ro := ro) rest (pre ++ [o]) _ γ (a.put o.dst undef) w hl' (hr.put o.dst rv_undef) (by rw [St.put_L]; exact hE) hS hk
      simpa using this

theorem AWp.region {P : Program} {k : Oper → Knd} {id : Nat} {ops : Array Oper} {Q : Exit → St → Prop} {s : St} (h : RunL P k ops ops.toList s (Q .normal)) : AWp P (.region id ops false) Q s := by
  intro ro γ a w _ hr
  refine wpIn_region ?_
  have := RunL.sound (Q := Q) (ro := ro) (γ0 := γ) (L0 := s.L) (w0 := w) ops.toList [] s γ a w rfl hr (.refl _ _) (.refl _ _) h
  rw [List.range_eq_range']
  simpa using this

/-! ### what a step reads -/
theorem agree_ev {ops : Array Oper} {o : Oper} {s s1 : St} (h : agree (o.looksAt ops) s s1) {x : Operand} (hx : x ∈ o.op.operands) : s1.ev x = s.ev x := by
  cases x with
  | tmp t =>
    have : t ∈ o.looksAt ops := by
      unfold Oper.looksAt
      refine List.mem_append_left _ ?_
      simp only [List.mem_filterMap]
      exact ⟨.tmp t, by simpa using hx, rfl⟩
    simp only [St.ev, List.getD_eq_getElem?_getD, h t this]
  | _ => rfl

theorem agree_guard {ops : Array Oper} {o : Oper} {s s1 : St} (h : agree (o.looksAt ops) s s1) : guardA ops s1 o = guardA ops s o := by
  unfold guardA
  split
  · rfl
  · rename_i j want hg
    split
    · rename_i d hd
      have : d ∈ o.looksAt ops := by
        unfold Oper.looksAt
        refine List.mem_append_right _ ?_
        simp [hg, hd]
      rw [h d this]
    · rfl

/-! ### functions -/
def ArgsR (γ : Nat → Gh) (L : List AObj) (args : List AV) (vs : Array Value) : Prop :=
  vs.size = args.length ∧ ∀ (i : Nat) x, args[i]? = some x → RV γ L x (vs.getD i undef)

/-- The contract of a function: called with 'args' in a memory where the call owns 'L', it gives 'r' and leaves 'L''. -/
def Ct (P : Program) (f : FuncId) (args : List AV) (L : List AObj) (r : AV) (L' : List AObj) : Prop :=
  ∀ γ w vs, Inv γ L w → ArgsR γ L args vs →
    Calls P f vs w fun e w' => ∃ γ' v, e = .returned v ∧ Inv γ' L' w' ∧ RV γ' L' r v ∧ Ext γ L γ' L' ∧ Stp γ w γ' w'

/-- Can function 'f' be called by the model's plain call? -/
def okFn (P : Program) (f : FuncId) : Bool :=
  match P.funcs[f]? with
  | some fn => !(fn.name == "runtime.NumGoroutine") && fn.body.isSome
  | none => false

theorem run_callFunc {P : Program} {f : FuncId} (h : okFn P f = true) (vs : Array Value) (w : World) : (callFunc f vs).run P w = .ok (.enter f vs) w := by
  unfold okFn at h
  split at h
  · rename_i fn hfn
    simp only [Bool.and_eq_true, Bool.not_eq_true'] at h
    have hb : fn.body.isNone = false := by cases hbb : fn.body <;> simp_all
    simp only [callFunc, Sem.run_bind, run_program, Result.andThen_ok, hfn, h.1, hb, Bool.false_eq_true, if_false, Sem.run_pure]
  · cases h

theorem call_sound {P : Program} {o : Oper} {s : St} {f : FuncId} {args : Array Operand} {ats : Array TypeId} {r : AV} {L' : List AObj}
    (ho : o.op = .call { callee := .value (.func f), args := args, argTypes := ats }) (hf : okFn P f = true)
    (h : Ct P f (args.toList.map s.ev) s.L r L') : OpS P o s ({ s with L := L' }.put o.dst r) := by
  intro γ a w K Q hr hK
  refine .inl ?_
  unfold Oper.wp execOp
  rw [ho]
  have hrun : (do let d ← resolve a.eval { callee := .value (.func f), args := args, argTypes := ats } o.type; invoke d.target d.args : Sem Next).run P w = .ok (.enter f (args.map a.eval)) w := by
    simp [resolve, Deferred.ofValue, Act.eval, invoke, run_callFunc hf]
  simp only [hrun]
  refine (h γ w (args.map a.eval) hr.inv ⟨by simp, fun i x hx => ?_⟩).mono ?_
  · simp only [List.getElem?_map, Option.map_eq_some_iff] at hx
    obtain ⟨y, hy, rfl⟩ := hx
    have hlt := (List.getElem?_eq_some_iff.1 hy).1
    simp at hlt
    have hy' : args[i] = y := by simpa [hlt] using hy
    simp [Array.getD, hlt, hy']
    exact hr.ev y
  · rintro e w' ⟨γ', v, rfl, hI, hv, hE, hS⟩
    exact hK γ' _ w' ((hr.mono hE hI).put o.dst hv) (by rw [St.put_L]; exact hE) hS

/-- A call of a closure. -/
theorem callc_sound {P : Program} {o : Oper} {s : St} {f : FuncId} {cap : List AV} {args : Array Operand} {ats : Array TypeId} {x : Operand} {r : AV} {L' : List AObj}
    (ho : o.op = .call { callee := .value x, args := args, argTypes := ats }) (hx : s.ev x = .fn f cap) (hf : okFn P f = true)
    (h : Ct P f (args.toList.map s.ev ++ cap) s.L r L') : OpS P o s ({ s with L := L' }.put o.dst r) := by
  intro γ a w K Q hr hK
  refine .inl ?_
  have hxv := hr.ev x
  rw [hx] at hxv
  generalize hxe : a.eval x = v at hxv
  cases hxv with
  | fn _ _ vs hn hcap =>
    unfold Oper.wp execOp
    rw [ho]
    have hrun : (do let d ← resolve a.eval { callee := .value x, args := args, argTypes := ats } o.type; invoke d.target d.args : Sem Next).run P w = .ok (.enter f (args.map a.eval ++ vs)) w := by
      simp [resolve, hxe, Deferred.ofValue, invoke, run_callFunc hf]
    simp only [hrun]
    refine (h γ w (args.map a.eval ++ vs) hr.inv ⟨by simp [hn], fun i y hy => ?_⟩).mono ?_
    · by_cases hi : i < args.size
      · rw [List.getElem?_append_left (by simpa using hi)] at hy
        simp only [List.getElem?_map, Option.map_eq_some_iff] at hy
        obtain ⟨z, hz, rfl⟩ := hy
        have hz' : args[i] = z := by simpa [hi] using hz
        have hlt : i < args.size + vs.size := by omega
        simp [Array.getD, hlt, hi, hz']
        exact hr.ev z
      · rw [List.getElem?_append_right (by simpa using hi)] at hy
        simp only [List.length_map, Array.length_toList] at hy
        have := hcap _ _ hy
        have hlt : i - args.size < vs.size := by rw [hn]; exact (List.getElem?_eq_some_iff.1 hy).1
        have hlt2 : i < args.size + vs.size := by omega
        simp only [Array.getD, hlt, dif_pos] at this
        simp [Array.getD, hlt2, Array.getElem_append, hi]
        exact this
    · rintro e w' ⟨γ', v, rfl, hI, hv, hE, hS⟩
      exact hK γ' _ w' ((hr.mono hE hI).put o.dst hv) (by rw [St.put_L]; exact hE) hS

/-! ### a function's results, and what is left of its memory -/
def resOne (P : Program) (s : St) : ResultVar → Option AV
  | .tmp t => some (s.t.getD t .junk)
  | .cell a t => loadA P s t (s.t.getD a .junk)

def resA (P : Program) (fn : Func) (s : St) : Option AV :=
  match fn.results.toList with
  | [r] => resOne P s r
  | rs => (rs.mapM (resOne P s)).map .tup

def resRun (tmps : Array Value) : ResultVar → Sem Value
  | .tmp t => pure (tmps.getD t undef)
  | .cell ad t => do loadVar t (← asAddr (tmps.getD ad undef))

theorem results_eq (fn : Func) (tmps : Array Value) : results fn tmps = (do
    let vs ← fn.results.mapM (resRun tmps)
    pure (if h : vs.size = 1 then vs[0] else .tuple vs)) := rfl

theorem run_resOne {P : Program} {γ : Nat → Gh} {s : St} {a : Act} {w : World} (hr : Rel γ s a w) {r : ResultVar} {x : AV} (h : resOne P s r = some x) :
    ∃ v, (resRun a.tmps r).run P w = .ok v w ∧ RV γ s.L x v := by
  cases r with
  | tmp t =>
    simp only [resOne, Option.some.injEq] at h
    subst h
    refine ⟨_, rfl, ?_⟩
    have := hr.ev (.tmp t)
    simpa [St.ev, Act.eval] using this
  | cell ad t =>
    simp only [resOne] at h
    have hv := hr.ev (.tmp ad)
    simp only [St.ev, Act.eval] at hv
    obtain ⟨u, hu, hx⟩ := loadA_run hr.inv hv h
    refine ⟨u, ?_, hx⟩
    simp only [resRun]
    generalize a.tmps.getD ad undef = v at *
    cases v with
    | pointer p =>
      cases p with
      | some p => simpa [Instr.loadAt, Instr.sureAddr, asAddr] using hu
      | none => simp [Instr.loadAt, Instr.sureAddr, stuck, Sem.run] at hu
    | _ => simp [Instr.loadAt, Instr.sureAddr, stuck, Sem.run] at hu

end Go.Proofs.Ytobdpkkmkbafbaa.K
/-
  A logic of values for Go's functions (part 10): from a body to a contract; contracts over values alone; how they are used where a caller owns memory.
-/
namespace Go.Proofs.Ytobdpkkmkbafbaa.K
set_option linter.unusedVariables false
set_option linter.unusedSimpArgs false
open Go Go.RowKit

theorem run_results {P : Program} {γ : Nat → Gh} {s : St} {a : Act} {w : World} (hr : Rel γ s a w) {fn : Func} {x : AV} (h : resA P fn s = some x) :
    ∃ v, (results fn a.tmps).run P w = .ok v w ∧ RV γ s.L x v := by
  have hm : ∀ (rs : List ResultVar) (xs : List AV), rs.mapM (resOne P s) = some xs →
      ∃ vs : List Value, (rs.mapM (resRun a.tmps)).run P w = .ok vs w ∧ vs.length = xs.length ∧
        ∀ (i : Nat) x, xs[i]? = some x → RV γ s.L x (vs.getD i undef) := by
    intro rs
    induction rs with
    | nil => intro xs h; simp at h; subst h; exact ⟨[], by simp, rfl, fun i x hx => by simp at hx⟩
    | cons r rs ih =>
      intro xs h
      simp only [List.mapM_cons, Option.bind_eq_bind, Option.bind_eq_some_iff, Option.pure_def, Option.some.injEq] at h
      obtain ⟨y, hy, ys, hys, rfl⟩ := h
      obtain ⟨u, hu, hru⟩ := run_resOne hr hy
      obtain ⟨vs, hvs, hl, hall⟩ := ih ys hys
      refine ⟨u :: vs, ?_, by simp [hl], fun i x hx => ?_⟩
      · simp only [List.mapM_cons, Sem.run_bind]
        rw [hu]
        simp only [Result.andThen_ok, hvs, Sem.run_pure]
      · cases i with
        | zero => simp at hx; subst hx; simpa using hru
        | succ i => simp at hx; simpa using hall i x hx
  unfold resA at h
  rw [results_eq, Array.mapM_eq_mapM_toList]
  simp only [map_eq_pure_bind]
  split at h
  · rename_i r hrs
    obtain ⟨u, hu, hru⟩ := run_resOne hr h
    obtain ⟨vs, hvs, hl, hall⟩ := hm [r] [x] (by simp [h])
    simp only [hrs, Sem.run_bind, hvs, Result.andThen_ok, Sem.run_pure]
    match vs, hl with
    | [v], _ =>
      refine ⟨v, by simp, ?_⟩
      simpa using hall 0 x rfl
  · rename_i hne
    obtain ⟨xs, hxs, rfl⟩ := Option.map_eq_some_iff.1 h
    obtain ⟨vs, hvs, hl, hall⟩ := hm _ _ hxs
    simp only [Sem.run_bind, hvs, Result.andThen_ok, Sem.run_pure]
    have hlen : fn.results.toList.length = vs.length := by
      rw [hl]
      have : ∀ (rs : List ResultVar) (xs : List AV), rs.mapM (resOne P s) = some xs → rs.length = xs.length := by
        intro rs
        induction rs with
        | nil => intro xs h; simp at h; subst h; rfl
        | cons r rs ih =>
          intro xs h
          simp only [List.mapM_cons, Option.bind_eq_bind, Option.bind_eq_some_iff, Option.pure_def, Option.some.injEq] at h
          obtain ⟨y, hy, ys, hys, rfl⟩ := h
          simp [ih ys hys]
      exact this _ _ hxs
    have hn1 : ¬ vs.length = 1 := by
      intro h1
      rw [h1] at hlen
      obtain ⟨r, hr1⟩ := List.length_eq_one_iff.1 hlen
      exact hne r hr1
    refine ⟨.tuple vs.toArray, by simp [hn1], .tup _ _ (by simpa using hl) (fun i x hx => ?_)⟩
    have := hall i x hx
    simpa [Array.getD_eq_getD_getElem?, List.getD_eq_getElem?_getD] using this

/-- How a body's end is told: the results, and a contract's memory in place of the call's own. -/
def Fin (L : List AObj) (L1 : List AObj) (r1 : AV) (L' : List AObj) (r : AV) : Prop :=
  ∀ γ0 w0 γ w v, Inv γ0 L w0 → Inv γ L1 w → RV γ L1 r1 v → Ext γ0 L γ L1 → Stp γ0 w0 γ w → ∃ γ', Inv γ' L' w ∧ RV γ' L' r v ∧ Ext γ0 L γ' L' ∧ Stp γ0 w0 γ' w

def St.init (fn : Func) (args : List AV) (L : List AObj) : St := ⟨args ++ List.replicate (fn.ntmps - args.length) .junk, L⟩

def FnEnd (P : Program) (fn : Func) (L : List AObj) (r : AV) (L' : List AObj) : Exit → St → Prop
  | .normal, s | .ret, s => ∃ r1, resA P fn s = some r1 ∧ Fin L s.L r1 L' r
  | _, _ => False

/-- What is known, without the blocks of deferred calls. -/
def sift (γ : Nat → Gh) : Nat → Gh := fun b => match γ b with | .ro (.deferred _) => .out | x => x

theorem sift_ow {γ : Nat → Gh} {b id : Nat} {p : Pth} {c : Nat} : sift γ b = .ow id p c ↔ γ b = .ow id p c := by
  unfold sift
  split <;> rename_i h <;> simp_all
theorem sift_keep {γ : Nat → Gh} {b : Nat} {o : Obj} (h : γ b = .ro o) (hn : ∀ d, o ≠ .deferred d) : sift γ b = .ro o := by
  unfold sift
  rw [h]
  cases o <;> first | rfl | exact absurd rfl (hn _)
theorem sift_ro {γ : Nat → Gh} {b : Nat} {o : Obj} (h : sift γ b = .ro o) : γ b = .ro o ∧ ∀ d, o ≠ .deferred d := by
  unfold sift at h
  split at h
  · cases h
  · rename_i hn
    exact ⟨h, fun d e => hn d (by rw [h, e])⟩
theorem sift_out {γ : Nat → Gh} {b : Nat} (h : γ b = .out) : sift γ b = .out := by simp [sift, h]
theorem sift_drop {γ : Nat → Gh} {b : Nat} {d : Option (List Deferred)} (h : γ b = .ro (.deferred d)) : sift γ b = .out := by simp [sift, h]

/-- Two tellings of memory that agree on known cells and on what is owned. -/
structure Agr (γ γ' : Nat → Gh) : Prop where
  ro : ∀ b o, γ b = .ro o → (∀ d, o ≠ .deferred d) → γ' b = .ro o
  ow : ∀ b id p c, γ' b = .ow id p c ↔ γ b = .ow id p c

theorem Agr.roCell {γ γ' : Nat → Gh} (h : Agr γ γ') {A : Option Addr} {k : Nat} {v : Value} (hr : roCell γ A k = some v) : K.roCell γ' A k = some v := by
  unfold K.roCell at *
  split at hr
  · rename_i b o
    split at hr
    · rename_i arr T fr hb
      simp only [h.ro _ _ hb (fun d e => by cases e)]
      exact hr
    · cases hr
  · cases hr

theorem Agr.refOk {γ γ' : Nat → Gh} (A : Agr γ γ') {L : List AObj} {id : Nat} {p : Pth} {g n : Nat} {v : Value} (h : RefOk γ L id p g n v) : RefOk γ' L id p g n v := by
  unfold RefOk at *
  split at h
  · obtain ⟨h1, h2⟩ := h
    refine ⟨h1, fun e => ?_⟩
    obtain ⟨es', he, hn, hv⟩ := h2 e
    refine ⟨es', he, hn, ?_⟩
    rcases hv with ⟨h1, h2, h3⟩ | ⟨b, c, h1, h2⟩
    · exact .inl ⟨h1, h2, fun b c hb => h3 b c ((A.ow _ _ _ _).1 hb)⟩
    · exact .inr ⟨b, c, h1, (A.ow _ _ _ _).2 h2⟩
  · exact h
  · exact h

theorem Agr.eptrOk {γ γ' : Nat → Gh} (A : Agr γ γ') {L : List AObj} {id : Nat} {p : Pth} {g i off : Nat} {v : Value} (h : EptrOk γ L id p g i off v) : EptrOk γ' L id p g i off v := by
  unfold EptrOk at *
  split at h
  · obtain ⟨h1, h2⟩ := h
    refine ⟨h1, fun e => ?_⟩
    obtain ⟨es', e1, b, c, sz, h3, h4, h5, h6, h7, h8⟩ := h2 e
    exact ⟨es', e1, b, c, sz, h3, h4, h5, h6, h7, (A.ow _ _ _ _).2 h8⟩
  · exact h
  · exact h

theorem RV.agr {γ γ' : Nat → Gh} (A : Agr γ γ') {L : List AObj} {x : AV} {v : Value} (h : RV γ L x v) : RV γ' L x v := by
  induction h with
  | int k n => exact .int k n
  | bool b => exact .bool b
  | str s => exact .str s
  | lit v h => exact .lit v h
  | sl own es A' n c sz vals hn hc hsz h2 h1 h3 ih => exact .sl own es A' n c sz vals hn hc hsz (fun i e j x a b => A.roCell (h2 i e j x a b)) h1 ih
  | agg cs vs hn h1 h ih => exact .agg cs vs hn h1 ih
  | tup cs vs hn h ih => exact .tup cs vs hn ih
  | ref id p g n v h h1 => exact .ref id p g n v (A.refOk h) h1
  | ptr id off b c T cs hL h => exact .ptr id off b c T cs hL ((A.ow _ _ _ _).2 h)
  | eptr id p g i off v h h1 => exact .eptr id p g i off v (A.eptrOk h) h1
  | rptr x off b o vals h2 h1 h3 ih => exact .rptr x off b o vals (fun j y a => A.roCell (h2 j y a)) h1 ih
  | fn f cs vs hn h ih => exact .fn f cs vs hn ih
  | map id b c kt vt es hL h => exact .map id b c kt vt es hL ((A.ow _ _ _ _).2 h)
  | yld l r ts h hts ih => exact .yld l r ts (A.ro _ _ h (fun d e => by cases e)) ih
  | junk v => exact .junk v

theorem CV.agr {γ γ' : Nat → Gh} (A : Agr γ γ') {L : List AObj} {id : Nat} {q : Pth} {x : AV} {v : Value} (h : CV γ L id q x v) : CV γ' L id q x v := by
  unfold CV at *
  split at h
  · rcases h with ⟨h1, h2, h3⟩ | ⟨b, c, h1, h2⟩
    · exact .inl ⟨h1, h2, fun b c hb => h3 b c ((A.ow _ _ _ _).1 hb)⟩
    · exact .inr ⟨b, c, h1, (A.ow _ _ _ _).2 h2⟩
  · exact RV.agr A h

theorem BlockRep.agr {γ γ' : Nat → Gh} (A : Agr γ γ') {L : List AObj} {o : Obj} {id : Nat} {p : Pth} {c : Nat} (h : BlockRep γ L o id p c) : BlockRep γ' L o id p c := by
  unfold BlockRep at *
  split at h
  · obtain ⟨h1, arr, h2, h3, h4⟩ := h
    refine ⟨h1, arr, h2, h3, fun j x hx => ?_⟩
    obtain ⟨v, a, b, c⟩ := h4 j x hx
    exact ⟨v, a, b, c.agr A⟩
  · obtain ⟨es', s, arr, T', h1, h2, h3, h4, h5, h6, h7⟩ := h
    refine ⟨es', s, arr, T', h1, h2, h3, h4, h5, h6, h7.1, fun i e j x hi hj => ?_⟩
    obtain ⟨v, a, b, c⟩ := h7.2 i e j x hi hj
    exact ⟨v, a, b, c.agr A⟩
  · exact h
  · exact h

theorem BlockRep.cellsOrMap {γ : Nat → Gh} {L : List AObj} {o : Obj} {id : Nat} {p : Pth} {c : Nat} (h : BlockRep γ L o id p c) : ∀ x, o ≠ .deferred x := by
  intro x e
  subst e
  unfold BlockRep at h
  split at h
  · obtain ⟨_, _, h, _⟩ := h; cases h
  · obtain ⟨_, _, _, _, _, h, _⟩ := h; cases h
  · obtain ⟨_, _, _, h, _⟩ := h; cases h
  · exact h

theorem agr_sift (γ : Nat → Gh) : Agr γ (sift γ) := ⟨fun _ _ h hn => sift_keep h hn, fun _ _ _ _ => sift_ow⟩

/-- The memory, where blocks that are no cells have turned. -/
theorem Inv.sift {γ : Nat → Gh} {L : List AObj} {w w' : World} (h : Inv γ L w) (hs : ∀ b : Nat, (∀ x, w.heap[b]? ≠ some (Obj.deferred x)) → w'.heap[b]? = w.heap[b]?) : Inv (sift γ) L w' := by
  refine ⟨fun b o hb => ?_, fun b id p c hb => ?_, fun b b' id p c c' h1 h2 => h.inj b b' id p c c' (sift_ow.1 h1) (sift_ow.1 h2), fun id T cs hL => ?_, fun id kt vt es hL => ?_⟩
  · obtain ⟨h1, hn⟩ := sift_ro hb
    have := h.ro b _ h1
    rw [hs b (fun x e => by rw [this] at e; cases e; exact hn _ rfl), this]
  · obtain ⟨o, ho, hr⟩ := h.ow b id p c (sift_ow.1 hb)
    refine ⟨o, ?_, hr.agr (agr_sift γ)⟩
    rw [hs b (fun x e => by rw [ho] at e; cases e; exact hr.cellsOrMap x rfl), ho]
  · obtain ⟨b, c, hb⟩ := h.box id T cs hL; exact ⟨b, c, sift_ow.2 hb⟩
  · obtain ⟨b, c, hb⟩ := h.map id kt vt es hL; exact ⟨b, c, sift_ow.2 hb⟩

/-- The blocks of the marks, shut. -/
def shut (w : World) (rs : List Nat) : World := rs.foldl (fun w r => w.putObj r (.deferred none)) w

theorem shut_heap : ∀ (rs : List Nat) (w : World) (b : Nat), b ∉ rs → (shut w rs).heap[b]? = w.heap[b]?
  | [], w, b, _ => rfl
  | r :: rs, w, b, h => by
    simp only [List.mem_cons, not_or] at h
    show (shut _ rs).heap[b]? = _
    rw [shut_heap rs _ b h.2, World.putObj_heap_other h.1]
theorem shut_rest : ∀ (rs : List Nat) (w : World), (shut w rs).os = w.os ∧ (shut w rs).tape = w.tape ∧ (shut w rs).output = w.output ∧ (shut w rs).heap.size = w.heap.size
  | [], w => ⟨rfl, rfl, rfl, rfl⟩
  | r :: rs, w => by
    obtain ⟨h1, h2, h3, h4⟩ := shut_rest rs (w.putObj r (.deferred none))
    exact ⟨h1, h2, h3, h4.trans World.putObj_size⟩

theorem leaves_marks {P : Program} {fn : Func} {tmps : Array Value} {R : Ending → World → Prop} : ∀ (rs : List Nat) (w : World), rs.Nodup → (∀ r ∈ rs, w.heap[r]? = some (.deferred (some []))) →
    (∃ v, (results fn tmps).run P (shut w rs) = .ok v (shut w rs) ∧ R (.returned v) (shut w rs)) →
    LeavesInM (FW none) 0 P fn tmps R (rs.map (fun r => ({ target := .collected r, args := #[] } : Deferred))) .returning w
  | [], w, _, _, h => h
  | r :: rs, w, hn, hw, h => by
    rw [List.nodup_cons] at hn
    refine ⟨by simp, .inl ⟨r, w.putObj r (.deferred none), rfl, run_takeDeferred (hw r (by simp)), leaves_marks rs _ hn.2 (fun r' hr' => ?_) h⟩⟩
    have hne : r' ≠ r := fun e => hn.1 (e ▸ hr')
    rw [World.putObj_heap_other hne]
    exact hw r' (by simp [hr'])

theorem Ct.intro {P : Program} {f : FuncId} {fn : Func} {c : Code} {args : List AV} {L L' : List AObj} {r : AV} (hf : P.funcs[f]? = some fn) (hb : fn.body = some c)
    (h : AWp P c (FnEnd P fn L r L') (St.init fn args L)) : Ct P f args L r L' := by
  intro γ w vs hI ha
  refine callsIn_FW' (ro := none) (n := 0) (callsIn_of_wp_marks (F := FW none) (n := 0) hf hb trivial ?_)
  have hr : Rel (sift γ) (St.init fn args L) { tmps := vs ++ Array.replicate (fn.ntmps - vs.size) undef, defers := [] } w := by
    refine ⟨.nil, by simp [St.init, ha.1], fun i x hx => ?_, hI.sift fun b _ => rfl⟩
    simp only [St.init] at hx
    by_cases hi : i < args.length
    · rw [List.getElem?_append_left hi] at hx
      have := (ha.2 i x hx).agr (agr_sift γ)
      have hlt : i < vs.size := by rw [ha.1]; exact hi
      have hlt2 : i < vs.size + (fn.ntmps - vs.size) := by omega
      simp only [Array.getD, hlt, dif_pos] at this
      simp only [Array.getD, Array.size_append, Array.size_replicate, hlt2, dif_pos]
      simp only [Array.getElem_append, hlt, dif_pos, Array.getInternal_eq_getElem]
      exact this
    · rw [List.getElem?_append_right (by omega)] at hx
      rw [List.getElem?_replicate] at hx
      split at hx <;> cases hx
      exact .junk _
  refine wpIn_mono (h none (sift γ) _ w (.inl rfl) hr) ?_
  rintro e a' w' ⟨γ', s', h1, h2, h3, h4⟩
  have key : (∃ r1, resA P fn s' = some r1 ∧ Fin L s'.L r1 L' r) → LeavesInM (FW none) 0 P fn a'.tmps
      (fun e w' => ∃ γ' v, e = Ending.returned v ∧ Inv γ' L' w' ∧ RV γ' L' r v ∧ Ext γ L γ' L' ∧ Stp γ w γ' w') a'.defers .returning w' := by
    rintro ⟨r1, hr1, hfin⟩
    obtain ⟨rs, hnd, hds, hrs⟩ := h1.defers
    have hk : ∀ r ∈ rs, w'.heap[r]? = some (.deferred (some [])) := fun r hr => h1.inv.ro _ _ (hrs r hr)
    rw [hds]
    refine leaves_marks rs w' hnd hk ?_
    have hsame : ∀ b : Nat, (∀ x, w'.heap[b]? ≠ some (Obj.deferred x)) → (shut w' rs).heap[b]? = w'.heap[b]? := fun b hb => shut_heap rs w' b fun hm => hb _ (hk b hm)
    have hI2 : Inv (sift γ') s'.L (shut w' rs) := h1.inv.sift hsame
    have hr2 : Rel (sift γ') s' { a' with defers := [] } (shut w' rs) := ⟨.nil, h1.size, fun i x hx => (h1.tmps i x hx).agr (agr_sift γ'), hI2⟩
    obtain ⟨v, hv, hrv⟩ := run_results hr2 hr1
    have hE2 : Ext (sift γ) L (sift γ') s'.L := by
      refine ⟨fun b o hb => ?_, h2.ob, fun b id p c hb => ?_, fun id T sz g es T' sz' es' hL hL' p e1 he b c hb => h2.nil id T sz g es T' sz' es' hL hL' p e1 he b c (sift_ow.1 hb)⟩
      · exact sift_keep (h2.ro b _ hb) (sift_ro hb).2
      · exact (h2.lab b id p c hb).imp (fun k => sift_ow.2 k) (fun k => k)
    obtain ⟨q1, q2, q3, q4⟩ := shut_rest rs w'
    have hout : ∀ b : Nat, b < w.heap.size → sift γ b = .out → b ∉ rs ∧ γ' b = .out ∧ w'.heap[b]? = w.heap[b]? := fun b hb ho => by
      obtain ⟨k1, k2⟩ := h3.out b hb ho
      exact ⟨fun hm => (by rw [hrs b hm] at k1; cases k1), k1, k2⟩
    have hS2 : Stp (sift γ) w (sift γ') (shut w' rs) := by
      refine ⟨q1.trans h3.os, q2.trans h3.tape, q3.trans h3.output, by rw [q4]; exact h3.size, hE2.ro, fun b hb ho => ?_⟩
      obtain ⟨k0, k1, k2⟩ := hout b hb ho
      exact ⟨sift_out k1, (shut_heap rs w' b k0).trans k2⟩
    obtain ⟨γ2, k1, k2, k3, k4⟩ := hfin (sift γ) w (sift γ') (shut w' rs) v (hI.sift fun b _ => rfl) hI2 hrv hE2 hS2
    refine ⟨v, hv, fun b => (match γ b with | .ro (.deferred d) => .ro (.deferred d) | _ => γ2 b), v, rfl, ?_⟩
    generalize hγ3 : (fun b => (match γ b with | .ro (.deferred d) => Gh.ro (.deferred d) | _ => γ2 b)) = γ3
    have c1 : ∀ b : Nat, (∃ d, γ b = .ro (.deferred d) ∧ γ3 b = .ro (.deferred d) ∧ γ2 b = .out ∧ (shut w' rs).heap[b]? = some (Obj.deferred d)) ∨ ((∀ o, γ b = .ro o → ∀ d, o ≠ .deferred d) ∧ γ3 b = γ2 b) := by
      intro b
      have e3 : γ3 b = (match γ b with | .ro (.deferred d) => Gh.ro (.deferred d) | _ => γ2 b) := by rw [← hγ3]
      cases hg : γ b with
      | out => exact .inr ⟨fun o h => (by cases h), by rw [e3, hg]⟩
      | ow id p c => exact .inr ⟨fun o h => (by cases h), by rw [e3, hg]⟩
      | ro o =>
        by_cases hc : ∃ d, o = .deferred d
        · obtain ⟨d, rfl⟩ := hc
          have hh := hI.ro b _ hg
          have hlt : b < w.heap.size := (Array.getElem?_eq_some_iff.1 hh).1
          obtain ⟨m1, m2⟩ := k4.out b hlt (sift_drop hg)
          exact .inl ⟨d, rfl, by rw [e3, hg], m1, m2.trans hh⟩
        · have hn : ∀ d, o ≠ .deferred d := fun d e => hc ⟨d, e⟩
          refine .inr ⟨fun o' h => (by cases h; exact hn), ?_⟩
          rw [e3, hg]
          cases o <;> first | rfl | exact absurd rfl (hn _)
    have hA : Agr γ2 γ3 := by
      refine ⟨fun b o hb hn => ?_, fun b id p c => ?_⟩
      · rcases c1 b with ⟨d, _, _, m, _⟩ | ⟨_, m⟩
        · rw [hb] at m; cases m
        · rw [m, hb]
      · rcases c1 b with ⟨d, _, m1, m, _⟩ | ⟨_, m⟩
        · rw [m1, m]; exact ⟨fun h => (by cases h), fun h => (by cases h)⟩
        · rw [m]
    refine ⟨?_, k2.agr hA, ?_, ?_⟩
    · refine ⟨fun b o hb => ?_, fun b id p c hb => ?_, fun b b' id p c c' h1 h2 => k1.inj b b' id p c c' ((hA.ow _ _ _ _).1 h1) ((hA.ow _ _ _ _).1 h2), fun id T cs hL => ?_, fun id kt vt es hL => ?_⟩
      · rcases c1 b with ⟨d, _, m1, _, m2⟩ | ⟨_, m⟩
        · rw [m1] at hb; cases hb; exact m2
        · rw [m] at hb; exact k1.ro b o hb
      · obtain ⟨o, ho, hr⟩ := k1.ow b id p c ((hA.ow _ _ _ _).1 hb)
        exact ⟨o, ho, hr.agr hA⟩
      · obtain ⟨b, c, hb⟩ := k1.box id T cs hL; exact ⟨b, c, (hA.ow _ _ _ _).2 hb⟩
      · obtain ⟨b, c, hb⟩ := k1.map id kt vt es hL; exact ⟨b, c, (hA.ow _ _ _ _).2 hb⟩
    · have hro : ∀ b o, γ b = .ro o → γ3 b = .ro o := fun b o hb => by
        rcases c1 b with ⟨d, h1, m1, _, _⟩ | ⟨hc, m⟩
        · rw [hb] at h1; cases h1; exact m1
        · rw [m]; exact k3.ro b _ (sift_keep hb (hc o hb))
      refine ⟨hro, k3.ob, fun b id p c hb => ?_, fun id T sz g es T' sz' es' hL hL' p e1 he b c hb => sift_ow.1 (k3.nil id T sz g es T' sz' es' hL hL' p e1 he b c ((hA.ow _ _ _ _).1 hb))⟩
      exact (k3.lab b id p c (sift_ow.2 hb)).imp (fun k => (hA.ow _ _ _ _).2 k) (fun k => k)
    · refine ⟨k4.os, k4.tape, k4.output, k4.size, fun b o hb => ?_, fun b hb ho => ?_⟩
      · rcases c1 b with ⟨d, h1, m1, _, _⟩ | ⟨hc, m⟩
        · rw [hb] at h1; cases h1; exact m1
        · rw [m]; exact k3.ro b _ (sift_keep hb (hc o hb))
      · obtain ⟨m1, m2⟩ := k4.out b hb (sift_out ho)
        rcases c1 b with ⟨d, h1, _, _, _⟩ | ⟨_, m⟩
        · rw [ho] at h1; cases h1
        · exact ⟨by rw [m, m1], m2⟩
  cases e with
  | normal => exact key h4
  | ret => exact key h4
  | _ => exact h4.elim

/-! ### values alone -/
/-- A value that leads to nothing that a call owns. -/
def Pur (x : AV) : Prop := ∀ γ L γ' L' v, (∀ b o, γ b = .ro o → γ' b = .ro o) → RV γ L x v → RV γ' L' x v

theorem Pur.int (k : IntKind) (n : Int) : Pur (.int k n) := fun _ _ _ _ _ _ h => by cases h; exact .int _ _
theorem Pur.bool (b : Bool) : Pur (.bool b) := fun _ _ _ _ _ _ h => by cases h; exact .bool _
theorem Pur.str (s : ByteArray) : Pur (.str s) := fun _ _ _ _ _ _ h => by cases h; exact .str _
theorem Pur.lit (v : Value) : Pur (.lit v) := fun _ _ _ _ _ _ h => by cases h; exact .lit _ (by assumption)
theorem Pur.junk : Pur .junk := fun _ _ _ _ _ _ _ => .junk _
theorem Pur.agg {cs : List AV} (h : ∀ x ∈ cs, Pur x) : Pur (.agg cs) := fun γ L γ' L' v hro hv => by
  cases hv with
  | agg _ vs hn h1 hall => exact .agg _ _ hn h1 fun i x hx => h x (List.mem_of_getElem? hx) _ _ _ _ _ hro (hall i x hx)
theorem Pur.tup {cs : List AV} (h : ∀ x ∈ cs, Pur x) : Pur (.tup cs) := fun γ L γ' L' v hro hv => by
  cases hv with
  | tup _ vs hn hall => exact .tup _ _ hn fun i x hx => h x (List.mem_of_getElem? hx) _ _ _ _ _ hro (hall i x hx)
theorem Pur.fn {f : FuncId} {cs : List AV} (h : ∀ x ∈ cs, Pur x) : Pur (.fn f cs) := fun γ L γ' L' v hro hv => by
  cases hv with
  | fn _ _ vs hn hall => exact .fn _ _ _ hn fun i x hx => h x (List.mem_of_getElem? hx) _ _ _ _ _ hro (hall i x hx)
theorem Pur.sl {o : Bool} {es : List AV} (h : ∀ e ∈ es, ∀ x ∈ e.cells, Pur x) : Pur (.sl o es) := fun γ L γ' L' v hro hv => by
  cases hv with
  | sl _ _ A n c sz vals hn hc hsz h2 h1 h3 =>
    exact .sl _ _ A n c sz vals hn hc hsz (fun i e j x a b => roCell_mono hro (h2 i e j x a b)) h1
      fun i e j x a b => h e (List.mem_of_getElem? a) x (List.mem_of_getElem? b) _ _ _ _ _ hro (h3 i e j x a b)
theorem Pur.rptr {c : AV} {off : Nat} (h : ∀ x ∈ c.cells, Pur x) : Pur (.rptr c off) := fun γ L γ' L' v hro hv => by
  cases hv with
  | rptr _ _ b o vals h2 h1 h3 => exact .rptr _ _ b o vals (fun j y a => roCell_mono hro (h2 j y a)) h1 fun j y a => h y (List.mem_of_getElem? a) _ _ _ _ _ hro (h3 j y a)

mutual
def pureB : AV → Bool
  | .int _ _ => true
  | .bool _ => true
  | .str _ => true
  | .lit _ => true
  | .junk => true
  | .sl _ es => pureL es
  | .agg cs => pureL cs
  | .tup cs => pureL cs
  | .fn _ cs => pureL cs
  | .rptr c _ => pureB c
  | _ => false
def pureL : List AV → Bool
  | [] => true
  | x :: xs => pureB x && pureL xs
end

theorem pureL_mem {xs : List AV} : pureL xs = true ↔ ∀ x ∈ xs, pureB x = true := by
  induction xs with
  | nil => simp [pureL]
  | cons x xs ih => simp [pureL, ih]

theorem pureB_cells {x c : AV} (h : pureB x = true) (hc : c ∈ x.cells) : pureB c = true := by
  cases x <;> first
    | (simp only [AV.cells, List.mem_singleton] at hc; subst hc; exact h)
    | (simp only [AV.cells] at hc; simp only [pureB] at h; exact pureL_mem.1 h c hc)

theorem pureB_sound {γ γ' : Nat → Gh} {L L' : List AObj} (hro : ∀ b o, γ b = .ro o → γ' b = .ro o) {x : AV} {v : Value} (hv : RV γ L x v) : pureB x = true → RV γ' L' x v := by
  induction hv with
  | int k n => intro _; exact .int k n
  | bool b => intro _; exact .bool b
  | str s => intro _; exact .str s
  | lit v h => intro _; exact .lit v h
  | sl own es A n c sz vals hn hc hsz h2 h1 h3 ih =>
    intro hp
    simp only [pureB] at hp
    exact .sl own es A n c sz vals hn hc hsz (fun i e j x a b => roCell_mono hro (h2 i e j x a b)) h1
      (fun i e j x a b => ih i e j x a b (pureB_cells (pureL_mem.1 hp e (List.mem_of_getElem? a)) (List.mem_of_getElem? b)))
  | agg cs vs hn h1 h ih => intro hp; simp only [pureB] at hp; exact .agg cs vs hn h1 (fun i x hx => ih i x hx (pureL_mem.1 hp x (List.mem_of_getElem? hx)))
  | tup cs vs hn h ih => intro hp; simp only [pureB] at hp; exact .tup cs vs hn (fun i x hx => ih i x hx (pureL_mem.1 hp x (List.mem_of_getElem? hx)))
  | ref id p g n v h h1 => intro hp; simp [pureB] at hp
  | ptr id off b c T cs hL' h => intro hp; simp [pureB] at hp
  | eptr id p g i off v h h1 => intro hp; simp [pureB] at hp
  | rptr x off b o vals h2 h1 h3 ih =>
    intro hp; simp only [pureB] at hp
    exact .rptr x off b o vals (fun j y a => roCell_mono hro (h2 j y a)) h1 (fun j y a => ih j y a (pureB_cells hp (List.mem_of_getElem? a)))
  | fn f cs vs hn h ih => intro hp; simp only [pureB] at hp; exact .fn f cs vs hn (fun i x hx => ih i x hx (pureL_mem.1 hp x (List.mem_of_getElem? hx)))
  | map id b c kt vt es hL' h => intro hp; simp [pureB] at hp
  | yld l r ts h hts ih => intro hp; simp [pureB] at hp
  | junk v => intro _; exact .junk v

theorem Pur.of {x : AV} (h : pureB x = true) : Pur x := fun _ _ _ _ _ hro hv => pureB_sound hro hv h
theorem Pur.ofL {xs : List AV} (h : pureL xs = true) : ∀ x ∈ xs, Pur x := fun x hx => .of (pureL_mem.1 h x hx)

/-- What a call over values alone sees of the memory: what the caller owns is not its own. -/
def hide (γ : Nat → Gh) : Nat → Gh := fun b => match γ b with | .ow _ _ _ => .out | x => x

/-- A value without anything owned, told where nothing is owned, is so everywhere. -/
theorem RV.lift {γ γ' : Nat → Gh} {L' : List AObj} {x : AV} {v : Value} (hro : ∀ b o, γ b = .ro o → γ' b = .ro o) (h : RV γ [] x v) : RV γ' L' x v := by
  generalize hL : ([] : List AObj) = L at h
  induction h with
  | int k n => exact .int k n
  | bool b => exact .bool b
  | str s => exact .str s
  | lit v h => exact .lit v h
  | sl own es A n c sz vals hn hc hsz h2 h1 h3 ih => exact .sl own es A n c sz vals hn hc hsz (fun i e j x a b => roCell_mono hro (h2 i e j x a b)) h1 (fun i e j x a b => ih i e j x a b)
  | agg cs vs hn h1 h ih => exact .agg cs vs hn h1 (fun i x hx => ih i x hx)
  | tup cs vs hn h ih => exact .tup cs vs hn (fun i x hx => ih i x hx)
  | ref id p g n v h h1 => subst hL; simp [RefOk] at h
  | ptr id off b c T cs hL' h => subst hL; simp at hL'
  | eptr id p g i off v h h1 => subst hL; simp [EptrOk] at h
  | rptr x off b o vals h2 h1 h3 ih => exact .rptr x off b o vals (fun j y a => roCell_mono hro (h2 j y a)) h1 (fun j y a => ih j y a)
  | fn f cs vs hn h ih => exact .fn f cs vs hn (fun i x hx => ih i x hx)
  | map id b c kt vt es hL' h => subst hL; simp at hL'
  | yld l r ts h hts ih => exact .yld l r ts (hro _ _ h) (fun i x hx => ih i x hx)
  | junk v => exact .junk v

/-- A contract over values alone, used where the caller owns memory. -/
theorem Ct.frame {P : Program} {f : FuncId} {args : List AV} {r : AV} (L : List AObj) (h : Ct P f args [] r []) (hp : ∀ x ∈ args, Pur x) : Ct P f args L r L := by
  intro γ w vs hI ha
  have hro : ∀ b o, γ b = .ro o → hide γ b = .ro o := fun b o hb => by simp [hide, hb]
  have hI0 : Inv (hide γ) [] w := by
    refine ⟨fun b o hb => ?_, fun b id p c hb => ?_, fun b b' id p c c' hb => ?_, fun id T cs hL => by simp at hL, fun id kt vt es hL => by simp at hL⟩
    · unfold hide at hb
      split at hb
      · cases hb
      · exact hI.ro b o hb
    · unfold hide at hb
      split at hb
      · cases hb
      · rename_i hne; exact (hne _ _ _ hb).elim
    · unfold hide at hb
      split at hb
      · cases hb
      · rename_i hne; exact (hne _ _ _ hb).elim
  refine (h (hide γ) w vs hI0 ⟨ha.1, fun i x hx => hp x (List.mem_of_getElem? hx) _ _ _ _ _ hro (ha.2 i x hx)⟩).mono ?_
  rintro e w' ⟨γ1, v, rfl, hI1, hv, _, hS⟩
  have hlt : ∀ {b id p c}, γ b = .ow id p c → b < w.heap.size := fun hb => by
    obtain ⟨o, ho, _⟩ := hI.ow _ _ _ _ hb
    exact (Array.getElem?_eq_some_iff.1 ho).1
  let γ' : Nat → Gh := fun b => match γ b with | .ow id p c => .ow id p c | _ => γ1 b
  have h1 : ∀ {b id p c}, γ b = .ow id p c → γ' b = .ow id p c ∧ γ1 b = .out ∧ w'.heap[b]? = w.heap[b]? := by
    intro b id p c hb
    have := hS.out b (hlt hb) (by simp [hide, hb])
    exact ⟨by simp [γ', hb], this.1, this.2⟩
  have h2 : ∀ {b}, (∀ id p c, γ b ≠ .ow id p c) → γ' b = γ1 b := by
    intro b hb
    cases hg : γ b with
    | ow id p c => exact absurd hg (hb id p c)
    | out => simp [γ', hg]
    | ro o => simp [γ', hg]
  have hno1 : ∀ b id p c, γ1 b ≠ .ow id p c := by
    intro b id p c hb
    have := hI1.idlt hb
    simp at this
  have h3 : ∀ {b id p c}, γ' b = .ow id p c → γ b = .ow id p c := by
    intro b id p c hb
    by_cases hx : ∃ id p c, γ b = .ow id p c
    · obtain ⟨id', p', c', he⟩ := hx
      rw [(h1 he).1] at hb; cases hb; exact he
    · rw [h2 (fun id p c he => hx ⟨id, p, c, he⟩)] at hb
      exact absurd hb (hno1 _ _ _ _)
  have h4 : ∀ b o, γ' b = .ro o ↔ (γ1 b = .ro o ∧ ∀ id p c, γ b ≠ .ow id p c) := by
    intro b o
    by_cases hx : ∃ id p c, γ b = .ow id p c
    · obtain ⟨id', p', c', he⟩ := hx
      rw [(h1 he).1]
      constructor
      · intro hb; cases hb
      · intro hb; exact absurd he (hb.2 _ _ _)
    · have hn : ∀ id p c, γ b ≠ .ow id p c := fun id p c he => hx ⟨id, p, c, he⟩
      rw [h2 hn]
      exact ⟨fun hb => ⟨hb, hn⟩, fun hb => hb.1⟩
  have hro1 : ∀ b o, γ1 b = .ro o → γ' b = .ro o := by
    intro b o hb
    refine (h4 b o).2 ⟨hb, fun id p c he => ?_⟩
    rw [(h1 he).2.1] at hb; cases hb
  have hE : Ext γ L γ' L := by
    refine ⟨fun b o hb => hro1 b o (hS.ro b o (hro b o hb)), fun id o hL => ⟨o, hL, OStep.refl o⟩, fun b id p c hb => .inl (h1 hb).1, fun id T sz g es T' sz' es' _ _ p e1 _ b c hb => h3 hb⟩
  refine ⟨γ', v, rfl, ⟨fun b o hb => hI1.ro b o ((h4 b o).1 hb).1, fun b id p c hb => ?_, fun b b' id p c c' hb hb' => hI.inj _ _ _ _ _ _ (h3 hb) (h3 hb'), fun id T cs hL => ?_, fun id kt vt es hL => ?_⟩, hv.lift hro1, hE, ?_⟩
  · have hb0 := h3 hb
    obtain ⟨o, ho, hrep⟩ := hI.ow _ _ _ _ hb0
    refine ⟨o, by rw [(h1 hb0).2.2]; exact ho, ?_⟩
    have := hrep.grow (X := []) (γ' := γ') (by simpa using hE) (hI.idlt hb0) (fun b p c hb => (h1 hb).1) (fun b p c hb => h3 hb)
    simpa using this
  · obtain ⟨b, c, hb⟩ := hI.box _ _ _ hL
    exact ⟨b, c, (h1 hb).1⟩
  · obtain ⟨b, c, hb⟩ := hI.map _ _ _ _ hL
    exact ⟨b, c, (h1 hb).1⟩
  · refine ⟨hS.os, hS.tape, hS.output, hS.size, hE.ro, fun b hb ho => ?_⟩
    have := hS.out b hb (by simp [hide, ho])
    exact ⟨by rw [h2 (fun id p c he => by rw [ho] at he; cases he)]; exact this.1, this.2⟩

/-! ### a call's own memory at its end -/
/-- All that the call owns is never written again. -/
def frz (γ : Nat → Gh) (w : World) : Nat → Gh := fun b =>
  match γ b with
  | .ow _ _ _ => match w.heap[b]? with | some o => .ro o | none => .out
  | x => x

/-- 'x', told with what the call owns, is 'y' once nothing is written any more. -/
def Vw (L : List AObj) (x y : AV) : Prop := ∀ γ w v, Inv γ L w → RV γ L x v → RV (frz γ w) [] y v

theorem frz_ro {γ : Nat → Gh} {w : World} : ∀ b o, γ b = .ro o → frz γ w b = .ro o := fun b o h => by simp [frz, h]

theorem Vw.pur {L : List AObj} {x : AV} (h : Pur x) : Vw L x x := fun γ w v hI hv => h _ _ _ _ _ frz_ro hv

inductive VwL (L : List AObj) : List AV → List AV → Prop where
  | nil : VwL L [] []
  | cons {x y : AV} {xs ys : List AV} (h : Vw L x y) (k : VwL L xs ys) : VwL L (x :: xs) (y :: ys)

theorem VwL.get {L : List AObj} {xs ys : List AV} (h : VwL L xs ys) : xs.length = ys.length ∧ ∀ (i : Nat) y, ys[i]? = some y → ∃ x, xs[i]? = some x ∧ Vw L x y := by
  induction h with
  | nil => exact ⟨rfl, fun i y hy => by simp at hy⟩
  | cons h k ih =>
    refine ⟨by simp [ih.1], fun i y hy => ?_⟩
    cases i with
    | zero => simp at hy; subst hy; exact ⟨_, rfl, h⟩
    | succ i => simp at hy; simpa using ih.2 i y hy

theorem VwL.pur {L : List AObj} : ∀ {xs : List AV}, (∀ x ∈ xs, Pur x) → VwL L xs xs
  | [], _ => .nil
  | x :: xs, h => .cons (.pur (h x (by simp))) (VwL.pur fun y hy => h y (by simp [hy]))

theorem Vw.agg {L : List AObj} {xs ys : List AV} (h : VwL L xs ys) : Vw L (.agg xs) (.agg ys) := by
  intro γ w v hI hv
  cases hv with
  | agg _ vs hn h1 hall =>
    refine .agg _ _ (by rw [hn]; exact h.get.1) h1 fun i y hy => ?_
    obtain ⟨x, hx, hxy⟩ := h.get.2 i y hy
    exact hxy γ w _ hI (hall i x hx)

theorem Vw.tup {L : List AObj} {xs ys : List AV} (h : VwL L xs ys) : Vw L (.tup xs) (.tup ys) := by
  intro γ w v hI hv
  cases hv with
  | tup _ vs hn hall =>
    refine .tup _ _ (by rw [hn]; exact h.get.1) fun i y hy => ?_
    obtain ⟨x, hx, hxy⟩ := h.get.2 i y hy
    exact hxy γ w _ hI (hall i x hx)

/-- The nil slice is an empty slice. -/
theorem Vw.nil {L : List AObj} (o : Bool) : Vw L (.lit (.slice none 0 0)) (.sl o []) := by
  intro γ w v hI hv
  cases hv
  exact .sl _ _ _ 0 0 0 (fun _ _ => undef) rfl (Nat.le_refl _) (by simp) (by simp) (by simp) (by simp)

/-- A row of the call's own is a slice that is only read. -/
theorem Vw.ref {L : List AObj} {id g n : Nat} {p : Pth} {T : TypeId} {sz : Nat} {es es' ys : List AV} {o : Bool} (hL : L[id]? = some (.vec T sz g es)) (hs : sub es p = some es') (hy : ys.length = n)
    (hall : ∀ (i : Nat) e y, es'[i]? = some e → ys[i]? = some y → y.cells.length = e.cells.length ∧ ∀ (j : Nat) c d, e.cells[j]? = some c → y.cells[j]? = some d → Vw L (viewC id (p ++ [(i, j)]) g c) d) :
    Vw L (.ref id p g n) (.sl o ys) := by
  intro γ w v hI hv
  cases hv with
  | ref _ _ _ _ _ hok ho =>
    obtain ⟨_, _, _, es2, hL2, hs2, hn, hv⟩ := hok.form (by simp [eptrNow, hL])
    rw [hL] at hL2; cases hL2
    rw [hs] at hs2; cases hs2
    rcases hv with ⟨rfl, rfl, rfl, _⟩ | ⟨b, c, rfl, hb⟩
    · have : ys = [] := List.eq_nil_of_length_eq_zero hy
      subst this
      exact .sl _ _ _ 0 0 0 (fun _ _ => undef) rfl (Nat.le_refl _) (by simp) (by simp) (by simp) (by simp)
    · obtain ⟨arr, s, T', harr, _, hasz, hlc, _, hrow⟩ := hI.rowCell hL hs hb
      have hsome : ∀ {i : Nat} {y : AV}, ys[i]? = some y → ∃ e, es'[i]? = some e := by
        intro i y hiy
        have := (List.getElem?_eq_some_iff.1 hiy).1
        exact ⟨es'[i]'(by omega), List.getElem?_eq_getElem (by omega)⟩
      have hcell : ∀ (i : Nat) y (j : Nat) d, ys[i]? = some y → y.cells[j]? = some d → ∃ u, arr[i * s + j]? = some u ∧ u.oneCell' = true ∧ RV (frz γ w) [] d u := by
        intro i y j d hiy hjd
        obtain ⟨e, he⟩ := hsome hiy
        obtain ⟨hlen, hcd⟩ := hall i e y he hiy
        have hj : j < e.cells.length := by rw [← hlen]; exact (List.getElem?_eq_some_iff.1 hjd).1
        have hc : e.cells[j]? = some e.cells[j] := List.getElem?_eq_getElem hj
        obtain ⟨u, h1, h2, h3⟩ := hrow.2 i e j _ he hc
        exact ⟨u, h1, h2, hcd j _ d hc hjd γ w u hI (RV.viewC hL hs he hc h2 h3)⟩
      refine .sl _ _ _ _ _ s (fun i j => arr.getD (i * s + j) undef) hy.symm (by omega) ?_ ?_ ?_ ?_
      · intro y hy'
        obtain ⟨i, hi, rfl⟩ := List.getElem_of_mem hy'
        have hiy : ys[i]? = some ys[i] := List.getElem?_eq_getElem hi
        obtain ⟨e, he⟩ := hsome hiy
        rw [(hall i e _ he hiy).1]
        exact hrow.1 e (List.mem_of_getElem? he)
      · intro i y j d hiy hjd
        obtain ⟨u, h1, _, _⟩ := hcell i y j d hiy hjd
        have hf : frz γ w b = .ro (.cells arr T' (0, 0)) := by simp [frz, hb, harr]
        simp only [roCell, hf, Nat.zero_add, h1]
        simp [Array.getD_eq_getD_getElem?, h1]
      · intro i y j d hiy hjd
        obtain ⟨u, h1, h2, _⟩ := hcell i y j d hiy hjd
        simpa [Array.getD_eq_getD_getElem?, h1] using h2
      · intro i y j d hiy hjd
        obtain ⟨u, h1, _, h3⟩ := hcell i y j d hiy hjd
        simpa [Array.getD_eq_getD_getElem?, h1] using h3

/-- A row of values alone. -/
theorem Vw.refPur {L : List AObj} {id g n : Nat} {T : TypeId} {sz : Nat} {es : List AV} {o : Bool} (hL : L[id]? = some (.vec T sz g es)) (hn : n ≤ es.length)
    (hp : ∀ e ∈ es, ∀ c ∈ e.cells, Pur c ∧ ∀ xs, c ≠ .sl true xs) : Vw L (.ref id [] g n) (.sl o (es.take n)) := by
  refine Vw.ref hL rfl (by simp [hn]) fun i e y he hy => ?_
  have : e = y := by
    rw [List.getElem?_take] at hy
    split at hy
    · rw [he] at hy; exact Option.some.inj hy
    · cases hy
  subst this
  refine ⟨rfl, fun j c d hc hd => ?_⟩
  rw [hc] at hd; cases hd
  obtain ⟨h1, h2⟩ := hp e (List.mem_of_getElem? he) c (List.mem_of_getElem? hc)
  have : viewC id ([] ++ [(i, j)]) g c = c := by
    unfold K.viewC
    split
    · rename_i xs; exact absurd rfl (h2 xs)
    · rfl
  rw [this]
  exact Vw.pur h1

/-- The end of a call over values alone. -/
theorem Fin.value {L1 : List AObj} {r1 r : AV} (h : Vw L1 r1 r) : Fin [] L1 r1 [] r := by
  intro γ0 w0 γ w v hI0 hI hv hE hS
  have hno : ∀ b id p c, frz γ w b ≠ .ow id p c := by
    intro b id p c hb
    unfold frz at hb
    split at hb
    · split at hb <;> cases hb
    · rename_i hne; exact hne _ _ _ hb
  refine ⟨frz γ w, ⟨fun b o hb => ?_, fun b id p c hb => absurd hb (hno _ _ _ _), fun b b' id p c c' hb => absurd hb (hno _ _ _ _), fun id T cs hL => by simp at hL, fun id kt vt es hL => by simp at hL⟩,
    h γ w v hI hv, ⟨fun b o hb => frz_ro b o (hE.ro b o hb), fun id o hL => by simp at hL, fun b id p c hb => ?_, fun id T sz g es T' sz' es' hL => by simp at hL⟩,
    hS.os, hS.tape, hS.output, hS.size, fun b o hb => frz_ro b o (hS.ro b o hb), fun b hb ho => ?_⟩
  · unfold frz at hb
    split at hb
    · split at hb
      · cases hb; assumption
      · cases hb
    · exact hI.ro b o hb
  · have := hI0.idlt hb; simp at this
  · have := hS.out b hb ho
    exact ⟨by simp [frz, this.1], this.2⟩

end Go.Proofs.Ytobdpkkmkbafbaa.K
/-
  A logic of values for Go's functions (part 10a): literal slices; appending to a row of the call's own.
-/
namespace Go.Proofs.Ytobdpkkmkbafbaa.K
set_option linter.unusedVariables false
set_option linter.unusedSimpArgs false
open Go Go.RowKit

/-- No element of these has a row of its own. -/
def noOwn (es : List AV) : Bool := es.all fun e => e.cells.all fun c => match c with | .sl true _ => false | _ => true

def noOwn1 (e : AV) : Bool := e.cells.all fun c => match c with | .sl true _ => false | _ => true
theorem noOwn_nil : noOwn [] = true := rfl
theorem noOwn_cons (e : AV) (l : List AV) : noOwn (e :: l) = (noOwn1 e && noOwn l) := rfl

theorem noOwn_sub {es : List AV} (h : noOwn es = true) {p : Pth} {es' : List AV} (hs : sub es p = some es') : p = [] ∧ es' = es := by
  cases p with
  | nil => simp [sub] at hs; exact ⟨rfl, hs.symm⟩
  | cons q p =>
    obtain ⟨i, j⟩ := q
    simp only [sub] at hs
    split at hs
    · rename_i e he
      split at hs
      · rename_i hc
        have := List.all_eq_true.1 (List.all_eq_true.1 h e (List.mem_of_getElem? he)) _ (List.mem_of_getElem? hc)
        simp at this
      · cases hs
    · cases hs

theorem noOwn_CV {es : List AV} (h : noOwn es = true) {i j : Nat} {e c : AV} (he : es[i]? = some e) (hc : e.cells[j]? = some c) {γ : Nat → Gh} {L : List AObj} {id : Nat} {q : Pth} {v : Value} : CV γ L id q c v ↔ RV γ L c v := by
  have := List.all_eq_true.1 (List.all_eq_true.1 h e (List.mem_of_getElem? he)) _ (List.mem_of_getElem? hc)
  unfold CV
  split
  · simp at this
  · exact Iff.rfl

theorem BlockRep.keep {γ γ' : Nat → Gh} {L L' : List AObj} (E : Ext γ L γ' L') {o : Obj} {id c : Nat} {p : Pth} (hid : L'[id]? = L[id]?)
    (hlab : ∀ b p c, γ b = .ow id p c → γ' b = .ow id p c) (hnil : ∀ b p c, γ' b = .ow id p c → γ b = .ow id p c)
    (h : BlockRep γ L o id p c) : BlockRep γ' L' o id p c := by
  unfold BlockRep at *
  rw [hid]
  split at h
  · rename_i T cs hL
    obtain ⟨h1, arr, h2, h3, h4⟩ := h
    refine ⟨h1, arr, h2, h3, fun j x hx => ?_⟩
    obtain ⟨v, a1, a2, a3⟩ := h4 j x hx
    exact ⟨v, a1, a2, a3.mono E⟩
  · rename_i T sz g es hL
    obtain ⟨es', s, arr, T', h1, h2, h3, h4, h5, h6, h7⟩ := h
    refine ⟨es', s, arr, T', h1, h2, h3, h4, h5, h6, h7.1, fun i e j x he hx => ?_⟩
    obtain ⟨v, a1, a2, a3⟩ := h7.2 i e j x he hx
    exact ⟨v, a1, a2, a3.mono E (fun b c hb => hlab b _ c hb) (fun b c hb => hnil b _ c hb)⟩
  · exact h
  · exact h.elim

/-- The blocks when the row 'id' is laid into the block 'b''. -/
def reG (γ : Nat → Gh) (id b' c' : Nat) : Nat → Gh := fun k =>
  if k = b' then .ow id [] c' else match γ k with | .ow id' p c => if id' = id then .out else .ow id' p c | x => x

/-- A row of the call's own gets new elements, in its old block or in a new one. -/
theorem Inv.regen {γ : Nat → Gh} {L : List AObj} {w w' : World} (h : Inv γ L w) {id b' c' g sz : Nat} {T : TypeId} {es es2 : List AV} {cur' : Array Value} (hL : L[id]? = some (.vec T sz g es))
    (hw : ∀ k, k < w.heap.size → (∀ p c, γ k ≠ .ow id p c) → w'.heap[k]? = w.heap[k]?) (hs : w.heap.size ≤ w'.heap.size) (hos : w'.os = w.os) (htape : w'.tape = w.tape) (hout : w'.output = w.output)
    (hb' : w'.heap[b']? = some (.cells cur' T (0, 0))) (hbb : (∃ c, γ b' = .ow id [] c) ∨ w.heap.size ≤ b') (hsz : cur'.size = c' * sz) (hle : es2.length ≤ c') (hm : c' ≤ maxLen)
    (hrow : Ext γ L (reG γ id b' c') (L.set id (.vec T sz (g + 1) es2)) → RowRep (reG γ id b' c') (L.set id (.vec T sz (g + 1) es2)) id [] sz es2 cur') :
    Ext γ L (reG γ id b' c') (L.set id (.vec T sz (g + 1) es2)) ∧ Inv (reG γ id b' c') (L.set id (.vec T sz (g + 1) es2)) w' ∧ Stp γ w (reG γ id b' c') w' := by
  have hlt := (List.getElem?_eq_some_iff.1 hL).1
  have ltb : ∀ {b}, γ b ≠ .out → b < w.heap.size := fun hb => Nat.lt_of_not_le fun hle => hb (h.out hle)
  have hbG : ∀ {id' p c}, γ b' = .ow id' p c → id' = id := by
    intro id' p c hb
    rcases hbb with ⟨c2, hb2⟩ | hb2
    · rw [hb] at hb2; cases hb2; rfl
    · rw [h.out hb2] at hb; cases hb
  have hro : ∀ b o, γ b = .ro o → b ≠ b' := by
    rintro b o hb rfl
    rcases hbb with ⟨c2, hb2⟩ | hb2
    · rw [hb] at hb2; cases hb2
    · rw [h.out hb2] at hb; cases hb
  have up : ∀ {b id' p c}, γ b = .ow id' p c → id' ≠ id → reG γ id b' c' b = .ow id' p c := by
    intro b id' p c hb hne
    have : b ≠ b' := by rintro rfl; exact hne (hbG hb)
    simp [reG, this, hb, hne]
  have down : ∀ {b id' p c}, reG γ id b' c' b = .ow id' p c → (b = b' ∧ id' = id ∧ p = [] ∧ c = c') ∨ (b ≠ b' ∧ id' ≠ id ∧ γ b = .ow id' p c) := by
    intro b id' p c hb
    by_cases hne1 : b = b'
    · simp only [reG, hne1, if_true] at hb
      cases hb; exact .inl ⟨hne1, rfl, rfl, rfl⟩
    · simp only [reG, hne1, if_false] at hb
      cases hg : γ b with
      | out => simp [hg] at hb
      | ro o => simp [hg] at hb
      | ow i2 p2 c2 =>
        simp only [hg] at hb
        by_cases hne : i2 = id
        · simp [hne] at hb
        · simp only [hne, if_false] at hb
          cases hb
          exact .inr ⟨hne1, hne, rfl⟩
  have roU : ∀ {b o}, γ b = .ro o → reG γ id b' c' b = .ro o := by
    intro b o hb
    simp [reG, hro b o hb, hb]
  have roD : ∀ {b o}, reG γ id b' c' b = .ro o → γ b = .ro o := by
    intro b o hb
    unfold reG at hb
    split at hb
    · cases hb
    · split at hb
      · split at hb <;> cases hb
      · exact hb
  have E : Ext γ L (reG γ id b' c') (L.set id (.vec T sz (g + 1) es2)) := by
    refine ⟨fun b o hb => roU hb, fun id1 o hL1 => ?_, fun b id1 p c hb => ?_, fun id1 T1 sz1 g1 es1 T1' sz1' es1' hL1 hL2 p e1 _ b c hb => ?_⟩
    · by_cases hid : id = id1
      · subst hid
        rw [hL] at hL1; cases hL1
        exact ⟨.vec T sz (g + 1) es2, by simp [hlt], rfl, rfl, .inl (by omega)⟩
      · exact ⟨o, by rw [List.getElem?_set_ne hid]; exact hL1, OStep.refl o⟩
    · by_cases hid : id1 = id
      · subst hid
        refine .inr fun o ho => ?_
        rw [hL] at ho; cases ho
        refine ⟨_, _, _, _, rfl, fun T' sz' es' he => ?_⟩
        simp [hlt] at he
      · exact .inl (up hb hid)
    · rcases down hb with ⟨_, rfl, _, _⟩ | ⟨_, _, hg⟩
      · rw [hL] at hL1; cases hL1
        simp [hlt] at hL2
      · exact hg
  refine ⟨E, ⟨fun b o hb => ?_, fun b id1 p c hb => ?_, fun b b2 id1 p c c2 hb hb2 => ?_, fun id1 T1 cs hL1 => ?_, fun id1 kt vt es1 hL1 => ?_⟩, hos, htape, hout, hs, fun b o hb => roU hb, fun b hb ho => ?_⟩
  · have h1 := roD hb
    rw [hw b (ltb (by rw [h1]; simp)) (fun p c he => by rw [h1] at he; cases he)]
    exact h.ro b o h1
  · rcases down hb with ⟨rfl, rfl, rfl, rfl⟩ | ⟨hne, hid, hg⟩
    · refine ⟨_, hb', ?_⟩
      unfold BlockRep
      simp only [List.getElem?_set_self hlt]
      exact ⟨es2, sz, cur', T, rfl, rfl, fun _ => ⟨rfl, rfl⟩, hsz, hle, hm, hrow E⟩
    · obtain ⟨o, ho, hr⟩ := h.ow _ _ _ _ hg
      refine ⟨o, ?_, hr.keep E (List.getElem?_set_ne (fun e => hid e.symm)) (fun b p c hb => up hb hid) (fun b p c hb => ?_)⟩
      · rw [hw b (ltb (by rw [hg]; simp)) (fun p c he => by rw [hg] at he; cases he; exact hid rfl)]; exact ho
      · rcases down hb with ⟨_, h2, _, _⟩ | ⟨_, _, hg2⟩
        · exact absurd h2 hid
        · exact hg2
  · rcases down hb with ⟨h1, h2, h3, h4⟩ | ⟨h1, h2, h3⟩ <;> rcases down hb2 with ⟨k1, k2, k3, k4⟩ | ⟨k1, k2, k3⟩
    · omega
    · exact absurd h2 k2
    · exact absurd k2 h2
    · exact h.inj _ _ _ _ _ _ h3 k3
  · by_cases hid : id = id1
    · subst hid; simp [hlt] at hL1
    · rw [List.getElem?_set_ne hid] at hL1
      obtain ⟨b, c, hb⟩ := h.box _ _ _ hL1
      exact ⟨b, c, up hb (fun e => hid e.symm)⟩
  · by_cases hid : id = id1
    · subst hid; simp [hlt] at hL1
    · rw [List.getElem?_set_ne hid] at hL1
      obtain ⟨b, c, hb⟩ := h.map _ _ _ _ hL1
      exact ⟨b, c, up hb (fun e => hid e.symm)⟩
  · have hne : b ≠ b' := by
      rintro rfl
      rcases hbb with ⟨c2, hb2⟩ | hb2
      · rw [ho] at hb2; cases hb2
      · omega
    refine ⟨by simp [reG, hne, ho], hw b hb (fun p c he => by rw [ho] at he; cases he)⟩

/-! ### literal slices -/
theorem mapM_some {α β : Type} {f : α → Option β} : ∀ {l : List α} {r : List β}, l.mapM f = some r → r.length = l.length ∧ ∀ (i : Nat) x, l[i]? = some x → ∃ y, r[i]? = some y ∧ f x = some y
  | [], r, h => by simp at h; subst h; exact ⟨rfl, fun i x hx => by simp at hx⟩
  | a :: l, r, h => by
    simp only [List.mapM_cons, Option.bind_eq_bind, Option.bind_eq_some_iff, Option.pure_def, Option.some.injEq] at h
    obtain ⟨y, hy, ys, hys, rfl⟩ := h
    obtain ⟨h1, h2⟩ := mapM_some hys
    refine ⟨by simp [h1], fun i x hx => ?_⟩
    cases i with
    | zero => simp at hx; subst hx; exact ⟨y, rfl, hy⟩
    | succ i => simpa using h2 i x (by simpa using hx)


def upTo : Nat → Nat → List Nat
  | 0, _ => []
  | n + 1, k => k :: upTo n (k + 1)
theorem upTo_eq : ∀ (n k : Nat), upTo n k = List.range' k n
  | 0, k => rfl
  | n + 1, k => by simp [upTo, upTo_eq n (k + 1), List.range'_succ]

/-- An element out of a row's cells. -/
def elemA (ag : Bool) (sz : Nat) (cs : List AV) (off : Nat) : Option AV :=
  match ag with
  | true => if off + sz ≤ cs.length then some (.agg ((cs.drop off).take sz)) else none
  | false =>
    match cs[off]? with
    | some (.agg _) => none
    | some c => if sz = 1 then some c else none
    | none => none

theorem elemA_spec {ag : Bool} {sz off : Nat} {cs : List AV} {x : AV} (h : elemA ag sz cs off = some x) : x.cells.length = sz ∧ ∀ (j : Nat) y, x.cells[j]? = some y → cs[off + j]? = some y := by
  unfold elemA at h
  split at h
  · split at h
    · cases h
      refine ⟨by simp [AV.cells]; omega, fun j y hy => ?_⟩
      simp only [AV.cells] at hy
      rw [List.getElem?_take] at hy
      split at hy
      · rw [List.getElem?_drop] at hy; exact hy
      · cases hy
    · cases h
  · split at h
    · cases h
    · rename_i c hne hc
      split at h
      · cases h
        subst_vars
        have hcc : x.cells = [x] := by
          cases x <;> first | rfl | exact absurd rfl (hne _)
        refine ⟨by rw [hcc]; rfl, fun j y hy => ?_⟩
        rw [hcc] at hy
        cases j with
        | zero => simp at hy; subst hy; simpa using hc
        | succ j => simp at hy
      · cases h
    · cases h

def litA (P : Program) (t : TypeId) (n : Nat) (parts : List (Nat × AV)) : Option AV :=
  match P.underlying t with
  | some (.slice e) =>
    match zeroOf P e with
    | some z =>
      if (P.info? e).isSome ∧ n * P.cellsOf e ≤ 16777216 ∧ n * P.cellsOf e ≠ 0 ∧ n ≤ 16777216 ∧ z.cells.size = P.cellsOf e ∧ z.cells.all (·.oneCell') = true then
        match fillA (fun i => some (i * P.cellsOf e, P.cellsOf e)) ((upTo (n * P.cellsOf e) 0).map fun q => absV z.cells[q % z.cells.size]!) parts with
        | some zs => ((upTo n 0).mapM fun i => elemA (aggT P e) (P.cellsOf e) zs (i * P.cellsOf e)).map (.sl false)
        | none => none
      else none
    | none => none
  | _ => none

theorem mapM_upTo {α : Type} {f : Nat → Option α} {n : Nat} {l : List α} (h : (upTo n 0).mapM f = some l) : l.length = n ∧ ∀ (i : Nat) x, l[i]? = some x → f i = some x := by
  rw [upTo_eq] at h
  obtain ⟨h1, h2⟩ := mapM_some h
  simp at h1
  refine ⟨h1, fun i x hx => ?_⟩
  have hi : i < n := by have := (List.getElem?_eq_some_iff.1 hx).1; omega
  obtain ⟨y, hy, hf⟩ := h2 i i (by simp [List.getElem?_range', hi])
  rw [hx] at hy; cases hy; exact hf

theorem lit_sound {P : Program} {o : Oper} {s : St} {t : TypeId} {n : Nat} {parts : Array (Nat × Operand)} {x : AV} (ho : o.op = .buildSlice t n parts)
    (h : litA P t n (parts.toList.map fun p => (p.1, s.ev p.2)) = some x) : OpS P o s (s.put o.dst x) := by
  intro γ a w K Q hr hK
  refine .inl ?_
  unfold litA at h
  split at h
  case h_2 => cases h
  rename_i e ht
  split at h
  case h_2 => cases h
  rename_i z hz
  split at h
  case isFalse => cases h
  rename_i hc
  obtain ⟨hi, h24, h0, hn24, hzs, hz1⟩ := hc
  split at h
  case h_2 => cases h
  rename_i zs hfill
  obtain ⟨es, hes, rfl⟩ := Option.map_eq_some_iff.1 h
  obtain ⟨hel, hee⟩ := mapM_upTo hes
  have hzr : (zeroValue e).run P w = .ok z w := by
    unfold zeroOf at hz
    obtain ⟨i, hi, hz⟩ := Option.bind_eq_some_iff.1 hz
    simp [zeroValue, typeInfo, hi, hz]
  have hsz : 0 < P.cellsOf e := by
    rcases Nat.eq_zero_or_pos (P.cellsOf e) with h | h
    · simp [h] at h0
    · exact h
  have hinit : CellsR γ s.L ((upTo (n * P.cellsOf e) 0).map fun q => absV z.cells[q % z.cells.size]!) ((Array.range (n * P.cellsOf e)).map (z.cells[· % z.cells.size]!)) := by
    refine ⟨by simp [upTo_eq], fun j y hy => ?_⟩
    rw [upTo_eq] at hy
    simp only [List.getElem?_map, Option.map_eq_some_iff] at hy
    obtain ⟨q, hq, rfl⟩ := hy
    have hj : j < n * P.cellsOf e := by have := (List.getElem?_eq_some_iff.1 hq).1; simpa using this
    have hqj : q = j := by simp [List.getElem?_range', hj] at hq; omega
    subst hqj
    have hlt : q % z.cells.size < z.cells.size := Nat.mod_lt _ (by omega)
    refine ⟨z.cells[q % z.cells.size]!, by simp [hj], ?_, .absV _⟩
    rw [getElem!_pos z.cells _ hlt]
    exact (Array.all_eq_true_iff_forall_mem.1 hz1) _ (Array.getElem_mem hlt)
  have hparts : ∀ (i : Nat) (p : Nat × AV) (q : Nat × Value), (parts.toList.map fun p => (p.1, s.ev p.2))[i]? = some p → ((parts.map fun (i, x) => (i, a.eval x)).toList)[i]? = some q → p.1 = q.1 ∧ RV γ s.L p.2 q.2 := by
    intro i p q hp hq
    simp only [List.getElem?_map, Option.map_eq_some_iff, Array.toList_map] at hp hq
    obtain ⟨c, hc, rfl⟩ := hp
    obtain ⟨d, hd, rfl⟩ := hq
    rw [hc] at hd; cases hd
    exact ⟨rfl, hr.ev _⟩
  obtain ⟨cs', hf, hcr⟩ := fillA_run _ _ _ _ _ hinit (by simp) hparts hfill
  have hrun : (Instr.buildSlice t n (parts.map fun (i, x) => (i, a.eval x))).run P w = .ok (.slice (some ⟨w.heap.size, 0, none⟩) n n) (w.alloc (.cells cs' e)) := by
    have h24' : ¬ (16777216 < n * P.cellsOf e) := by omega
    rw [show (parts.map fun (i, x) => (i, a.eval x)).toList = parts.toList.map (fun x => (x.1, a.eval x.2)) from by simp] at hf
    simp [Instr.buildSlice, run_underlying ht, run_sizeOf w hi, h24', h0, hzr, hf, newRow, newObj, Sem.run]
  obtain ⟨E, hI, hS⟩ := hr.inv.allocRo (.cells cs' e)
  unfold Oper.wp execOp
  rw [ho]
  simp only [Sem.run_bind, hrun, Result.andThen_ok, Sem.run_pure]
  have hro : newG γ w.heap.size (.ro (.cells cs' e (0, 0))) w.heap.size = .ro (.cells cs' e (0, 0)) := by simp [newG]
  have hcell : ∀ (i : Nat) x (j : Nat) y, es[i]? = some x → x.cells[j]? = some y → ∃ u, cs'[i * P.cellsOf e + j]? = some u ∧ u.oneCell' = true ∧ RV γ s.L y u := by
    intro i x j y hx hy
    obtain ⟨_, h2⟩ := elemA_spec (hee i x hx)
    exact hcr.2 _ y (h2 j y hy)
  refine hK _ _ _ ((hr.mono E hI).put o.dst ?_) (by rw [St.put_L]; exact E) hS
  refine .sl false es _ n n (P.cellsOf e) (fun i j => cs'.getD (i * P.cellsOf e + j) undef) hel.symm (Nat.le_refl _) ?_ ?_ ?_ ?_
  · intro x hx
    obtain ⟨i, hi, rfl⟩ := List.getElem_of_mem hx
    exact (elemA_spec (hee i _ (List.getElem?_eq_getElem hi))).1
  · intro i x j y hx hy
    obtain ⟨u, h1, _⟩ := hcell i x j y hx hy
    simp only [roCell, hro, Nat.zero_add, h1, Array.getD_eq_getD_getElem?, Option.getD_some]
  · intro i x j y hx hy
    obtain ⟨u, h1, h2, _⟩ := hcell i x j y hx hy
    simpa [Array.getD_eq_getD_getElem?, h1] using h2
  · intro i x j y hx hy
    obtain ⟨u, h1, _, h3⟩ := hcell i x j y hx hy
    simp only [Array.getD_eq_getD_getElem?, h1, Option.getD_some]
    exact h3.mono E

end Go.Proofs.Ytobdpkkmkbafbaa.K
/-
  A logic of values for Go's functions (part 10b): appending to a row of the call's own.
-/
namespace Go.Proofs.Ytobdpkkmkbafbaa.K
set_option linter.unusedVariables false
set_option linter.unusedSimpArgs false
open Go Go.RowKit

theorem rowRep_append {γ γ2 : Nat → Gh} {L L2 : List AObj} (E : Ext γ L γ2 L2) {id sz : Nat} {es ys : List AV} {xs news : List Value} {cur' : Array Value}
    (hes : ∀ e ∈ es, e.cells.length = sz) (hys : ∀ e ∈ ys, e.cells.length = sz) (n1 : noOwn es = true) (n2 : noOwn ys = true) (hxl : xs.length = es.length * sz)
    (hx : ∀ (i : Nat) e (j : Nat) x, es[i]? = some e → e.cells[j]? = some x → ∃ v, xs[i * sz + j]? = some v ∧ v.oneCell' = true ∧ RV γ L x v)
    (hn : ∀ (i : Nat) e (j : Nat) x, ys[i]? = some e → e.cells[j]? = some x → ∃ v, news[i * sz + j]? = some v ∧ v.oneCell' = true ∧ RV γ L x v)
    (hcur : ∀ (q : Nat) u, (xs ++ news)[q]? = some u → cur'[q]? = some u) : RowRep γ2 L2 id [] sz (es ++ ys) cur' := by
  refine ⟨fun e he => ?_, fun i e j x he hx' => ?_⟩
  · rcases List.mem_append.1 he with h | h
    · exact hes e h
    · exact hys e h
  by_cases hi : i < es.length
  · rw [List.getElem?_append_left hi] at he
    obtain ⟨v, h1, h2, h3⟩ := hx i e j x he hx'
    refine ⟨v, hcur _ _ ?_, h2, (noOwn_CV n1 he hx').2 (h3.mono E)⟩
    rw [List.getElem?_append_left (List.getElem?_eq_some_iff.1 h1).1]; exact h1
  · rw [List.getElem?_append_right (by omega)] at he
    obtain ⟨v, h1, h2, h3⟩ := hn _ e j x he hx'
    refine ⟨v, hcur _ _ ?_, h2, (noOwn_CV n2 he hx').2 (h3.mono E)⟩
    have e1 : i * sz + j = xs.length + ((i - es.length) * sz + j) := by
      rw [hxl, ← Nat.add_assoc, ← Nat.add_mul]; congr 2; omega
    rw [e1, List.getElem?_append_right (by omega), Nat.add_sub_cancel_left]
    exact h1

end Go.Proofs.Ytobdpkkmkbafbaa.K
/-
  A logic of values for Go's functions (part 10c): appending whatever comes, onto a row of the call's own, cut or not, or onto nil; rows made; stores into rows; literal rows of the call's own.
-/
namespace Go.Proofs.Ytobdpkkmkbafbaa.K
set_option linter.unusedVariables false
set_option linter.unusedSimpArgs false
open Go Go.RowKit

section
variable {P : Program} (w : World)
theorem run_append_roomS (t tx ty e : TypeId) (i : TypeInfo) (ht : P.underlying t = some (.slice e)) (hi : P.info? e = some i)
    (g sLen sCap : Nat) (cur : Array Value) (hg : w.heap[g]? = some (.cells cur e (0, 0)))
    (x : Value) (n : Nat) (news : List Value) (hs : Src P i.size tx x n news w)
    (hroom : sLen + n ≤ sCap) (hfit : sLen * i.size + news.length ≤ cur.size) :
    (Builtin.append_ #[t, tx] ty #[.slice (some ⟨g, 0, none⟩) sLen sCap, x]).run P w =
      .ok (.slice (some ⟨g, 0, none⟩) (sLen + n) sCap) (w.setRow g (cur.toList.take (sLen * i.size) ++ news ++ cur.toList.drop (sLen * i.size + news.length)).toArray) := by
  have hst := run_storeCells_at P g (sLen * i.size) e news 0 cur w hg (by simpa using hfit) hs.one
  simp only [Nat.add_zero] at hst
  rcases hs.kind with ⟨e', hk⟩ | hk <;> simp [Builtin.append_, run_underlying ht, run_underlying hk, sizeOf, typeInfo, hi, hs.len, hroom, hs.cells, Addr.add_lit, hst]
theorem run_append_none (t tx ty e : TypeId) (i : TypeInfo) (ht : P.underlying t = some (.slice e)) (hi : P.info? e = some i) (x : Value) (hs : Src P i.size tx x 0 [] w) :
    (Builtin.append_ #[t, tx] ty #[.slice none 0 0, x]).run P w = .ok (.slice none 0 0) w := by
  rcases hs.kind with ⟨e', hk⟩ | hk <;> simp [Builtin.append_, run_underlying ht, run_underlying hk, sizeOf, typeInfo, hi, hs.len, hs.cells, storeCells]
end

/-! ### more that is owned -/
theorem Ext.more (γ : Nat → Gh) (L X : List AObj) : Ext γ L γ (L ++ X) :=
  ⟨fun _ _ h => h, fun id o hL => ⟨o, by rw [List.getElem?_append_left (List.getElem?_eq_some_iff.1 hL).1]; exact hL, OStep.refl o⟩, fun _ _ _ _ h => .inl h, fun _ _ _ _ _ _ _ _ _ _ _ _ _ _ _ h => h⟩

theorem Inv.moreVec {γ : Nat → Gh} {L : List AObj} {w : World} (h : Inv γ L w) (T : TypeId) (sz : Nat) : Inv γ (L ++ [AObj.vec T sz 0 []]) w := by
  have get : ∀ {id : Nat} {o : AObj}, (L ++ [AObj.vec T sz 0 []])[id]? = some o → (∀ T sz g es, o ≠ .vec T sz g es) → L[id]? = some o := by
    intro id o hL hne
    by_cases hid : id < L.length
    · rwa [List.getElem?_append_left hid] at hL
    · rw [List.getElem?_append_right (by omega)] at hL
      obtain ⟨h1, h2⟩ := List.getElem?_eq_some_iff.1 hL
      simp at h1
      have : id - L.length = 0 := by omega
      simp [this] at h2
      exact absurd h2.symm (hne _ _ _ _)
  refine ⟨h.ro, fun b id p c hb => ?_, h.inj, fun id T cs hL => h.box _ _ _ (get hL (by intros; simp)), fun id kt vt es hL => h.map _ _ _ _ (get hL (by intros; simp))⟩
  obtain ⟨o, ho, hr⟩ := h.ow _ _ _ _ hb
  exact ⟨o, ho, hr.grow (.more _ _ _) (h.idlt hb) (fun _ _ _ h => h) (fun _ _ _ h => h)⟩

/-! ### a row, cut -/
theorem Inv.trunc {γ : Nat → Gh} {L : List AObj} {w : World} (h : Inv γ L w) {id g sz n : Nat} {T : TypeId} {es : List AV} (hL : L[id]? = some (.vec T sz g es)) (n1 : noOwn es = true) (hn : n ≤ es.length) :
    Ext γ L γ (L.set id (.vec T sz (g + 1) (es.take n))) ∧ Inv γ (L.set id (.vec T sz (g + 1) (es.take n))) w := by
  have hlt := (List.getElem?_eq_some_iff.1 hL).1
  have E : Ext γ L γ (L.set id (.vec T sz (g + 1) (es.take n))) := .set hL ⟨rfl, rfl, .inl (by omega)⟩
  refine ⟨E, h.ro, fun b id1 p c hb => ?_, h.inj, fun id1 T1 cs hL1 => ?_, fun id1 kt vt es1 hL1 => ?_⟩
  · obtain ⟨o, ho, hr⟩ := h.ow _ _ _ _ hb
    refine ⟨o, ho, ?_⟩
    by_cases hid : id1 = id
    · subst hid
      unfold BlockRep at hr ⊢
      simp only [hL] at hr
      simp only [List.getElem?_set_self hlt]
      obtain ⟨es', s, arr, T', k1, k2, k3, k4, k5, k6, k7⟩ := hr
      obtain ⟨rfl, rfl⟩ := noOwn_sub n1 k1
      refine ⟨_, s, arr, T', rfl, k2, k3, k4, ?_, k6, fun e he => k7.1 e (List.mem_of_mem_take he), fun i e j x he hx => ?_⟩
      · rw [List.length_take]; omega
      · have he' : es'[i]? = some e := by
          rw [List.getElem?_take] at he
          split at he
          · exact he
          · cases he
        obtain ⟨v, a1, a2, a3⟩ := k7.2 i e j x he' hx
        refine ⟨v, a1, a2, ?_⟩
        exact a3.mono E (fun b c hb => hb) (fun b c hb => hb)
    · exact hr.upd E (List.getElem?_set_ne (fun e => hid e.symm))
  · by_cases hid : id = id1
    · subst hid; simp [hlt] at hL1
    · rw [List.getElem?_set_ne hid] at hL1; exact h.box _ _ _ hL1
  · by_cases hid : id = id1
    · subst hid; simp [hlt] at hL1
    · rw [List.getElem?_set_ne hid] at hL1; exact h.map _ _ _ _ hL1

theorem RV.trunc {γ : Nat → Gh} {L : List AObj} {id g sz n : Nat} {T : TypeId} {es : List AV} {v : Value} (hL : L[id]? = some (.vec T sz g es)) (hn : n ≤ es.length) (h : RV γ L (.ref id [] g n) v) :
    RV γ (L.set id (.vec T sz (g + 1) (es.take n))) (.ref id [] (g + 1) n) v := by
  have hlt := (List.getElem?_eq_some_iff.1 hL).1
  cases h with
  | ref _ _ _ _ _ hok ho =>
    obtain ⟨_, _, _, es2, hL2, hs2, hn2, hv⟩ := hok.form (by simp [eptrNow, hL])
    rw [hL] at hL2; cases hL2
    simp [sub] at hs2; subst hs2
    refine .ref _ _ _ _ _ ?_ ho
    unfold RefOk
    simp only [List.getElem?_set_self hlt]
    refine ⟨Nat.le_refl _, fun _ => ⟨_, rfl, by rw [List.length_take]; omega, ?_⟩⟩
    rcases hv with ⟨rfl, rfl, rfl, h4⟩ | ⟨b, c, rfl, hb⟩
    · exact .inl ⟨rfl, by simp, h4⟩
    · exact .inr ⟨b, c, rfl, hb⟩

/-! ### what is appended -/
/-- The elements that an append brings. -/
def srcA (P : Program) (L : List AObj) (tx : TypeId) (y : AV) : Option (List AV) :=
  match y with
  | .sl _ ys => match P.underlying tx with | some (.slice _) => some ys | _ => none
  | .lit (.slice none 0 0) => match P.underlying tx with | some (.slice _) => some [] | _ => none
  | .ref id [] g n =>
    match P.underlying tx with
    | some (.slice _) =>
      match L[id]? with
      | some (.vec _ _ g' es) => if g = g' ∧ n ≤ es.length ∧ noOwn es = true then some (es.take n) else none
      | _ => none
    | _ => none
  | .str s => match P.underlying tx with | some .string => some (s.data.toList.map fun b => .int .u8 b.toNat) | _ => none
  | _ => none

def Brings (P : Program) (γ : Nat → Gh) (L : List AObj) (w : World) (sz : Nat) (tx : TypeId) (v : Value) (ys : List AV) : Prop :=
  ∃ news : List Value, Src P sz tx v ys.length news w ∧ ∀ (i : Nat) z (j : Nat) y, ys[i]? = some z → z.cells[j]? = some y → ∃ u, news[i * sz + j]? = some u ∧ u.oneCell' = true ∧ RV γ L y u

theorem add_none (b o q : Nat) : (⟨b, o, none⟩ : Addr).add q = ⟨b, o + q, none⟩ := by unfold Addr.add; split <;> simp_all

/-- Cells that lie one behind another, as what an append brings. -/
theorem Brings.ofCells {P : Program} {γ : Nat → Gh} {L : List AObj} {w : World} {sz : Nat} {tx e' : TypeId} (ht : P.underlying tx = some (.slice e')) {b o c : Nat} {ys : List AV} (hsz : 0 < sz) (hyl : ∀ z ∈ ys, z.cells.length = sz)
    (hcell : ∀ (i : Nat) z (j : Nat) y, ys[i]? = some z → z.cells[j]? = some y → ∃ u, w.cell? ⟨b, o + (i * sz + j), none⟩ = some u ∧ u.oneCell' = true ∧ RV γ L y u) :
    Brings P γ L w sz tx (.slice (some ⟨b, o, none⟩) ys.length c) ys := by
  let cell : Nat → Value := fun q => (w.cell? ⟨b, o + q, none⟩).getD undef
  let news : List Value := (List.range (ys.length * sz)).map cell
  have hnl : news.length = ys.length * sz := by simp [news]
  have hq : ∀ q, q < ys.length * sz → ∃ z y, ys[q / sz]? = some z ∧ z.cells[q % sz]? = some y := by
    intro q hlt
    have hi : q / sz < ys.length := Nat.div_lt_of_lt_mul (by rw [Nat.mul_comm]; exact hlt)
    have hj : q % sz < (ys[q / sz]).cells.length := by rw [hyl _ (List.getElem_mem hi)]; exact Nat.mod_lt _ hsz
    exact ⟨_, _, List.getElem?_eq_getElem hi, List.getElem?_eq_getElem hj⟩
  have hget : ∀ (q : Nat) u, news[q]? = some u → w.cell? ⟨b, o + q, none⟩ = some u ∧ u.oneCell' = true := by
    intro q u hu
    have hlt : q < ys.length * sz := by have := (List.getElem?_eq_some_iff.1 hu).1; omega
    obtain ⟨z, y, hz, hy⟩ := hq q hlt
    obtain ⟨u', h1, h2, _⟩ := hcell _ _ _ _ hz hy
    have h6 : q / sz * sz + q % sz = q := by rw [Nat.mul_comm]; exact Nat.div_add_mod q sz
    rw [h6] at h1
    simp [news, cell, hlt, h1] at hu
    subst hu
    exact ⟨h1, h2⟩
  refine ⟨news, Src.ofSlice w ht _ _ _ _ hnl (fun j u hu => by rw [add_none]; exact (hget j u hu).1) (fun u hu => by
    obtain ⟨q, hq, rfl⟩ := List.getElem_of_mem hu
    exact (hget q _ (List.getElem?_eq_getElem hq)).2), fun i z j y hz hy => ?_⟩
  obtain ⟨u, h1, h2, h3⟩ := hcell i z j y hz hy
  refine ⟨u, ?_, h2, h3⟩
  have hjl : j < sz := by rw [← hyl z (List.mem_of_getElem? hz)]; exact (List.getElem?_eq_some_iff.1 hy).1
  have hil : i < ys.length := (List.getElem?_eq_some_iff.1 hz).1
  have hlt : i * sz + j < ys.length * sz := by
    have : (i + 1) * sz ≤ ys.length * sz := Nat.mul_le_mul_right _ hil
    rw [Nat.add_mul, Nat.one_mul] at this; omega
  simp [news, cell, hlt, h1]

theorem srcA_sound {P : Program} {γ : Nat → Gh} {L : List AObj} {w : World} {sz : Nat} {tx : TypeId} {y : AV} {v : Value} {ys : List AV} (hI : Inv γ L w) (hv : RV γ L y v) (h : srcA P L tx y = some ys) (hsz : 0 < sz) (hyl : ∀ z ∈ ys, z.cells.length = sz)
    (hstr : ∀ s, y = .str s → sz = 1) : Brings P γ L w sz tx v ys := by
  unfold srcA at h
  split at h
  · split at h
    · rename_i e' ht
      cases h
      cases hv with
      | sl own _ A n c sz' vals hn hc hsz' h2 h1 h3 =>
        subst hn
        cases ys with
        | nil =>
          refine ⟨[], ?_, fun i z j y hz => by simp at hz⟩
          cases A with
          | none => exact Src.ofNil w ht c
          | some a => exact Src.ofSlice w ht a 0 c [] (by simp) (fun j u hu => by simp at hu) (fun u hu => by cases hu)
        | cons y0 ys =>
          generalize hY : y0 :: ys = Y at *
          have he0 : Y[0]? = some y0 := by rw [← hY]; rfl
          obtain rfl : sz' = sz := by rw [← hsz' y0 (List.mem_of_getElem? he0), hyl y0 (List.mem_of_getElem? he0)]
          obtain ⟨c0, hc0⟩ : ∃ c0, y0.cells[0]? = some c0 := ⟨_, List.getElem?_eq_getElem (by rw [hyl y0 (List.mem_of_getElem? he0)]; exact hsz)⟩
          obtain ⟨b2, o2, rfl, arr2, T2, fr2, hg2⟩ : ∃ b2 o2, A = some ⟨b2, o2, none⟩ ∧ ∃ arr2 T2 fr2, γ b2 = .ro (.cells arr2 T2 fr2) := by
            have := h2 0 y0 0 c0 he0 hc0
            unfold roCell at this
            split at this
            · rename_i b2 o2
              split at this
              · rename_i arr2 T2 fr2 hg
                exact ⟨b2, o2, rfl, arr2, T2, fr2, hg⟩
              · cases this
            · cases this
          refine .ofCells ht hsz hyl fun i z j y hz hy => ⟨vals i j, ?_, h1 _ _ _ _ hz hy, h3 _ _ _ _ hz hy⟩
          have := h2 i z j y hz hy
          have hh := hI.ro _ _ hg2
          simp only [roCell, hg2] at this
          simp [World.cell?, hh, this]
    · cases h
  · split at h
    · rename_i e' ht
      cases h
      cases hv
      exact ⟨[], Src.ofNil w ht 0, fun i z j y hz => by simp at hz⟩
    · cases h
  · split at h
    · rename_i e' ht
      split at h
      · rename_i T sz2 g' es hL
        split at h
        · rename_i hc
          obtain ⟨rfl, hn, hno⟩ := hc
          cases h
          rename_i id g n _ _
          cases hv with
          | ref _ _ _ _ _ hok ho =>
            obtain ⟨_, _, _, es2, hL2, hs2, hn2, hv⟩ := hok.form (by simp [eptrNow, hL])
            rw [hL] at hL2; cases hL2
            simp [sub] at hs2; subst hs2
            rcases hv with ⟨rfl, rfl, rfl, _⟩ | ⟨b, c, rfl, hb⟩
            · exact ⟨[], by simpa using Src.ofNil w ht 0, fun i z j y hz => by simp at hz⟩
            · obtain ⟨arr, s, T', harr, hTs, hasz, hlc, _, hrow⟩ := hI.rowCell hL rfl hb
              have hlen : (es.take n).length = n := by rw [List.length_take]; omega
              have key := Brings.ofCells (P := P) (γ := γ) (L := L) (w := w) (sz := sz) ht (b := b) (o := 0) (c := c) (ys := es.take n) hsz hyl (fun i z j y hz hy => by
                have hz' : es[i]? = some z := by
                  rw [List.getElem?_take] at hz
                  split at hz
                  · exact hz
                  · cases hz
                obtain ⟨u, k1, k2, k3⟩ := hrow.2 i z j y hz' hy
                obtain rfl : s = sz := by rw [← hyl z (List.mem_of_getElem? hz), hrow.1 z (List.mem_of_getElem? hz')]
                exact ⟨u, by rw [Nat.zero_add, cell_of_row w b _ arr _ (0, 0) harr]; exact k1, k2, (noOwn_CV hno hz' hy).1 k3⟩)
              rw [hlen] at key
              exact key
        · cases h
      · cases h
    · cases h
  · split at h
    · rename_i s _ ht
      cases h
      cases hv
      obtain rfl := hstr _ rfl
      rename_i s _
      have hlen : (s.data.toList.map fun b => AV.int .u8 b.toNat).length = s.size := by rw [List.length_map, Array.length_toList]; rfl
      refine ⟨byteCells s, by rw [hlen]; exact Src.ofString w ht s, fun i z j y hz hy => ?_⟩
      simp only [List.getElem?_map, Option.map_eq_some_iff] at hz
      obtain ⟨b, hb, rfl⟩ := hz
      cases j with
      | zero =>
        simp [AV.cells] at hy
        subst hy
        refine ⟨.int .u8 b.toNat, ?_, rfl, .int _ _⟩
        simp only [byteCells, Nat.mul_one, Nat.add_zero, List.getElem?_map, hb, Option.map_some]
      | succ j => simp [AV.cells] at hy
    · cases h
  · cases h

theorem rowRep_append' {γ γ2 : Nat → Gh} {L L2 : List AObj} (E : Ext γ L γ2 L2) {id sz : Nat} {es ys : List AV} {xs news : List Value} {cur' : Array Value}
    (hes : ∀ e ∈ es, e.cells.length = sz) (hys : ∀ e ∈ ys, e.cells.length = sz) (n1 : noOwn es = true) (n2 : noOwn ys = true) (hxl : xs.length = es.length * sz)
    (hx : ∀ (i : Nat) e (j : Nat) x, es[i]? = some e → e.cells[j]? = some x → ∃ v, xs[i * sz + j]? = some v ∧ v.oneCell' = true ∧ RV γ L x v)
    (hn : ∀ (i : Nat) e (j : Nat) x, ys[i]? = some e → e.cells[j]? = some x → ∃ v, news[i * sz + j]? = some v ∧ v.oneCell' = true ∧ RV γ L x v)
    (hcur : ∀ (q : Nat) u, (xs ++ news)[q]? = some u → cur'[q]? = some u) : RowRep γ2 L2 id [] sz (es ++ ys) cur' :=
  rowRep_append E hes hys n1 n2 hxl hx hn hcur

/-- An append's run. -/
theorem append_core {P : Program} {γ : Nat → Gh} {L : List AObj} {w : World} (hI : Inv γ L w) {t tx ty e : TypeId} {ys : List AV} {id g : Nat} {es : List AV} {vx vy : Value}
    (ht : P.underlying t = some (.slice e)) (hi : (P.info? e).isSome = true) (hsz : 0 < P.cellsOf e) (hbw : P.bytesOf e ≤ 1024) (hz : (zeroOf P e).map (·.cells.size) = some (P.cellsOf e))
    (hL : L[id]? = some (.vec e (P.cellsOf e) g es)) (hvx : RV γ L (.ref id [] g es.length) vx)
    (hyl : ∀ z ∈ ys, z.cells.length = P.cellsOf e) (n1 : noOwn es = true) (n2 : noOwn ys = true) (hlen : es.length + ys.length ≤ 137438953472) (hb : Brings P γ L w (P.cellsOf e) tx vy ys) :
    ∃ v' w' γ', (Builtin.append_ #[t, tx] ty #[vx, vy]).run P w = .ok v' w' ∧ RV γ' (L.set id (.vec e (P.cellsOf e) (g + 1) (es ++ ys))) (.ref id [] (g + 1) (es.length + ys.length)) v' ∧
      Ext γ L γ' (L.set id (.vec e (P.cellsOf e) (g + 1) (es ++ ys))) ∧ Inv γ' (L.set id (.vec e (P.cellsOf e) (g + 1) (es ++ ys))) w' ∧ Stp γ w γ' w' := by
  obtain ⟨news, hs, hnrep⟩ := hb
  obtain ⟨zv, hzv, hzs⟩ := Option.map_eq_some_iff.1 hz
  obtain ⟨ti, hti, hzero⟩ := Option.bind_eq_some_iff.1 hzv
  have htsz : ti.size = P.cellsOf e := by simp [Program.cellsOf, hti]
  have hby : ti.bytes ≤ 1024 := by simpa [Program.bytesOf, hti] using hbw
  generalize P.cellsOf e = sz at *
  have hnl := hs.newsLen
  rw [← htsz] at hs
  have hlt := (List.getElem?_eq_some_iff.1 hL).1
  have fin : ∀ (b' c' : Nat) (cur' : Array Value) (w' : World) (xs : List Value),
      (Builtin.append_ #[t, tx] ty #[vx, vy]).run P w = .ok (.slice (some ⟨b', 0, none⟩) (es.length + ys.length) c') w' →
      (∀ k, k < w.heap.size → (∀ p c, γ k ≠ .ow id p c) → w'.heap[k]? = w.heap[k]?) → w.heap.size ≤ w'.heap.size → w'.os = w.os → w'.tape = w.tape → w'.output = w.output →
      w'.heap[b']? = some (.cells cur' e (0, 0)) → ((∃ c, γ b' = .ow id [] c) ∨ w.heap.size ≤ b') → cur'.size = c' * sz → es.length + ys.length ≤ c' → c' ≤ maxLen →
      (∀ e ∈ es, e.cells.length = sz) → xs.length = es.length * sz →
      (∀ (i : Nat) e (j : Nat) x, es[i]? = some e → e.cells[j]? = some x → ∃ v, xs[i * sz + j]? = some v ∧ v.oneCell' = true ∧ RV γ L x v) →
      (∀ (q : Nat) u, (xs ++ news)[q]? = some u → cur'[q]? = some u) → ∃ v' w' γ', (Builtin.append_ #[t, tx] ty #[vx, vy]).run P w = .ok v' w' ∧ RV γ' (L.set id (.vec e sz (g + 1) (es ++ ys))) (.ref id [] (g + 1) (es.length + ys.length)) v' ∧
      Ext γ L γ' (L.set id (.vec e sz (g + 1) (es ++ ys))) ∧ Inv γ' (L.set id (.vec e sz (g + 1) (es ++ ys))) w' ∧ Stp γ w γ' w' := by
    intro b' c' cur' w' xs hrun f1 f2 f3 f4 f5 f6 f7 f8 f9 f10 f11 f12 f13 f14
    obtain ⟨E, hI, hS⟩ := hI.regen (es2 := es ++ ys) hL f1 f2 f3 f4 f5 f6 f7 f8 (by simpa using f9) f10 (fun E => rowRep_append E f11 hyl n1 n2 f12 f13 hnrep f14)
    refine ⟨_, _, _, hrun, .ref _ _ _ _ _ ?_ rfl, E, hI, hS⟩
    unfold RefOk
    simp only [List.getElem?_set_self hlt]
    exact ⟨Nat.le_refl _, fun _ => ⟨es ++ ys, rfl, by simp, .inr ⟨b', c', rfl, by simp [reG]⟩⟩⟩
  have hmax : es.length + ys.length ≤ maxLen := by unfold maxLen; omega
  have hm63 : ((es.length + ys.length : Nat) : Int) ≤ 9223372036854775807 := by omega
  have hnb : (es.length + ys.length) * ti.bytes ≤ 140737488355328 := by
    calc (es.length + ys.length) * ti.bytes ≤ 137438953472 * 1024 := Nat.mul_le_mul hlen hby
      _ = 140737488355328 := by rfl
  cases hvx with
  | ref _ _ _ _ _ hok ho1 =>
    obtain ⟨T3, sz3, es3, es', hL3, hs3, hn3, hv⟩ := hok.form (by simp [eptrNow, hL])
    rw [hL] at hL3; cases hL3
    simp [sub] at hs3
    subst hs3
    rcases hv with ⟨rfl, rfl, hn0, hnolab⟩ | ⟨b, cap, rfl, hb⟩
    · by_cases hy0 : ys = []
      · subst hy0
        have h0 : news = [] := List.eq_nil_of_length_eq_zero (by simpa using hnl)
        subst h0
        have hrun := run_append_none (P := P) w t tx ty e ti ht hti vy hs
        obtain ⟨E, hI'⟩ := hI.trunc (n := 0) hL rfl (by simp)
        refine ⟨_, w, γ, hrun, ?_, by simpa using E, by simpa using hI', Stp.refl _ _⟩
        have := RV.trunc (n := 0) hL (by simp) (.ref id [] g 0 _ hok ho1)
        simpa using this
      · have hpos : 0 < ys.length := List.length_pos_iff.2 hy0
        have hfo : (Builtin.firstCells ti.size 0 (.slice none 0 0)).run P w.drew = .ok ([] : List Value).toArray w.drew := run_firstCells_none (P := P) w.drew ti.size 0 0 0
        have hrun := run_append_grow_src (P := P) w t tx ty e ti zv ht hti hzero none 0 0 [] hfo vy ys.length news hs (by omega) (by simpa using hm63) (by rw [Nat.zero_add]; exact (growslice_fits (by omega) (by simpa using hnb)))
        have hge := grownCap_ge w (0 + ys.length) 0 e
        have hcm : grownCap w (0 + ys.length) 0 e ≤ maxLen := grownCap_le_maxLen w _ 0 e (by simpa using hmax)
        refine fin w.heap.size (grownCap w (0 + ys.length) 0 e) _ _ [] (by simpa using hrun) (fun k hk _ => RowKit.Below.heap_alloc w.drew _ k hk) (by simp) rfl rfl rfl (heap_alloc_new w.drew _) (.inr (Nat.le_refl _)) ?_ (by simpa using hge) hcm (by simp) (by simp) (by simp) ?_
        · simp only [Array.size_append, List.size_toArray, size_zeroCells, hzs, hnl, ← Nat.add_mul, List.nil_append, Nat.zero_add]
          rw [Nat.zero_add] at hge
          congr 1; omega
        · intro q u hq
          have := (List.getElem?_eq_some_iff.1 hq).1
          rw [Array.getElem?_append_left (by simpa using this)]
          simpa using hq
    · obtain ⟨arr, s3, T', harr, hTs, hasz, hle, hcm, hrow⟩ := hI.rowCell hL rfl hb
      obtain ⟨hT', rfl⟩ := hTs rfl
      obtain rfl : e = T' := hT'.symm
      have hxl : (arr.toList.take (es.length * s3)).length = es.length * s3 := by
        simp only [List.length_take, Array.length_toList, hasz]
        exact Nat.min_eq_left (Nat.mul_le_mul_right _ hle)
      have hxget : ∀ (q : Nat) u, (arr.toList.take (es.length * s3))[q]? = some u → arr[q]? = some u := by
        intro q u hq
        rw [List.getElem?_take] at hq
        split at hq
        · simpa using hq
        · cases hq
      have hxrep : ∀ (i : Nat) e (j : Nat) x, es[i]? = some e → e.cells[j]? = some x → ∃ v, (arr.toList.take (es.length * s3))[i * s3 + j]? = some v ∧ v.oneCell' = true ∧ RV γ L x v := by
        intro i e j x he hx
        obtain ⟨v, k1, k2, k3⟩ := hrow.2 i e j x he hx
        refine ⟨v, ?_, k2, (noOwn_CV n1 he hx).1 k3⟩
        have hjl : j < s3 := by rw [← hrow.1 e (List.mem_of_getElem? he)]; exact (List.getElem?_eq_some_iff.1 hx).1
        have hil : i < es.length := (List.getElem?_eq_some_iff.1 he).1
        have hlt : i * s3 + j < es.length * s3 := by
          have : (i + 1) * s3 ≤ es.length * s3 := Nat.mul_le_mul_right _ hil
          rw [Nat.add_mul, Nat.one_mul] at this; omega
        rw [List.getElem?_take, if_pos hlt]
        simpa using k1
      by_cases hroom : es.length + ys.length ≤ cap
      · have hfit : es.length * ti.size + news.length ≤ arr.size := by rw [hnl, hasz, htsz, ← Nat.add_mul]; exact Nat.mul_le_mul_right _ hroom
        have hrun := run_append_roomS (P := P) w t tx ty e ti ht hti b es.length cap arr harr vy ys.length news hs hroom hfit
        rw [htsz] at hrun hfit
        refine fin b cap _ _ (arr.toList.take (es.length * s3)) hrun (fun k hk hno => setRow_other w b k _ (fun he => by subst he; exact hno _ _ hb)) (by simp [World.setRow]) rfl rfl rfl (setRow_heap w b arr _ e (0, 0) harr) (.inl ⟨cap, hb⟩) ?_ hroom hcm hrow.1 hxl hxrep ?_
        · simp only [List.size_toArray, List.length_append, List.length_take, List.length_drop, Array.length_toList]
          rw [← hasz]; omega
        · intro q u hq
          have hlt := (List.getElem?_eq_some_iff.1 hq).1
          simp only [List.getElem?_toArray]
          rw [List.getElem?_append_left hlt]; exact hq
      · have holds : ∀ (j : Nat) u, (arr.toList.take (es.length * s3))[j]? = some u → w.drew.cell? ((⟨b, 0, none⟩ : Addr).add j) = some u := by
          intro j u hj
          rw [add_none, Nat.zero_add]
          have := cell_of_row w b j arr e (0, 0) harr
          simp only [World.cell?_drew]
          rw [this]
          exact hxget j u hj
        have hfo := run_firstCells_some (P := P) w.drew ti.size es.length ⟨b, 0, none⟩ es.length cap (arr.toList.take (es.length * s3)) (by rw [hxl, htsz]) holds
        have hrun := run_append_grow_src (P := P) w t tx ty e ti zv ht hti hzero (some ⟨b, 0, none⟩) es.length cap (arr.toList.take (es.length * s3)) hfo vy ys.length news hs (by omega) hm63 (growslice_fits (by omega) hnb)
        have hge := grownCap_ge w (es.length + ys.length) cap e
        have hcm2 : grownCap w (es.length + ys.length) cap e ≤ maxLen := grownCap_le_maxLen w _ cap e hmax
        refine fin w.heap.size (grownCap w (es.length + ys.length) cap e) _ _ (arr.toList.take (es.length * s3)) hrun (fun k hk _ => RowKit.Below.heap_alloc w.drew _ k hk) (by simp) rfl rfl rfl (heap_alloc_new w.drew _) (.inr (Nat.le_refl _)) ?_ hge hcm2 hrow.1 hxl hxrep ?_
        · simp only [Array.size_append, List.size_toArray, size_zeroCells, hzs, hnl, hxl, ← Nat.add_mul, List.length_append]
          congr 1; omega
        · intro q u hq
          have hlt := (List.getElem?_eq_some_iff.1 hq).1
          rw [Array.getElem?_append_left (by simpa using hlt)]
          simpa using hq

/-- What an append comes to. -/
def appendA (P : Program) (s : St) (t tx : TypeId) (x y : AV) : Option (AV × List AObj) :=
  match P.underlying t, srcA P s.L tx y with
  | some (.slice e), some ys =>
    if (ys.all (fun z => z.cells.length == P.cellsOf e) = true ∧ (P.info? e).isSome) ∧ (0 < P.cellsOf e ∧ (decide (P.bytesOf e ≤ 1024)) = true) ∧ ((zeroOf P e).map (·.cells.size) = some (P.cellsOf e)) ∧ noOwn ys = true ∧ (isStrA y = true → P.cellsOf e = 1) then
      match x with
      | .ref id [] g n =>
        match s.L[id]? with
        | some (.vec T sz g' es) =>
          if (g = g' ∧ T = e ∧ sz = P.cellsOf e) ∧ n + ys.length ≤ 137438953472 ∧ noOwn es = true then
            if n = es.length then some (.ref id [] (g + 1) (n + ys.length), s.L.set id (.vec T sz (g + 1) (es ++ ys)))
            else if n ≤ es.length then some (.ref id [] (g + 2) (n + ys.length), s.L.set id (.vec T sz (g + 2) (es.take n ++ ys)))
            else none
          else none
        | _ => none
      | .lit (.slice none 0 0) => if ys.length ≤ 137438953472 then some (.ref s.L.length [] 1 ys.length, s.L ++ [.vec e (P.cellsOf e) 1 ys]) else none
      | _ => none
    else none
  | _, _ => none
where
  isStrA : AV → Bool
  | .str _ => true
  | _ => false

theorem isStrA_sl (o : Bool) (es : List AV) : appendA.isStrA (.sl o es) = false := rfl
theorem isStrA_ref (id g n : Nat) (p : Pth) : appendA.isStrA (.ref id p g n) = false := rfl
theorem isStrA_lit (v : Value) : appendA.isStrA (.lit v) = false := rfl
theorem isStrA_str (s : ByteArray) : appendA.isStrA (.str s) = true := rfl
theorem isStrA_no {y : AV} (h : appendA.isStrA y = true → False) {s : ByteArray} : y ≠ .str s := by
  rintro rfl; exact h rfl

theorem append_sound {P : Program} {o : Oper} {s : St} {t tx : TypeId} {x y : Operand} {r : AV} {L' : List AObj}
    (ho : o.op = .call { callee := .builtin .append, args := #[x, y], argTypes := #[t, tx] }) (h : appendA P s t tx (s.ev x) (s.ev y) = some (r, L')) :
    OpS P o s ({ s with L := L' }.put o.dst r) := by
  intro γ a w K Q hr hK
  refine .inl ?_
  have hvx := hr.ev x
  have hvy := hr.ev y
  unfold appendA at h
  split at h
  case h_2 => cases h
  rename_i e ys ht hys
  split at h
  case isFalse => cases h
  rename_i hc
  obtain ⟨⟨hyl, hi⟩, ⟨hsz, hbw⟩, hz, n2, hstr⟩ := hc
  have hyl' : ∀ z ∈ ys, z.cells.length = P.cellsOf e := fun z hz => by simpa using List.all_eq_true.1 hyl z hz
  have hbw' : P.bytesOf e ≤ 1024 := by simpa using hbw
  have hb := srcA_sound hr.inv hvy hys hsz hyl' (fun s hs => hstr (by rw [hs]; rfl))
  have fin : ∀ {v' w' γ' L1 r1}, (Builtin.append_ #[t, tx] o.type #[a.eval x, a.eval y]).run P w = .ok v' w' → RV γ' L1 r1 v' → Ext γ s.L γ' L1 → Inv γ' L1 w' → Stp γ w γ' w' → (r1, L1) = (r, L') → o.wp P a w K Q := by
    intro v' w' γ' L1 r1 hrun hrv hE hI hS he
    cases he
    unfold Oper.wp execOp
    simp only [ho, resolve, invoke, builtin, Sem.run_bind, Sem.run_pure, Result.andThen_ok, List.map_toArray, List.map_cons, List.map_nil, hrun]
    exact hK _ _ _ ((hr.mono hE hI).put o.dst hrv) (by rw [St.put_L]; exact hE) hS
  split at h
  · rename_i id g n hx
    split at h
    · rename_i T sz g' es hL
      split at h
      · rename_i hc
        obtain ⟨⟨rfl, rfl, rfl⟩, hlen, n1⟩ := hc
        rw [hx] at hvx
        split at h
        · rename_i hn
          subst hn
          obtain ⟨v', w', γ', k1, k2, k3, k4, k5⟩ := append_core (ty := o.type) hr.inv ht hi hsz hbw' hz hL hvx hyl' n1 n2 hlen hb
          exact fin k1 k2 k3 k4 k5 (Option.some.inj h)
        · split at h
          · rename_i hn
            obtain ⟨E1, hI1⟩ := hr.inv.trunc hL n1 hn
            have hlt := (List.getElem?_eq_some_iff.1 hL).1
            have htl : (es.take n).length = n := by rw [List.length_take]; omega
            have hb1 : Brings P γ (s.L.set id (.vec T (P.cellsOf T) (g + 1) (es.take n))) w (P.cellsOf T) tx (a.eval y) ys := by
              obtain ⟨news, b1, b2⟩ := hb
              exact ⟨news, b1, fun i z j y hz hy => by obtain ⟨u, c1, c2, c3⟩ := b2 i z j y hz hy; exact ⟨u, c1, c2, c3.mono E1⟩⟩
            have n1' : noOwn (es.take n) = true := List.all_eq_true.2 fun z hz => List.all_eq_true.1 n1 z (List.mem_of_mem_take hz)
            obtain ⟨v', w', γ', k1, k2, k3, k4, k5⟩ := append_core (ty := o.type) hI1 ht hi hsz hbw' hz (List.getElem?_set_self hlt) (by rw [htl]; exact RV.trunc hL hn hvx) hyl' n1' n2 (by rw [htl]; exact hlen) hb1
            rw [List.set_set] at k2 k3 k4
            rw [htl] at k2
            exact fin k1 k2 (E1.trans k3) k4 k5 (Option.some.inj h)
          · cases h
      · cases h
    · cases h
  · rename_i hx
    split at h
    · rename_i hlen
      rw [hx] at hvx
      have hE := Ext.more γ s.L [AObj.vec e (P.cellsOf e) 0 []]
      have hI := hr.inv.moreVec e (P.cellsOf e)
      have hL : (s.L ++ [AObj.vec e (P.cellsOf e) 0 []])[s.L.length]? = some (.vec e (P.cellsOf e) 0 []) := by simp
      generalize hvx0 : a.eval x = vx at hvx
      cases hvx
      have hrf : RV γ (s.L ++ [AObj.vec e (P.cellsOf e) 0 []]) (.ref s.L.length [] 0 ([] : List AV).length) (.slice none 0 0) := by
        refine .ref _ _ _ _ _ ?_ rfl
        unfold RefOk
        rw [hL]
        refine ⟨Nat.le_refl _, fun _ => ⟨[], rfl, Nat.le_refl _, .inl ⟨by trivial, by trivial, fun b c hb => ?_⟩⟩⟩
        have := hr.inv.idlt hb
        omega
      have hb1 : Brings P γ (s.L ++ [AObj.vec e (P.cellsOf e) 0 []]) w (P.cellsOf e) tx (a.eval y) ys := by
        obtain ⟨news, b1, b2⟩ := hb
        exact ⟨news, b1, fun i z j y hz hy => by obtain ⟨u, c1, c2, c3⟩ := b2 i z j y hz hy; exact ⟨u, c1, c2, c3.mono hE⟩⟩
      obtain ⟨v', w', γ', k1, k2, k3, k4, k5⟩ := append_core (ty := o.type) hI ht hi hsz hbw' hz hL hrf hyl' rfl n2 (by simpa using hlen) hb1
      have e1 : (s.L ++ [AObj.vec e (P.cellsOf e) 0 []]).set s.L.length (.vec e (P.cellsOf e) (0 + 1) ([] ++ ys)) = s.L ++ [AObj.vec e (P.cellsOf e) 1 ys] := by simp
      rw [e1] at k2 k3 k4
      exact fin (by rw [hvx0]; exact k1) k2 (hE.trans k3) k4 k5 (by rw [← Option.some.inj h]; simp)
    · cases h
  · cases h

end Go.Proofs.Ytobdpkkmkbafbaa.K
/-
  A logic of values for Go's functions (part 10d): rows that are made; stores into rows; literal rows of the call's own.
-/
namespace Go.Proofs.Ytobdpkkmkbafbaa.K
set_option linter.unusedVariables false
set_option linter.unusedSimpArgs false
open Go Go.RowKit

/-- Is it a value with cells? -/
def AV.solid : AV → Bool
  | .junk => false
  | .tup _ => false
  | _ => true

theorem AV.solid_spec {x : AV} (h : x.solid = true) : x ≠ .junk ∧ ∀ vs, x ≠ .tup vs := by
  cases x <;> simp [AV.solid] at h ⊢

theorem fillA_length {place : Nat → Option (Nat × Nat)} : ∀ {parts : List (Nat × AV)} {cells zs : List AV}, fillA place cells parts = some zs → zs.length = cells.length
  | [], cells, zs, h => by simp [fillA] at h; rw [h]
  | (i, v) :: rest, cells, zs, h => by
    unfold fillA at h
    split at h
    · cases h
    · split at h
      · cases h
      · rename_i off size _ hc
        split at h
        · cases h
        · cases h
        · have := fillA_length h
          simp only [not_or, Decidable.not_not, Nat.not_lt] at hc
          rw [this]
          simp only [List.length_append, List.length_take, List.length_drop]
          omega

/-! ### rows that are made -/
/-- A zero value as an element. -/
def zeroE (z : Value) : AV :=
  match z with
  | .agg cs => .agg (cs.toList.map absA)
  | v => absA v

theorem absA_cells (v : Value) : (absA v).cells = [absA v] := by
  unfold absA
  split <;> first | rfl | (split <;> rfl)

theorem absA_noOwn (v : Value) : ∀ xs, absA v ≠ .sl true xs := by
  intro xs
  unfold absA
  split <;> first | (intro h; cases h) | (split <;> intro h <;> cases h)

theorem zeroE_cells {z : Value} (h : ∀ vs, z ≠ .tuple vs) : (zeroE z).cells = z.cells.toList.map absA := by
  unfold zeroE
  split
  · rfl
  · rename_i hne
    rw [absA_cells]
    cases z <;> first | rfl | exact absurd rfl (hne _) | exact absurd rfl (h _)

def makeA (P : Program) (s : St) (t : TypeId) (l c : AV) : Option (AV × List AObj) :=
  match P.underlying t, asI l, asI c with
  | some (.slice e), some n, some m =>
    match zeroOf P e with
    | some z =>
      if (0 ≤ n ∧ n ≤ m ∧ m ≤ 137438953472) ∧ (decide (P.bytesOf e ≤ 1024)) = true ∧ (P.info? e).isSome ∧ 0 < P.cellsOf e ∧ z.cells.size = P.cellsOf e ∧ z.cells.all (·.oneCell') = true ∧ isTup z = false then
        some (.ref s.L.length [] 0 n.toNat, s.L ++ [.vec e (P.cellsOf e) 0 (List.replicate n.toNat (zeroE z))])
      else none
    | none => none
  | _, _, _ => none
where
  isTup : Value → Bool
  | .tuple _ => true
  | _ => false

theorem make_sound {P : Program} {o : Oper} {s : St} {t : TypeId} {x y : Operand} {r : AV} {L' : List AObj}
    (ho : o.op = .makeSlice t x y) (h : makeA P s t (s.ev x) (s.ev y) = some (r, L')) : OpS P o s ({ s with L := L' }.put o.dst r) := by
  intro γ a w K Q hr hK
  refine .inl ?_
  have hvx := hr.ev x
  have hvy := hr.ev y
  unfold makeA at h
  split at h
  case h_2 => cases h
  rename_i e n m ht hx hy
  obtain ⟨kl, hx⟩ : ∃ k, s.ev x = .int k n := by
    unfold asI at hx; split at hx <;> cases hx; exact ⟨_, by assumption⟩
  obtain ⟨kc, hy⟩ : ∃ k, s.ev y = .int k m := by
    unfold asI at hy; split at hy <;> cases hy; exact ⟨_, by assumption⟩
  split at h
  case h_2 => cases h
  rename_i z hz
  split at h
  case isFalse => cases h
  rename_i hc
  obtain ⟨⟨h0, hnm, hm⟩, hbw, hi, hsz, hzs, hz1, htup⟩ := hc
  cases h
  rw [hx] at hvx
  rw [hy] at hvy
  generalize hex : a.eval x = vx at hvx
  generalize hey : a.eval y = vy at hvy
  cases hvx
  cases hvy
  obtain ⟨ti, hti, hzero⟩ := Option.bind_eq_some_iff.1 hz
  have htsz : ti.size = P.cellsOf e := by simp [Program.cellsOf, hti]
  have hby : ti.bytes ≤ 1024 := by
    have h1 : P.bytesOf e ≤ 1024 := by simpa using hbw
    simpa [Program.bytesOf, hti] using h1
  have hbytes : (ti.bytes : Int) * m ≤ 281474976710656 := by
    have h1 : (ti.bytes : Int) * m ≤ 1024 * m := Int.mul_le_mul_of_nonneg_right (by omega) (by omega)
    omega
  have hrun := run_make (P := P) w t e ti z ht hti hzero kl kc n m h0 hnm hbytes (by omega)
  have hzc : (zeroE z).cells = z.cells.toList.map absA := zeroE_cells (fun vs he => by subst he; simp [makeA.isTup] at htup)
  have hzl : (zeroE z).cells.length = P.cellsOf e := by rw [hzc]; simp [hzs]
  have hA := hr.inv.allocObj (.cells (madeCells z.cells (m.toNat * ti.size)) e) (AObj.vec e (P.cellsOf e) 0 (List.replicate n.toNat (zeroE z))) m.toNat (fun E => by
    unfold BlockRep
    simp only [List.getElem?_append_right (Nat.le_refl _), Nat.sub_self, List.getElem?_cons_zero]
    refine ⟨_, P.cellsOf e, _, e, rfl, rfl, fun _ => ⟨rfl, rfl⟩, by rw [size_madeCells, htsz], by simp; omega, by unfold maxLen; omega, fun x hx => ?_, fun i x j y hx hy => ?_⟩
    · rw [(List.mem_replicate.1 hx).2]; exact hzl
    · rw [List.getElem?_replicate] at hx
      split at hx
      case isFalse => cases hx
      rename_i hin
      cases hx
      have hjl : j < P.cellsOf e := by rw [← hzl]; exact (List.getElem?_eq_some_iff.1 hy).1
      rw [hzc, List.getElem?_map, Option.map_eq_some_iff] at hy
      obtain ⟨u, hu, rfl⟩ := hy
      have hju : z.cells[j]? = some u := by simpa using hu
      have hlt : i * P.cellsOf e + j < m.toNat * ti.size := by
        rw [htsz]
        have : (i + 1) * P.cellsOf e ≤ m.toNat * P.cellsOf e := Nat.mul_le_mul_right _ (by omega)
        rw [Nat.add_mul, Nat.one_mul] at this; omega
      have hmod : (i * P.cellsOf e + j) % z.cells.size = j := by rw [hzs, Nat.mul_comm, Nat.mul_add_mod, Nat.mod_eq_of_lt hjl]
      refine ⟨u, ?_, (Array.all_eq_true_iff_forall_mem.1 hz1) u (Array.mem_of_getElem? hju), ?_⟩
      · simp only [madeCells, Array.getElem?_map, Array.getElem?_range, hlt, if_true, Option.map_some, hmod]
        rw [getElem!_pos z.cells j (by omega)]
        rw [Array.getElem?_eq_getElem (by omega)] at hju
        exact hju
      · have : CV (newG γ w.heap.size (.ow s.L.length [] m.toNat)) (s.L ++ [AObj.vec e (P.cellsOf e) 0 (List.replicate n.toNat (zeroE z))]) s.L.length ([] ++ [(i, j)]) (absA u) u := by
          unfold CV
          split
          · rename_i xs hxs; exact absurd hxs (absA_noOwn u xs)
          · exact .absA u
        exact this)
  obtain ⟨E, hI, hS⟩ := hA
  unfold Oper.wp execOp
  simp only [ho, Sem.run_bind, hex, hey, hrun, Result.andThen_ok, Sem.run_pure]
  refine hK _ _ _ ((hr.mono E hI).put o.dst (.ref _ _ _ _ _ ?_ rfl)) (by rw [St.put_L]; exact E) hS
  unfold RefOk
  simp only [List.getElem?_append_right (Nat.le_refl _), Nat.sub_self, List.getElem?_cons_zero]
  exact ⟨Nat.le_refl _, fun _ => ⟨_, rfl, by simp, .inr ⟨w.heap.size, m.toNat, rfl, by simp [newG]⟩⟩⟩

/-! ### literal rows of the call's own -/
def litElems (P : Program) (t : TypeId) (n : Nat) (parts : List (Nat × AV)) : Option (TypeId × List AV) :=
  match P.underlying t with
  | some (.slice e) =>
    if n = 0 then (if parts.isEmpty ∧ (P.info? e).isSome then some (e, []) else none)
    else match litA P t n parts with
      | some (.sl _ es) => if noOwn es = true then some (e, es) else none
      | _ => none
  | _ => none

theorem litOwn_sound {P : Program} {o : Oper} {s : St} {t e : TypeId} {n : Nat} {parts : Array (Nat × Operand)} {es : List AV} (ho : o.op = .buildSlice t n parts)
    (h : litElems P t n (parts.toList.map fun p => (p.1, s.ev p.2)) = some (e, es)) : OpS P o s ({ s with L := s.L ++ [AObj.vec e (P.cellsOf e) 0 es] }.put o.dst (.ref s.L.length [] 0 n)) := by
  intro γ a w K Q hr hK
  refine .inl ?_
  unfold litElems at h
  split at h
  case h_2 => cases h
  rename_i e' ht
  have fin : ∀ (cs' : Array Value), e' = e → (Instr.buildSlice t n (parts.map fun (i, x) => (i, a.eval x))).run P w = .ok (.slice (some ⟨w.heap.size, 0, none⟩) n n) (w.alloc (.cells cs' e)) → n = es.length → n ≤ maxLen →
      noOwn es = true → cs'.size = n * P.cellsOf e → (∀ x ∈ es, x.cells.length = P.cellsOf e) →
      (∀ (i : Nat) x (j : Nat) y, es[i]? = some x → x.cells[j]? = some y → ∃ u, cs'[i * P.cellsOf e + j]? = some u ∧ u.oneCell' = true ∧ RV γ s.L y u) → o.wp P a w K Q := by
    intro cs' he hrun hn hm hno hcs hl hcell
    subst he
    have hA := hr.inv.allocObj (.cells cs' e') (AObj.vec e' (P.cellsOf e') 0 es) n (fun E => by
      unfold BlockRep
      simp only [List.getElem?_append_right (Nat.le_refl _), Nat.sub_self, List.getElem?_cons_zero]
      refine ⟨_, P.cellsOf e', _, e', rfl, rfl, fun _ => ⟨rfl, rfl⟩, hcs, by omega, hm, hl, fun i x j y hx hy => ?_⟩
      obtain ⟨u, h1, h2, h3⟩ := hcell i x j y hx hy
      exact ⟨u, h1, h2, (noOwn_CV hno hx hy).2 (h3.mono E)⟩)
    obtain ⟨E, hI, hS⟩ := hA
    unfold Oper.wp execOp
    rw [ho]
    simp only [Sem.run_bind, hrun, Result.andThen_ok, Sem.run_pure]
    refine hK _ _ _ ((hr.mono E hI).put o.dst (.ref _ _ _ _ _ ?_ rfl)) (by rw [St.put_L]; exact E) hS
    unfold RefOk
    simp only [List.getElem?_append_right (Nat.le_refl _), Nat.sub_self, List.getElem?_cons_zero]
    exact ⟨Nat.le_refl _, fun _ => ⟨_, rfl, by omega, .inr ⟨w.heap.size, n, rfl, by simp [newG]⟩⟩⟩
  split at h
  · rename_i hn0
    subst hn0
    split at h
    case isFalse => cases h
    rename_i hc
    cases h
    obtain ⟨hpe, hi⟩ := hc
    have hp0 : parts = #[] := by
      have : parts.toList = [] := by simpa using hpe
      exact Array.toList_inj.1 (by simpa using this)
    subst hp0
    refine fin #[] rfl ?_ rfl (by unfold maxLen; omega) rfl (by simp) (by simp) (by simp)
    simp [Instr.buildSlice, run_underlying ht, run_sizeOf w hi, newRow, newObj, Sem.run, Instr.fill]
    congr 2
    exact Array.ext' (by simp)
  · split at h
    case h_2 => cases h
    rename_i own es' hl
    split at h
    case isFalse => cases h
    rename_i hno
    cases h
    unfold litA at hl
    split at hl
    case h_2 => cases hl
    rename_i e2 ht2
    rw [ht] at ht2; cases ht2
    split at hl
    case h_2 => cases hl
    rename_i z hz
    split at hl
    case isFalse => cases hl
    rename_i hc
    obtain ⟨hi, h24, h0, hn24, hzs, hz1⟩ := hc
    split at hl
    case h_2 => cases hl
    rename_i zs hfill
    obtain ⟨es2, hes, he2⟩ := Option.map_eq_some_iff.1 hl
    cases he2
    obtain ⟨hel, hee⟩ := mapM_upTo hes
    have hzr : (zeroValue e).run P w = .ok z w := by
      unfold zeroOf at hz
      obtain ⟨i, hi, hz⟩ := Option.bind_eq_some_iff.1 hz
      simp [zeroValue, typeInfo, hi, hz]
    have hinit : CellsR γ s.L ((upTo (n * P.cellsOf e) 0).map fun q => absV z.cells[q % z.cells.size]!) ((Array.range (n * P.cellsOf e)).map (z.cells[· % z.cells.size]!)) := by
      refine ⟨by simp [upTo_eq], fun j y hy => ?_⟩
      rw [upTo_eq] at hy
      simp only [List.getElem?_map, Option.map_eq_some_iff] at hy
      obtain ⟨q, hq, rfl⟩ := hy
      have hj : j < n * P.cellsOf e := by have := (List.getElem?_eq_some_iff.1 hq).1; simpa using this
      have hqj : q = j := by simp [List.getElem?_range, hj] at hq; omega
      subst hqj
      have hsz : 0 < P.cellsOf e := by
        rcases Nat.eq_zero_or_pos (P.cellsOf e) with h | h
        · simp [h] at h0
        · exact h
      have hlt : q % z.cells.size < z.cells.size := Nat.mod_lt _ (by omega)
      refine ⟨z.cells[q % z.cells.size]!, by simp [hj], ?_, .absV _⟩
      rw [getElem!_pos z.cells _ hlt]
      exact (Array.all_eq_true_iff_forall_mem.1 hz1) _ (Array.getElem_mem hlt)
    have hparts : ∀ (i : Nat) (p : Nat × AV) (q : Nat × Value), (parts.toList.map fun p => (p.1, s.ev p.2))[i]? = some p → ((parts.map fun (i, x) => (i, a.eval x)).toList)[i]? = some q → p.1 = q.1 ∧ RV γ s.L p.2 q.2 := by
      intro i p q hp hq
      simp only [List.getElem?_map, Option.map_eq_some_iff, Array.toList_map] at hp hq
      obtain ⟨c, hc, rfl⟩ := hp
      obtain ⟨d, hd, rfl⟩ := hq
      rw [hc] at hd; cases hd
      exact ⟨rfl, hr.ev _⟩
    obtain ⟨cs', hf, hcr⟩ := fillA_run _ _ _ _ _ hinit (by simp) hparts hfill
    have hzl := fillA_length hfill
    have hrun : (Instr.buildSlice t n (parts.map fun (i, x) => (i, a.eval x))).run P w = .ok (.slice (some ⟨w.heap.size, 0, none⟩) n n) (w.alloc (.cells cs' e)) := by
      have h24' : ¬ (16777216 < n * P.cellsOf e) := by omega
      rw [show (parts.map fun (i, x) => (i, a.eval x)).toList = parts.toList.map (fun x => (x.1, a.eval x.2)) from by simp] at hf
      simp [Instr.buildSlice, run_underlying ht, run_sizeOf w hi, h24', h0, hzr, hf, newRow, newObj, Sem.run]
    refine fin cs' rfl hrun hel.symm (by unfold maxLen; omega) hno ?_ (fun x hx => ?_) (fun i x j y hx hy => ?_)
    · rw [hcr.1, hzl]; simp [upTo_eq]
    · obtain ⟨i, hi, rfl⟩ := List.getElem_of_mem hx
      exact (elemA_spec (hee i _ (List.getElem?_eq_getElem hi))).1
    · obtain ⟨_, h2⟩ := elemA_spec (hee i x hx)
      exact hcr.2 _ y (h2 j y hy)

/-! ### stores into rows -/
def aggB : AV → Bool
  | .agg _ => true
  | _ => false
def setE (e : AV) (off n : Nat) (x : AV) : AV :=
  match e with
  | .agg cs => .agg (cs.take off ++ x.cells ++ cs.drop (off + n))
  | _ => x

def storeE (P : Program) (s : St) (t : TypeId) (p x : AV) : Option St :=
  match p with
  | .eptr id [] g i off =>
    match s.L[id]? with
    | some (.vec T sz g' es) =>
      match es[i]? with
      | some e =>
        if (g = g' ∧ (P.info? t).isSome ∧ x.cells.length = P.cellsOf t ∧ off + P.cellsOf t ≤ e.cells.length) ∧ noOwn es = true ∧ noOwn1 x = true ∧ x.solid = true ∧ (aggB e = true ∨ (aggB x = false ∧ aggB e = false ∧ P.cellsOf t = 1)) then
          some { s with L := s.L.set id (.vec T sz g (es.set i (setE e off (P.cellsOf t) x))) }
        else none
      | none => none
    | _ => none
  | _ => none

theorem setE_spec {e x : AV} {off n : Nat} (hx : x.cells.length = n) (hle : off + n ≤ e.cells.length) (h : aggB e = true ∨ (aggB x = false ∧ aggB e = false ∧ n = 1)) :
    (setE e off n x).cells = e.cells.take off ++ x.cells ++ e.cells.drop (off + n) := by
  rcases h with h | ⟨h1, h2, h3⟩
  · cases e <;> first | rfl | (simp [aggB] at h)
  · have hc : e.cells = [e] := by cases e <;> first | rfl | (simp [aggB] at h2)
    have hs : setE e off n x = x := by cases e <;> first | rfl | (simp [aggB] at h2)
    rw [hs, hc]
    rw [hc] at hle
    simp only [List.length_cons, List.length_nil] at hle
    have : off = 0 := by omega
    subst this h3
    simp

theorem storeE_sound {P : Program} {o : Oper} {s s' : St} {t : TypeId} {p x : Operand} (ho : o.op = .store t p x) (hd : o.dst = none) (h : storeE P s t (s.ev p) (s.ev x) = some s') : OpS P o s s' := by
  intro γ a w K Q hr hK
  refine .inl ?_
  unfold storeE at h
  split at h
  case h_2 => cases h
  rename_i id g i off hp
  split at h
  case h_2 => cases h
  rename_i T sz g' es hL
  split at h
  case h_2 => cases h
  rename_i e he
  split at h
  case isFalse => cases h
  rename_i hc
  obtain ⟨⟨rfl, hi, hlen, hle⟩, hno, hno1, hsol, hag⟩ := hc
  cases h
  obtain ⟨hj, ht⟩ := AV.solid_spec hsol
  have hpv := hr.ev p
  rw [hp] at hpv
  generalize hpe : a.eval p = pv at hpv
  cases hpv with
  | eptr _ _ _ _ _ _ hok _ =>
    unfold EptrOk at hok
    rw [hL] at hok
    obtain ⟨_, hok⟩ := hok
    obtain ⟨es', e', b, c, sz', hs, he', hes, hall, rfl, hb⟩ := hok rfl
    simp [sub] at hs; subst hs
    rw [he] at he'; cases he'
    have hcr := (hr.ev x).cellsR hj ht
    obtain ⟨arr, s3, T', harr, hTs, hasz, hlc, hcm, hrow⟩ := hr.inv.rowCell hL rfl hb
    obtain ⟨hT', rfl⟩ := hTs rfl
    obtain rfl : T = T' := hT'.symm
    have hss : sz' = s3 := by rw [← hes, hrow.1 e (List.mem_of_getElem? he)]
    subst hss
    have hil : i < es.length := (List.getElem?_eq_some_iff.1 he).1
    have hone : ∀ v ∈ (a.eval x).cells.toList, v.oneCell' = true := by
      intro v hv
      obtain ⟨j, hj', rfl⟩ := List.getElem_of_mem hv
      have hj2 : j < (a.eval x).cells.size := by simpa using hj'
      obtain ⟨u, hu, h1, _⟩ := hcr.2 j ((s.ev x).cells[j]'(by have := hcr.1; omega)) (by simp)
      rw [Array.getElem?_eq_getElem hj2] at hu
      cases hu
      simpa using h1
    have hsz2 : (a.eval x).cells.size = P.cellsOf t := by rw [hcr.1, hlen]
    have hbound : i * sz' + off + P.cellsOf t ≤ arr.size := by
      rw [hasz]
      have : (i + 1) * sz' ≤ c * sz' := Nat.mul_le_mul_right _ (by omega)
      rw [Nat.add_mul, Nat.one_mul] at this; omega
    have hst := run_storeCells_at P b (i * sz' + off) T (a.eval x).cells.toList 0 arr w harr (by simp; rw [hsz2]; omega) hone
    simp only [Nat.add_zero, Array.length_toList, hsz2] at hst
    have hrun : (Instr.storeAt t (.pointer (some ⟨b, i * sz' + off, none⟩)) (a.eval x)).run P w = .ok () (w.setRow b (arr.toList.take (i * sz' + off) ++ (a.eval x).cells.toList ++ arr.toList.drop (i * sz' + off + P.cellsOf t)).toArray) := by
      simp only [Instr.storeAt, Instr.sureAddr, Sem.run_bind, Sem.run_pure, Result.andThen_ok, storeVar, run_sizeOf w hi, hsz2, ne_eq, not_true_eq_false, if_false]
      rw [hst]
    have hse := setE_spec (e := e) (x := s.ev x) (off := off) (n := P.cellsOf t) hlen hle hag
    have hsel : (setE e off (P.cellsOf t) (s.ev x)).cells.length = sz' := by
      rw [hse, ← hes]
      simp only [List.length_append, List.length_take, List.length_drop, hlen]; omega
    have hno' : noOwn (es.set i (setE e off (P.cellsOf t) (s.ev x))) = true := by
      refine List.all_eq_true.2 fun z hz => ?_
      rcases List.mem_or_eq_of_mem_set hz with hz | rfl
      · exact List.all_eq_true.1 hno z hz
      · rw [hse]
        refine List.all_eq_true.2 fun y hy => ?_
        rcases List.mem_append.1 hy with hy | hy
        · rcases List.mem_append.1 hy with hy | hy
          · exact List.all_eq_true.1 (List.all_eq_true.1 hno e (List.mem_of_getElem? he)) y (List.mem_of_mem_take hy)
          · exact List.all_eq_true.1 hno1 y hy
        · exact List.all_eq_true.1 (List.all_eq_true.1 hno e (List.mem_of_getElem? he)) y (List.mem_of_mem_drop hy)
    have hlt := (List.getElem?_eq_some_iff.1 hL).1
    have hW := hr.inv.write (x' := AObj.vec T sz' g (es.set i (setE e off (P.cellsOf t) (s.ev x)))) (w' := w.setRow b (arr.toList.take (i * sz' + off) ++ (a.eval x).cells.toList ++ arr.toList.drop (i * sz' + off + P.cellsOf t)).toArray)
      (o' := .cells (arr.toList.take (i * sz' + off) ++ (a.eval x).cells.toList ++ arr.toList.drop (i * sz' + off + P.cellsOf t)).toArray T (0, 0)) hb hL
      ⟨rfl, rfl, .inr ⟨rfl, fun q e1 hq => by
        obtain ⟨rfl, rfl⟩ := noOwn_sub hno hq
        refine ⟨_, rfl, List.length_set .., fun k y hy => ?_⟩
        by_cases hki : i = k
        · subst hki
          rw [he] at hy; cases hy
          exact ⟨_, by rw [List.getElem?_set_self hil], by rw [hsel, hes]⟩
        · exact ⟨y, by rw [List.getElem?_set_ne hki]; exact hy, rfl⟩⟩⟩ ⟨fun _ _ h => (by cases h), fun _ _ _ h => (by cases h)⟩
      (fun k hk => setRow_other w b k _ hk) (setRow_heap w b arr _ T (0, 0) harr) (by simp [World.setRow]) rfl rfl rfl
      (fun E => by
        unfold BlockRep
        simp only [List.getElem?_set_self hlt]
        refine ⟨_, sz', _, T, rfl, rfl, fun _ => ⟨rfl, rfl⟩, ?_, by simpa using hlc, hcm, fun z hz => ?_, fun k z j y hz hy => ?_⟩
        · simp only [List.size_toArray, List.length_append, List.length_take, List.length_drop, Array.length_toList, hsz2]; omega
        · rcases List.mem_or_eq_of_mem_set hz with hz | rfl
          · exact hrow.1 z hz
          · exact hsel
        · have hjl : j < sz' := by
            have := (List.getElem?_eq_some_iff.1 hy).1
            rcases List.mem_or_eq_of_mem_set (List.mem_of_getElem? hz) with hz | rfl
            · rw [hrow.1 z hz] at this; exact this
            · rw [hsel] at this; exact this
          have hold : ∀ (z : AV), es[k]? = some z → z.cells[j]? = some y → (k * sz' + j < i * sz' + off ∨ i * sz' + off + P.cellsOf t ≤ k * sz' + j) →
              ∃ v, (arr.toList.take (i * sz' + off) ++ (a.eval x).cells.toList ++ arr.toList.drop (i * sz' + off + P.cellsOf t)).toArray[k * sz' + j]? = some v ∧ v.oneCell' = true ∧ CV γ (s.L.set id (.vec T sz' g (es.set i (setE e off (P.cellsOf t) (s.ev x))))) id ([] ++ [(k, j)]) y v := by
            intro z hz hy hor
            obtain ⟨v, a1, a2, a3⟩ := hrow.2 k z j y hz hy
            refine ⟨v, ?_, a2, a3.mono E (fun b c hb => hb) (fun b c hb => hb)⟩
            simp only [List.getElem?_toArray, List.append_assoc, List.getElem?_append, List.length_take, Array.length_toList, hsz2]
            rcases hor with hor | hor
            · rw [if_pos (by omega), List.getElem?_take, if_pos hor]
              simpa using a1
            · rw [if_neg (by omega), if_neg (by omega), List.getElem?_drop]
              rw [show i * sz' + off + P.cellsOf t + (k * sz' + j - min (i * sz' + off) arr.size - P.cellsOf t) = k * sz' + j by omega]
              simpa using a1
          by_cases hki : i = k
          · subst hki
            simp [hil] at hz
            subst hz
            rw [hse] at hy
            rw [List.append_assoc, List.getElem?_append] at hy
            have hto : (e.cells.take off).length = off := by rw [List.length_take]; omega
            rw [hto] at hy
            split at hy
            · rename_i hjo
              refine hold e he ?_ (.inl (by omega))
              rw [List.getElem?_take, if_pos hjo] at hy
              exact hy
            · rename_i hjo
              rw [List.getElem?_append] at hy
              split at hy
              · rename_i hjm
                obtain ⟨u, h1, h2, h3⟩ := hcr.2 _ y hy
                refine ⟨u, ?_, h2, ?_⟩
                · simp only [List.getElem?_toArray, List.append_assoc, List.getElem?_append, List.length_take, Array.length_toList, hsz2]
                  rw [if_neg (by omega), if_pos (by omega)]
                  rw [show i * sz' + j - min (i * sz' + off) arr.size = j - off by omega]
                  simpa using h1
                · have hny := List.all_eq_true.1 hno1 y (List.mem_of_getElem? hy)
                  unfold CV
                  split
                  · simp at hny
                  · exact h3.mono E
              · rename_i hjm
                rw [List.getElem?_drop] at hy
                rw [hlen] at hy hjm
                refine hold e he ?_ (.inr (by omega))
                rw [show off + P.cellsOf t + (j - off - P.cellsOf t) = j by omega] at hy
                exact hy
          · rw [List.getElem?_set_ne hki] at hz
            refine hold z hz hy ?_
            rcases Nat.lt_or_gt_of_ne hki with hlt | hgt
            · right
              have : (i + 1) * sz' ≤ k * sz' := Nat.mul_le_mul_right _ hlt
              rw [Nat.add_mul, Nat.one_mul] at this; omega
            · left
              have : (k + 1) * sz' ≤ i * sz' := Nat.mul_le_mul_right _ hgt
              rw [Nat.add_mul, Nat.one_mul] at this; omega)
      (fun E b2 p2 c2 o2 hne hb2 hr2 => by
        exfalso
        unfold BlockRep at hr2
        simp only [hL] at hr2
        obtain ⟨es', s, arr, T', k1, _⟩ := hr2
        obtain ⟨rfl, _⟩ := noOwn_sub hno k1
        exact hne (hr.inv.inj _ _ _ _ _ _ hb2 hb))
    obtain ⟨E, hI, hS⟩ := hW
    unfold Oper.wp execOp
    rw [ho]
    simp only [Sem.run_bind, hpe, hrun, Result.andThen_ok, Sem.run_pure]
    have := hK _ _ _ (hr.mono E hI) E hS
    show K (a.put o.dst undef) _
    rw [hd]
    exact this

/-! ### a nil slice in a variable, told as a row of the call's own -/
theorem AWp.nilB {P : Program} {c : Code} {Q : Exit → St → Prop} {s : St} (id j : Nat) (T : TypeId) (sz : Nat) {T0 : TypeId} {cs : List AV} (hL : s.L[id]? = some (.box T0 cs)) (hj : cs[j]? = some (.lit (.slice none 0 0)))
    (h : AWp P c Q ⟨s.t, s.L.set id (.box T0 (cs.set j (.ref s.L.length [] 0 0))) ++ [.vec T sz 0 []]⟩) : AWp P c Q s := by
  intro ro γ a w hp hr
  have hlt := (List.getElem?_eq_some_iff.1 hL).1
  have hE1 : Ext γ s.L γ (s.L.set id (.box T0 (cs.set j (.ref s.L.length [] 0 0)))) := .set hL ⟨rfl, by simp⟩
  have hE2 := Ext.more γ (s.L.set id (.box T0 (cs.set j (.ref s.L.length [] 0 0)))) [AObj.vec T sz 0 []]
  have hE := hE1.trans hE2
  have hno : ∀ b p c, γ b ≠ .ow s.L.length p c := fun b p c hb => by have := hr.inv.idlt hb; omega
  have hI : Inv γ (s.L.set id (.box T0 (cs.set j (.ref s.L.length [] 0 0))) ++ [.vec T sz 0 []]) w := by
    refine ⟨hr.inv.ro, fun b id1 p c hb => ?_, hr.inv.inj, fun id1 T1 cs1 hL1 => ?_, fun id1 kt vt es hL1 => ?_⟩
    · obtain ⟨o, ho, hrep⟩ := hr.inv.ow _ _ _ _ hb
      have hid := hr.inv.idlt hb
      refine ⟨o, ho, ?_⟩
      by_cases hi : id1 = id
      · subst hi
        unfold BlockRep at hrep ⊢
        simp only [hL] at hrep
        simp only [List.getElem?_append_left (show id1 < (s.L.set id1 (AObj.box T0 (cs.set j (.ref s.L.length [] 0 0)))).length by simpa using hlt), List.getElem?_set_self hlt]
        obtain ⟨h1, arr, h2, h3, h4⟩ := hrep
        refine ⟨h1, arr, h2, by simpa using h3, fun k x hx => ?_⟩
        by_cases hjk : j = k
        · subst hjk
          have hjl := (List.getElem?_eq_some_iff.1 hj).1
          simp [hjl] at hx
          subst hx
          obtain ⟨v, a1, a2, a3⟩ := h4 j _ hj
          refine ⟨v, a1, a2, ?_⟩
          cases a3
          refine .ref _ _ _ _ _ ?_ rfl
          unfold RefOk
          simp only [List.getElem?_append_right (show (s.L.set id1 (AObj.box T0 (cs.set j (.ref s.L.length [] 0 0)))).length ≤ s.L.length by simp), List.length_set, Nat.sub_self, List.getElem?_cons_zero]
          exact ⟨Nat.le_refl _, fun _ => ⟨[], rfl, Nat.le_refl _, .inl ⟨by trivial, by trivial, fun b c hb => hno b _ c hb⟩⟩⟩
        · rw [List.getElem?_set_ne hjk] at hx
          obtain ⟨v, a1, a2, a3⟩ := h4 k x hx
          exact ⟨v, a1, a2, a3.mono hE⟩
      · exact (hrep.upd hE1 (List.getElem?_set_ne (fun e => hi e.symm))).grow hE2 (by simpa using hid) (fun _ _ _ h => h) (fun _ _ _ h => h)
    · by_cases hi : id1 < s.L.length
      · rw [List.getElem?_append_left (by simpa using hi)] at hL1
        by_cases hi2 : id = id1
        · subst hi2; exact hr.inv.box _ _ _ hL
        · rw [List.getElem?_set_ne hi2] at hL1; exact hr.inv.box _ _ _ hL1
      · rw [List.getElem?_append_right (by simp; omega)] at hL1
        obtain ⟨h1, h2⟩ := List.getElem?_eq_some_iff.1 hL1
        simp at h1 h2
    · by_cases hi : id1 < s.L.length
      · rw [List.getElem?_append_left (by simpa using hi)] at hL1
        by_cases hi2 : id = id1
        · subst hi2; simp [hlt] at hL1
        · rw [List.getElem?_set_ne hi2] at hL1; exact hr.inv.map _ _ _ _ hL1
      · rw [List.getElem?_append_right (by simp; omega)] at hL1
        obtain ⟨h1, h2⟩ := List.getElem?_eq_some_iff.1 hL1
        simp at h1 h2
  have hr' := hr.mono hE hI
  refine wpIn_mono (h ro γ a w hp hr') ?_
  rintro e a' w' ⟨γ', s', h1, h2, h3, h4⟩
  exact ⟨γ', s', h1, hE.trans h2, h3, h4⟩

end Go.Proofs.Ytobdpkkmkbafbaa.K
