/-
  A logic of values for Go's functions (part 3): the operations that only compute or read.
-/
import Derived.Test.YtolfjeedgedblaaK2
import Derived.Laws.Strings2
import Derived.Laws.StructEq
namespace Go.Proofs.Ytolfjeedgedblaa.K
set_option linter.unusedVariables false
set_option linter.unusedSimpArgs false
open Go

/-- An element of a row of the call's own, as it is read: what it owns itself is told by its place. -/
def viewC (id : Nat) (q : Pth) (g : Nat) : AV → AV
  | .sl true es => .ref id q g es.length
  | x => x

def eview (id : Nat) (p : Pth) (g i : Nat) (e : AV) : List AV := e.cells.mapIdx fun j c => viewC id (p ++ [(i, j)]) g c

def loadA (P : Program) (s : St) (t : TypeId) : AV → Option AV
  | .ptr id off =>
    match s.L[id]? with
    | some (.box _ cs) => takeA P t cs off
    | _ => none
  | .rptr x off => takeA P t x.cells off
  | .eptr id p g i off =>
    match s.L[id]? with
    | some (.vec _ _ g' es) =>
      if g = g' then
        match sub es p with
        | some es' =>
          match es'[i]? with
          | some e => takeA P t (eview id p g i e) off
          | none => none
        | none => none
      else none
    | _ => none
  | _ => none

/-- What a box's block holds. -/
theorem Inv.boxCell {γ : Nat → Gh} {L : List AObj} {w : World} (h : Inv γ L w) {id b c : Nat} {T : TypeId} {cs : List AV}
    (hL : L[id]? = some (.box T cs)) (hb : γ b = .ow id [] c) :
    ∃ arr, w.heap[b]? = some (.cells arr T (0, 0)) ∧ arr.size = cs.length ∧
      ∀ (j : Nat) y, cs[j]? = some y → ∃ u, arr[j]? = some u ∧ w.cell? ⟨b, j, none⟩ = some u ∧ u.oneCell' = true ∧ RV γ L y u := by
  obtain ⟨o, ho, hrep⟩ := h.ow _ _ _ _ hb
  simp only [BlockRep, hL] at hrep
  obtain ⟨_, arr, rfl, hsz, hall⟩ := hrep
  refine ⟨arr, ho, hsz, fun j y hy => ?_⟩
  obtain ⟨v, h1, h2, h3⟩ := hall j y hy
  exact ⟨v, h1, by rw [cell_of_row w b j arr T (0, 0) ho]; exact h1, h2, h3⟩

/-- What a row's block holds. -/
theorem Inv.rowCell {γ : Nat → Gh} {L : List AObj} {w : World} (h : Inv γ L w) {id b c g : Nat} {p : Pth} {T : TypeId} {sz : Nat} {es es' : List AV}
    (hL : L[id]? = some (.vec T sz g es)) (hs : sub es p = some es') (hb : γ b = .ow id p c) :
    ∃ arr s T', w.heap[b]? = some (.cells arr T' (0, 0)) ∧ (p = [] → T' = T ∧ s = sz) ∧ arr.size = c * s ∧ es'.length ≤ c ∧ c ≤ maxLen ∧ RowRep γ L id p s es' arr := by
  obtain ⟨o, ho, hrep⟩ := h.ow _ _ _ _ hb
  simp only [BlockRep, hL] at hrep
  obtain ⟨es2, s, arr, T', h1, rfl, h2, h3, h4, h5, h6⟩ := hrep
  rw [hs] at h1
  cases h1
  exact ⟨arr, s, T', ho, h2, h3, h4, h5, h6⟩

theorem roCell_cell {γ : Nat → Gh} {L : List AObj} {w : World} (h : Inv γ L w) {b o k : Nat} {v : Value} (hr : roCell γ (some ⟨b, o, none⟩) k = some v) :
    w.cell? ⟨b, o + k, none⟩ = some v := by
  simp only [roCell] at hr
  split at hr
  · rename_i arr T fr hb
    rw [cell_of_row w b (o + k) arr T fr (h.ro _ _ hb)]
    exact hr
  · cases hr

theorem roCell_addr {γ : Nat → Gh} {A : Option Addr} {k : Nat} {v : Value} (hr : roCell γ A k = some v) : ∃ b o, A = some ⟨b, o, none⟩ := by
  unfold roCell at hr
  split at hr
  · exact ⟨_, _, rfl⟩
  · cases hr

/-- A cell of a row, as it is read. -/
theorem RV.viewC {γ : Nat → Gh} {L : List AObj} {id g : Nat} {p : Pth} {i j : Nat} {T : TypeId} {sz : Nat} {es es' : List AV} {e x : AV} {v : Value}
    (hL : L[id]? = some (.vec T sz g es)) (hs : sub es p = some es') (he : es'[i]? = some e) (hx : e.cells[j]? = some x)
    (h1 : v.oneCell' = true) (h : CV γ L id (p ++ [(i, j)]) x v) : RV γ L (viewC id (p ++ [(i, j)]) g x) v := by
  unfold CV at h
  split at h
  · rename_i xs
    refine .ref _ _ _ _ _ ?_ h1
    simp only [RefOk, hL]
    refine ⟨Nat.le_refl _, fun _ => ⟨xs, ?_, Nat.le_refl _, ?_⟩⟩
    · rw [sub_append p es es' _ hs]
      simp only [sub, he, hx]
    · rcases h with ⟨rfl, rfl, hb⟩ | ⟨b, c, rfl, hb⟩
      · exact .inl ⟨rfl, rfl, hb⟩
      · exact .inr ⟨b, c, rfl, hb⟩
  · rename_i hne
    unfold K.viewC
    split
    · rename_i xs; exact absurd rfl (hne xs)
    · exact h

theorem loadA_run {P : Program} {γ : Nat → Gh} {s : St} {w : World} {t : TypeId} {x y : AV} {v : Value} (hI : Inv γ s.L w) (hv : RV γ s.L x v) (h : loadA P s t x = some y) :
    ∃ u, (Instr.loadAt t v).run P w = .ok u w ∧ RV γ s.L y u := by
  unfold loadA at h
  split at h
  · rename_i id off
    split at h
    · rename_i T cs hL
      cases hv with
      | ptr id off b c T' cs' hL' hb =>
        rw [hL] at hL'; cases hL'
        obtain ⟨arr, _, _, hcell⟩ := hI.boxCell hL hb
        obtain ⟨u, hu, hr⟩ := run_loadVar (γ := γ) (L := s.L) (w := w) (b := b) (o := 0) h (fun j y hy => by
          obtain ⟨u, _, h2, h3, h4⟩ := hcell j y hy
          exact ⟨u, by simpa using h2, h3, h4⟩)
        refine ⟨u, ?_, hr⟩
        simpa [Instr.loadAt, Instr.sureAddr] using hu
    · cases h
  · rename_i z off
    cases hv with
    | rptr _ _ b o vals h2 h1 h3 =>
      obtain ⟨u, hu, hr⟩ := run_loadVar (γ := γ) (L := s.L) (w := w) (b := b) (o := o) h (fun j y hy =>
        ⟨vals j, roCell_cell hI (h2 j y hy), h1 j y hy, h3 j y hy⟩)
      refine ⟨u, ?_, hr⟩
      simpa [Instr.loadAt, Instr.sureAddr] using hu
  · rename_i id p g i off
    split at h
    · rename_i T sz g' es hL
      split at h
      · rename_i hg
        split at h
        · rename_i es' hs
          split at h
          · rename_i e he
            cases hv with
            | eptr _ _ _ _ _ _ hok h1 =>
              simp only [EptrOk, hL] at hok
              obtain ⟨es2, e2, b, c, sz2, hs2, he2, hsz2, hall, rfl, hb⟩ := hok.2 hg
              rw [hs] at hs2; cases hs2
              rw [he] at he2; cases he2
              obtain ⟨arr, s2, T', harr, _, hasz, _, _, hrow⟩ := hI.rowCell hL hs hb
              have hse : s2 = sz2 := by rw [← hrow.1 e (List.mem_of_getElem? he), hsz2]
              subst hse
              obtain ⟨u, hu, hr⟩ := run_loadVar (γ := γ) (L := s.L) (w := w) (b := b) (o := i * s2) h (fun j y hy => by
                simp only [eview, List.getElem?_mapIdx, Option.map_eq_some_iff] at hy
                obtain ⟨x, hx, rfl⟩ := hy
                obtain ⟨u, hu1, hu2, hu3⟩ := hrow.2 i e j x he hx
                refine ⟨u, ?_, hu2, ?_⟩
                · rw [cell_of_row w b _ arr T' (0, 0) harr]; exact hu1
                · subst hg; exact RV.viewC hL hs he hx hu2 hu3)
              refine ⟨u, ?_, hr⟩
              simpa [Instr.loadAt, Instr.sureAddr] using hu
          · cases h
        · cases h
      · cases h
    · cases h
  · cases h

/-! ### numbers, bools, strings -/
def intA (op : BinOp) (k : IntKind) (a b : Int) : Option AV :=
  match op with
  | .add => some (.int k (k.wrap (a + b)))
  | .sub => some (.int k (k.wrap (a - b)))
  | .mul => some (.int k (k.wrap (a * b)))
  | .quo => if b = 0 then none else some (.int k (k.wrap (a.tdiv b)))
  | .rem => if b = 0 then none else some (.int k (a.tmod b))
  | .and => some (.int k (Go.bits .and k a b))
  | .or => some (.int k (Go.bits .or k a b))
  | .xor => some (.int k (Go.bits .xor k a b))
  | .andNot => some (.int k (Go.bits .andNot k a b))
  | .eql => some (.bool (a == b))
  | .neq => some (.bool (a != b))
  | .lss => some (.bool (decide (a < b)))
  | .leq => some (.bool (decide (a ≤ b)))
  | .gtr => some (.bool (decide (b < a)))
  | .geq => some (.bool (decide (b ≤ a)))
  | _ => none

def strA (op : BinOp) (a b : ByteArray) : Option AV :=
  match op with
  | .add => if a.size + b.size ≤ 9223372036854775807 then some (.str (a ++ b)) else none
  | .eql => some (.bool (a.toList == b.toList))
  | .neq => some (.bool (!(a.toList == b.toList)))
  | .lss => some (.bool (Op.bytesLess a.toList b.toList))
  | .geq => some (.bool (!Op.bytesLess a.toList b.toList))
  | _ => none

def isBoolT (P : Program) (t : TypeId) : Bool :=
  match P.underlying t with
  | some .bool => true
  | _ => false
theorem isBoolT_eq {P : Program} {t : TypeId} (h : isBoolT P t = true) : P.underlying t = some .bool := by
  unfold isBoolT at h
  split at h
  · assumption
  · cases h

/-- Is a type a whole number's? -/
def isIntT (P : Program) (t : TypeId) : Bool :=
  match P.underlying t with
  | some (.int _) => (P.info? t).isSome
  | _ => false
/-- Fields that are whole numbers, one behind another. -/
def flatI (P : Program) : List Field → Nat → Bool
  | [], _ => true
  | f :: fs, o => f.offset == o && f.name != "_" && isIntT P f.type && flatI P fs (o + 1)
/-- A record of whole numbers: how many there are. -/
def structN (P : Program) (t : TypeId) : Option Nat :=
  match P.underlying t with
  | some (.struct fs) => if flatI P fs.toList 0 && !P.stoodInHeld t && !P.eqGuardType P.depth t then some fs.size else none
  | _ => none
def eqIs : List AV → List AV → Option Bool
  | [], [] => some true
  | .int k a :: xs, .int k' b :: ys =>
    if k = k' then (match eqIs xs ys with | some r => some (a == b && r) | none => none) else none
  | _, _ => none
theorem isIntT_spec {P : Program} {t : TypeId} (h : isIntT P t = true) : (∃ k, P.underlying t = some (.int k)) ∧ (P.info? t).isSome = true := by
  unfold isIntT at h
  split at h
  · rename_i k hk; exact ⟨⟨k, hk⟩, h⟩
  · cases h
theorem run_part {P : Program} {γ : Nat → Gh} {L : List AObj} {w : World} {t : TypeId} {cs : List AV} {vs : Array Value} {off : Nat} {x : AV}
    (hx : takeA P t cs off = some x) (hn : vs.size = cs.length) (h1 : ∀ v ∈ vs, v.oneCell' = true) (h : ∀ (i : Nat) y, cs[i]? = some y → RV γ L y (vs.getD i undef)) :
    ∃ v, (part t vs off).run P w = .ok v w ∧ RV γ L x v := by
  unfold takeA at hx
  split at hx
  case isFalse => cases hx
  rename_i hT
  obtain ⟨hu, hi⟩ := hT
  simp only [part, Sem.run_bind, run_isAgg w hu, Result.andThen_ok]
  split at hx
  · rename_i hag
    split at hx
    case isFalse => cases hx
    rename_i hle
    cases hx
    simp only [hag, if_true, Sem.run_bind, run_sizeOf w hi, Result.andThen_ok, Sem.run_pure]
    refine ⟨_, rfl, .agg _ _ ?_ ?_ ?_⟩
    · simp [List.length_take, List.length_drop]; omega
    · intro v hv
      obtain ⟨k, hk, rfl⟩ := Array.getElem_of_mem hv
      simp only [Array.getElem_extract]
      exact h1 _ (Array.getElem_mem _)
    · intro i y hy
      have hi' : i < P.cellsOf t := by
        have := (List.getElem?_eq_some_iff.1 hy).1
        simp [List.length_take] at this
        omega
      rw [List.getElem?_take] at hy
      simp only [hi', if_true, List.getElem?_drop] at hy
      have := h _ _ hy
      have hlt : off + i < vs.size := by omega
      have hsz : i < (vs.extract off (off + P.cellsOf t)).size := by simp; omega
      simp only [Array.getD, hlt, dif_pos, hsz] at this ⊢
      simpa using this
  · rename_i hag
    have hlt : off < vs.size := by have := (List.getElem?_eq_some_iff.1 hx).1; omega
    simp only [hag, if_false, Bool.false_eq_true]
    refine ⟨vs[off], by simp [hlt], ?_⟩
    have := h off x hx
    simpa [Array.getD, hlt] using this

theorem eqFields_ints {P : Program} {γ : Nat → Gh} {L : List AObj} {w : World} (d : Nat) {cs ds : List AV} {us vs : Array Value}
    (hn : us.size = cs.length) (h1 : ∀ v ∈ us, v.oneCell' = true) (h : ∀ (i : Nat) y, cs[i]? = some y → RV γ L y (us.getD i undef))
    (kn : vs.size = ds.length) (k1 : ∀ v ∈ vs, v.oneCell' = true) (k : ∀ (i : Nat) y, ds[i]? = some y → RV γ L y (vs.getD i undef)) :
    ∀ (fs : List Field) (o : Nat) (b : Bool), flatI P fs o = true → fs.length = (cs.drop o).length → eqIs (cs.drop o) (ds.drop o) = some b → (Op.eqFields (d + 1) us vs fs).run P w = .ok b w
  | [], o, b, _, hl, he => by
    have : cs.drop o = [] := List.eq_nil_of_length_eq_zero hl.symm
    rw [this] at he
    cases hd : ds.drop o with
    | nil => rw [hd] at he; simp [eqIs] at he; subst he; simp [Op.eqFields]
    | cons _ _ => rw [hd] at he; simp [eqIs] at he
  | f :: fs, o, b, hf, hl, he => by
    simp only [flatI, Bool.and_eq_true, beq_iff_eq, bne_iff_ne] at hf
    obtain ⟨⟨⟨ho, hnm⟩, hi⟩, hr⟩ := hf
    obtain ⟨⟨k0, hu⟩, hin⟩ := isIntT_spec hi
    cases hc : cs.drop o with
    | nil => rw [hc] at hl; simp at hl
    | cons x xs =>
      cases hd : ds.drop o with
      | nil => rw [hc, hd] at he; cases x <;> simp [eqIs] at he
      | cons y ys =>
        rw [hc, hd] at he
        have ex : cs[o]? = some x := by have := congrArg (·[0]?) hc; simpa using this
        have ey : ds[o]? = some y := by have := congrArg (·[0]?) hd; simpa using this
        have dx : cs.drop (o + 1) = xs := by rw [← List.drop_drop, hc]; rfl
        have dy : ds.drop (o + 1) = ys := by rw [← List.drop_drop, hd]; rfl
        cases x <;> cases y <;> first | (simp [eqIs] at he; done) | skip
        rename_i ka a kb b'
        simp only [eqIs] at he
        split at he
        case isFalse => cases he
        rename_i hk
        subst hk
        have hag : aggT P f.type = false := by simp [aggT, hu]
        have tk : ∀ {l : List AV} {z : AV}, l[o]? = some z → takeA P f.type l f.offset = some z := by
          intro l z hz
          unfold takeA
          rw [if_pos ⟨by simp [hu], hin⟩, if_neg (by simp [hag]), ho]
          exact hz
        obtain ⟨u, pu, ru⟩ := run_part (P := P) (w := w) (tk ex) hn h1 h
        obtain ⟨v, pv, rv⟩ := run_part (P := P) (w := w) (tk ey) kn k1 k
        cases ru; cases rv
        cases hq : eqIs xs ys with
        | none => simp [hq] at he
        | some r =>
          simp only [hq, Option.some.injEq] at he
          have ih := eqFields_ints (w := w) d hn h1 h kn k1 k fs (o + 1) r hr (by rw [dx]; rw [hc] at hl; simpa using hl) (by rw [dx, dy]; exact hq)
          simp only [Op.eqFields, hnm, ne_eq, not_false_eq_true, if_true, Sem.run_bind, pu, pv, Result.andThen_ok, run_equalIn_int w d f.type ka k0 a b' hu]
          cases hab : (a == b')
          · simp [hab] at he ⊢; exact he
          · simp [hab] at he ⊢; rw [ih, he]

def binA (P : Program) (op : BinOp) (t : TypeId) (x y : AV) : Option AV :=
  match x, y with
  | .int k a, .int k' b =>
    match op with
    | .shl => if 0 ≤ b then some (.int k (k.wrap (a * 2 ^ min b.toNat k.bits))) else none
    | .shr => if 0 ≤ b then some (.int k (a.fdiv (2 ^ min b.toNat k.bits))) else none
    | op => if k = k' then intA op k a b else none
  | .bool a, .bool b =>
    if isBoolT P t then
      match op with
      | .eql => some (.bool (a == b))
      | .neq => some (.bool (a != b))
      | _ => none
    else none
  | .str a, .str b => strA op a b
  | .agg xs, .agg ys =>
    match structN P t with
    | some n =>
      if xs.length = n then
        match eqIs xs ys with
        | some b => (match op with | .eql => some (.bool b) | .neq => some (.bool (!b)) | _ => none)
        | none => none
      else none
    | none => none
  | _, _ => none

theorem eqIs_len : ∀ {xs ys : List AV} {b : Bool}, eqIs xs ys = some b → xs.length = ys.length
  | [], [], _, _ => rfl
  | [], _ :: _, _, h => by simp [eqIs] at h
  | x :: xs, [], _, h => by cases x <;> simp [eqIs] at h
  | x :: xs, y :: ys, b, h => by
    cases x <;> cases y <;> first | (simp [eqIs] at h; done) | skip
    simp only [eqIs] at h
    split at h
    · split at h
      · rename_i r hr; simp [eqIs_len hr]
      · cases h
    · cases h
theorem binA_run {P : Program} {γ : Nat → Gh} {L : List AObj} {w : World} {op : BinOp} {t : TypeId} {ox oy : Operand} {x y z : AV} {u v : Value}
    (hx : RV γ L x u) (hy : RV γ L y v) (h : binA P op t x y = some z) :
    ∃ r, (do eqGuard op t ox oy u v; binOp op t u v : Sem Value).run P w = .ok r w ∧ RV γ L z r := by
  unfold binA at h
  split at h
  · rename_i k a k' b
    cases hx; cases hy
    have hg : (eqGuard op t ox oy (.int k a) (.int k' b)).run P w = .ok () w := by
      unfold eqGuard
      split <;> simp
    simp only [Sem.run_bind, hg, Result.andThen_ok]
    split at h
    · split at h
      · rename_i hb
        cases h
        refine ⟨_, ?_, .int _ _⟩
        simp [binOp, Op.shift, Int.not_lt.2 hb]
      · cases h
    · split at h
      · rename_i hb
        cases h
        refine ⟨_, ?_, .int _ _⟩
        simp [binOp, Op.shift, Int.not_lt.2 hb]
      · cases h
    · rename_i hs1 hs2
      split at h
      · rename_i hk
        subst hk
        unfold intA at h
        split at h <;> first
          | (cases h; refine ⟨_, ?_, .int _ _⟩; simp [binOp, Op.intArith]; done)
          | (cases h; refine ⟨_, ?_, .bool _⟩; simp [binOp, Op.intCmp]; done)
          | (cases h; refine ⟨_, ?_, .int _ _⟩; simp [binOp, intBits_and, intBits_or, intBits_xor, intBits_andNot]; done)
          | (split at h
             · cases h
             · rename_i hb; cases h; refine ⟨_, ?_, .int _ _⟩; simp [binOp, Op.intDiv, hb]; done)
          | cases h
      · cases h
  · rename_i a b
    cases hx; cases hy
    split at h
    · rename_i ht
      have hg : (eqGuard op t ox oy (.bool a) (.bool b)).run P w = .ok () w := by
        unfold eqGuard
        split <;> simp
      simp only [Sem.run_bind, hg, Result.andThen_ok]
      split at h
      · cases h
        refine ⟨_, ?_, .bool _⟩
        simp [binOp, run_equal_bool w t a b (isBoolT_eq ht)]
      · cases h
        refine ⟨_, ?_, .bool _⟩
        simp [binOp, run_equal_bool w t a b (isBoolT_eq ht)]
        cases a <;> cases b <;> rfl
      · cases h
    · cases h
  · rename_i a b
    cases hx; cases hy
    have hg : (eqGuard op t ox oy (.string a) (.string b)).run P w = .ok () w := by
      unfold eqGuard
      split <;> simp
    simp only [Sem.run_bind, hg, Result.andThen_ok]
    unfold strA at h
    split at h
    · split at h
      · rename_i hsz
        cases h
        refine ⟨_, ?_, .str _⟩
        have : ¬ (((a.size + b.size : Nat) : Int) > IntKind.i64.max) := by simp [IntKind.max, IntKind.signed, IntKind.bits]; omega
        simp only [binOp, Op.stringOp, this, if_false]; rfl
      · cases h
    · cases h; exact ⟨_, by simp [binOp, Op.stringOp], .bool _⟩
    · cases h; exact ⟨_, by simp [binOp, Op.stringOp], .bool _⟩
    · cases h; exact ⟨_, by simp [binOp, Op.stringOp], .bool _⟩
    · cases h; exact ⟨_, by simp [binOp, Op.stringOp], .bool _⟩
    · cases h
  · rename_i xs ys
    split at h
    case h_2 => cases h
    rename_i n hsn
    split at h
    case isFalse => cases h
    rename_i hxl
    split at h
    case h_2 => cases h
    rename_i b hq
    have hyl : xs.length = ys.length := eqIs_len hq
    cases hx with
    | agg _ us hn h1 hr =>
    cases hy with
    | agg _ vs kn k1 kr =>
    unfold structN at hsn
    split at hsn
    case h_2 => cases hsn
    rename_i fs hu
    split at hsn
    case isFalse => cases hsn
    rename_i hc
    simp only [Bool.and_eq_true, Bool.not_eq_true'] at hc
    cases hsn
    have hfo : P.fieldsOf t = fs := by simp [Program.fieldsOf, hu]
    have e := eqFields_ints (P := P) (w := w) 9998 hn h1 hr kn k1 kr fs.toList 0 b hc.1.1 (by simpa using hxl.symm) (by simpa using hq)
    have e2 : (Op.equalIn 10000 t (.agg us) (.agg vs)).run P w = .ok b w := by
      rw [run_equalIn_struct w 9999 t us vs (by rw [hfo]; exact hu) hc.1.2, hfo]; exact e
    simp only [Sem.run_bind, run_eqGuard_agg w op t ox oy us vs hc.2, Result.andThen_ok]
    split at h
    · cases h; exact ⟨_, by rw [run_eql_struct, e2]; rfl, .bool _⟩
    · cases h; exact ⟨_, by rw [run_neq_struct, e2]; rfl, .bool _⟩
    · cases h
  · cases h

end Go.Proofs.Ytolfjeedgedblaa.K
