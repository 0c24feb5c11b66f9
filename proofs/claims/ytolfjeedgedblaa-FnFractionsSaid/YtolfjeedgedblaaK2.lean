/-
  A logic of values for Go's functions (part 2): states, one operation's meaning, and the operations that only compute or read.
-/
import Derived.Test.YtolfjeedgedblaaK1
import Derived.Laws.Small
import Derived.Laws.Strings
import Derived.Laws.Strings3
import Derived.Laws.Cover1
namespace Go.Proofs.Ytolfjeedgedblaa.K
set_option linter.unusedVariables false
set_option linter.unusedSimpArgs false
open Go

structure St where
  t : List AV
  L : List AObj

def absV : Value → AV
  | .int k n => .int k n
  | .bool b => .bool b
  | .string s => .str s
  | v => if v.oneCell' then .lit v else .junk

def St.ev (s : St) : Operand → AV
  | .tmp t => s.t.getD t .junk
  | .const v => absV v
  | .global _ => .junk
  | .func f => .fn f []

def St.put (s : St) (d : Option Tmp) (x : AV) : St :=
  match d with
  | some d => { s with t := s.t.set d x }
  | none => s

structure Rel (γ : Nat → Gh) (s : St) (a : Act) (w : World) : Prop where
  defers : a.defers = []
  size : a.tmps.size = s.t.length
  tmps : ∀ (i : Nat) x, s.t[i]? = some x → RV γ s.L x (a.tmps.getD i undef)
  inv : Inv γ s.L w

theorem RV.absV {γ : Nat → Gh} {L : List AObj} (v : Value) : RV γ L (absV v) v := by
  unfold K.absV
  split
  · exact .int _ _
  · exact .bool _
  · exact .str _
  · split
    · rename_i h; exact .lit _ h
    · exact .junk _

theorem Rel.ev {γ : Nat → Gh} {s : St} {a : Act} {w : World} (h : Rel γ s a w) (x : Operand) : RV γ s.L (s.ev x) (a.eval x) := by
  cases x with
  | tmp t =>
    simp only [St.ev, Act.eval, List.getD_eq_getElem?_getD]
    cases ht : s.t[t]? with
    | none => exact .junk _
    | some y => exact h.tmps t y ht
  | const v => exact .absV v
  | global g => exact .junk _
  | func f => exact .fn f [] #[] rfl (fun i x h => by simp at h)

theorem Rel.put {γ : Nat → Gh} {s : St} {a : Act} {w : World} (h : Rel γ s a w) (d : Option Tmp) {x : AV} {v : Value} (hv : RV γ s.L x v) : Rel γ (s.put d x) (a.put d v) w := by
  cases d with
  | none => exact h
  | some d =>
    refine ⟨h.defers, ?_, ?_, h.inv⟩
    · simp [Act.put, St.put, h.size]
    · intro i y hy
      simp only [St.put, List.getElem?_set] at hy
      simp only [Act.put, Array.getD_eq_getD_getElem?, Array.getElem?_setIfInBounds, h.size]
      split at hy
      · subst_vars
        split at hy
        · cases hy
          rename_i hd
          simp [hd]; exact hv
        · cases hy
      · rename_i hne
        simp only [hne, if_false]
        have := h.tmps i y hy
        rw [Array.getD_eq_getD_getElem?] at this
        exact this

theorem Rel.mono {γ γ' : Nat → Gh} {s : St} {a : Act} {w w' : World} {L' : List AObj} (h : Rel γ s a w) (E : Ext γ s.L γ' L') (hI : Inv γ' L' w') : Rel γ' { s with L := L' } a w' :=
  ⟨h.defers, h.size, fun i x hx => (h.tmps i x hx).mono E, hI⟩

theorem St.put_L (s : St) (d : Option Tmp) (x : AV) : (s.put d x).L = s.L := by cases d <;> rfl

/-- One operation leads from the state 's' to the state 's''. -/
def OpS (P : Program) (o : Oper) (s s' : St) : Prop :=
  ∀ γ a w K Q, Rel γ s a w → (∀ γ' a' w', Rel γ' s' a' w' → Ext γ s.L γ' s'.L → Stp γ w γ' w' → K a' w') → o.wp P a w K Q

theorem OpS.pure {P : Program} {o : Oper} {s : St} {x : AV}
    (h : ∀ γ a w, Rel γ s a w → ∃ v, (execOp a.eval o).run P w = .ok (.value v) w ∧ RV γ s.L x v) : OpS P o s (s.put o.dst x) := by
  intro γ a w K Q hr hK
  obtain ⟨v, hv, hx⟩ := h γ a w hr
  unfold Oper.wp
  rw [hv]
  refine hK γ _ w (hr.put _ hx) ?_ (Stp.refl _ _)
  cases o.dst <;> exact Ext.refl _ _

theorem Inv.drew {γ : Nat → Gh} {L : List AObj} {w : World} (h : Inv γ L w) : Inv γ L w.drew := ⟨h.ro, h.ow, h.inj, h.box, h.map⟩

/-! ### reading cells -/
theorem oneCell_cells {v : Value} (h : v.oneCell' = true) : v.cells = #[v] := by
  cases v <;> first | rfl | simp [Value.oneCell'] at h

/-- The cells of a value that is told as a datum. -/
theorem RV.cells {γ : Nat → Gh} {L : List AObj} {x : AV} {v : Value} (h : RV γ L x v) (hj : x ≠ .junk) (ht : ∀ vs, x ≠ .tup vs) :
    v.cells.size = x.cells.length ∧ ∀ (j : Nat) y, x.cells[j]? = some y → ∃ u, v.cells[j]? = some u ∧ u.oneCell' = true ∧ RV γ L y u := by
  have one : ∀ {x : AV} {v : Value}, RV γ L x v → v.oneCell' = true → x.cells = [x] → v.cells.size = x.cells.length ∧ ∀ (j : Nat) y, x.cells[j]? = some y → ∃ u, v.cells[j]? = some u ∧ u.oneCell' = true ∧ RV γ L y u := by
    intro x v h h1 hx
    rw [oneCell_cells h1, hx]
    refine ⟨rfl, fun j y hy => ?_⟩
    cases j with
    | zero => simp at hy; subst hy; exact ⟨v, rfl, h1, h⟩
    | succ j => simp at hy
  cases h with
  | int k n => exact one (.int k n) rfl rfl
  | bool b => exact one (.bool b) rfl rfl
  | str s => exact one (.str s) rfl rfl
  | lit v h => exact one (.lit v h) h rfl
  | sl own es A n c sz vals hn hc hsz h2 h1 h3 => exact one (.sl own es A n c sz vals hn hc hsz h2 h1 h3) rfl rfl
  | agg cs vs hn h1 h =>
    refine ⟨hn, fun j y hy => ?_⟩
    have hlt : j < vs.size := by
      have := (List.getElem?_eq_some_iff.1 hy).1
      simp only [AV.cells] at this
      omega
    refine ⟨vs[j], by simp [Value.cells, hlt], h1 _ (Array.getElem_mem _), ?_⟩
    have := h j y hy
    simpa [Array.getD, hlt] using this
  | tup cs vs hn h => exact absurd rfl (ht cs)
  | ref id p g n v h h1 => exact one (.ref id p g n v h h1) h1 rfl
  | ptr id off b c T cs hL h => exact one (.ptr id off b c T cs hL h) rfl rfl
  | eptr id p g i off v h h1 => exact one (.eptr id p g i off v h h1) h1 rfl
  | rptr x off b o vals h2 h1 h3 => exact one (.rptr x off b o vals h2 h1 h3) rfl rfl
  | fn f cs vs hn h => exact one (.fn f cs vs hn h) rfl rfl
  | map id b c kt vt es hL h => exact one (.map id b c kt vt es hL h) rfl rfl
  | junk v => exact absurd rfl hj

/-- Is a type's value a record? -/
def aggT (P : Program) (t : TypeId) : Bool :=
  match P.underlying t with
  | some (.struct _) | some (.array _ _) => true
  | _ => false

/-- 'n' cells from 'off' on, as a value of the type 't'. -/
def takeA (P : Program) (t : TypeId) (cs : List AV) (off : Nat) : Option AV :=
  if (P.underlying t).isSome ∧ (P.info? t).isSome then
    if aggT P t then (if off + P.cellsOf t ≤ cs.length then some (.agg ((cs.drop off).take (P.cellsOf t))) else none) else cs[off]?
  else none

theorem info_of {P : Program} {t : TypeId} (h : (P.info? t).isSome = true) : ∃ i, P.info? t = some i ∧ P.cellsOf t = i.size := by
  obtain ⟨i, hi⟩ := Option.isSome_iff_exists.1 h
  exact ⟨i, hi, by simp [Program.cellsOf, hi]⟩

theorem run_isAgg {P : Program} {t : TypeId} (w : World) (h : (P.underlying t).isSome = true) : (isAgg t).run P w = .ok (aggT P t) w := by
  obtain ⟨d, hd⟩ := Option.isSome_iff_exists.1 h
  unfold isAgg aggT
  simp only [Sem.run_bind, run_underlying hd, Result.andThen_ok, hd]
  cases d <;> rfl

theorem run_sizeOf {P : Program} {t : TypeId} (w : World) (h : (P.info? t).isSome = true) : (sizeOf t).run P w = .ok (P.cellsOf t) w := by
  obtain ⟨i, hi, hs⟩ := info_of h
  simp [sizeOf, typeInfo, hi, hs]

/-- A load of cells that are known. -/
theorem run_loadVar {P : Program} {γ : Nat → Gh} {L : List AObj} {w : World} {t : TypeId} {cs : List AV} {off : Nat} {x : AV} {b o : Nat}
    (hx : takeA P t cs off = some x)
    (hc : ∀ (j : Nat) y, cs[j]? = some y → ∃ u, w.cell? ⟨b, o + j, none⟩ = some u ∧ u.oneCell' = true ∧ RV γ L y u) :
    ∃ v, (loadVar t ⟨b, o + off, none⟩).run P w = .ok v w ∧ RV γ L x v := by
  unfold takeA at hx
  split at hx
  case isFalse => cases hx
  rename_i hT
  obtain ⟨hu, hi⟩ := hT
  simp only [loadVar, Sem.run_bind, run_isAgg w hu, Result.andThen_ok]
  split at hx
  · rename_i hag
    split at hx
    case isFalse => cases hx
    rename_i hle
    cases hx
    have hex : ∀ j, j < P.cellsOf t → ∃ u, w.cell? ⟨b, o + off + j, none⟩ = some u ∧ u.oneCell' = true ∧ RV γ L (cs.getD (off + j) .junk) u := by
      intro j hj
      have hlt : off + j < cs.length := by omega
      obtain ⟨u, h1, h2, h3⟩ := hc (off + j) cs[off + j] (by simp [hlt])
      exact ⟨u, by rw [Nat.add_assoc]; exact h1, h2, by simpa [List.getD_eq_getElem?_getD, hlt] using h3⟩
    let f : Nat → Value := fun j => if h : j < P.cellsOf t then (hex j h).choose else undef
    have hf : ∀ j (h : j < P.cellsOf t), f j = (hex j h).choose := fun j h => by simp [f, h]
    have hload := run_loadCells (P := P) (w := w) ⟨b, o + off, none⟩ (P.cellsOf t) f (fun j hj => by
      have hadd : (⟨b, o + off, none⟩ : Addr).add j = ⟨b, o + off + j, none⟩ := by unfold Addr.add; split <;> simp_all
      rw [hadd, hf j hj]
      exact (hex j hj).choose_spec.1)
    simp only [hag, if_true, Sem.run_bind, run_sizeOf w hi, Result.andThen_ok, hload, Sem.run_pure]
    refine ⟨_, rfl, .agg _ _ ?_ ?_ ?_⟩
    · simp [List.length_take, List.length_drop]; omega
    · intro v hv
      simp only [List.mem_toArray, List.mem_map, List.mem_range] at hv
      obtain ⟨j, hj, rfl⟩ := hv
      rw [hf j hj]
      exact (hex j hj).choose_spec.2.1
    · intro i y hy
      have hi' : i < P.cellsOf t := by
        have := (List.getElem?_eq_some_iff.1 hy).1
        simp [List.length_take] at this
        omega
      have hy' : cs.getD (off + i) .junk = y := by
        rw [List.getElem?_take] at hy
        simp only [hi', if_true, List.getElem?_drop] at hy
        simp [List.getD_eq_getElem?_getD, hy]
      have h3 : RV γ L (cs.getD (off + i) .junk) (f i) := by rw [hf i hi']; exact (hex i hi').choose_spec.2.2
      rw [hy'] at h3
      simp [Array.getD, hi']
      exact h3
  · rename_i hag
    obtain ⟨u, h1, h2, h3⟩ := hc off x hx
    simp only [hag, if_false, Bool.false_eq_true]
    exact ⟨u, by rw [run_load, h1], h3⟩

end Go.Proofs.Ytolfjeedgedblaa.K
