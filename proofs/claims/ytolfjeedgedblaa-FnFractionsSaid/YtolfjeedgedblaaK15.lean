/-
  A logic of values for Go's functions (part 15): what a law's call is given and what it leaves.
-/
import Derived.Test.YtolfjeedgedblaaK14
namespace Go.Proofs.Ytolfjeedgedblaa.K
set_option linter.unusedVariables false
set_option linter.unusedSimpArgs false
open Go Go.RowKit Go.WideShapes

/-- 'a' is a value of the type 't'. -/
def IsC (P : Program) (n : Nat) (t : TypeId) (a : AV) : Prop :=
  HasC P n t a.cells ∧ a.cells.length = P.cellsOf t ∧ (aggT P t = true → ∃ cs, a = .agg cs) ∧ (aggT P t = false → a.cells = [a])
def IsOf (P : Program) (t : TypeId) (a : AV) : Prop := ∃ n, IsC P n t a

theorem cells_one {v : Value} {γ : Nat → Gh} {c : AV} (hv : v.cells = #[v]) (h : CellsL γ [c] v.cells.toList) : RV γ [] c v := by
  rw [hv] at h
  obtain ⟨u, hu, _, hr⟩ := h.2 0 c rfl
  simp at hu; subst hu; exact hr

theorem arg_open {H : Type} {enc : TypeId × Value → H} {P : Program} {S : List TypeId} (hS : dataS P S = true) {w : World} {base : Nat} {spare : Nat → Bool} {held : Bool} {r : Reach} {b0 : Nat} {t : TypeId} {v : Value} {d : DataW H} {ps : List MemPlace}
    (ht : S.contains t = true) (hval : Value.okWide P w r b0 t v) (hd : DataW.Trod enc P w base spare held t v d ps) : ∃ a, RV (roAll w) [] a v ∧ IsOf P t a := by
  have ht : t ∈ S := by simpa using ht
  obtain ⟨n, h⟩ := hd
  obtain ⟨xs, hx, hl, hc⟩ := trod_HasC hS n t _ _ ht h
  have hd := dataS_leaf hS ht
  cases ha : aggT P t with
  | true =>
    unfold aggT at ha
    cases hu : P.underlying t with
    | none => simp [hu] at ha
    | some T =>
      have hv : ∃ cs, v = .agg cs ∧ cs.size = P.cellsOf t := by
        unfold Value.okWide at hval
        rw [hu] at hval ha
        cases T with
        | struct fs => obtain ⟨cs, h1, h2, _⟩ := hval; exact ⟨cs, h1, h2⟩
        | array m e => obtain ⟨cs, h1, h2, _⟩ := hval; exact ⟨cs, h1, h2⟩
        | _ => simp at ha
      obtain ⟨cs, rfl, hcs⟩ := hv
      refine ⟨.agg xs, .agg xs cs (by omega) ?_ ?_, n, hc, hl, fun _ => ⟨xs, rfl⟩, fun h => by simp [aggT, hu] at h; rw [hu] at ha; simp_all⟩
      · intro u hu'
        obtain ⟨i, hi, rfl⟩ := Array.getElem_of_mem hu'
        obtain ⟨u, h1, h2, _⟩ := hx.2 i xs[i] (List.getElem?_eq_getElem (by omega))
        simp [Value.cells, hi] at h1
        rw [h1]; exact h2
      · intro i x hi
        obtain ⟨u, h1, _, h3⟩ := hx.2 i x hi
        simp [Value.cells] at h1
        rw [Array.getD_eq_getD_getElem?, h1]; exact h3
  | false =>
    obtain ⟨c, rfl, hcc⟩ := hc.leaf ha
    have hv : v.cells = #[v] := by
      cases hu : P.underlying t with
      | none => simp [hu] at hd
      | some T =>
        rw [hu] at hd
        cases T with
        | bool => obtain ⟨b, rfl⟩ := okWide_bool hu hval; rfl
        | int k => obtain ⟨b, rfl⟩ := okWide_int hu hval; rfl
        | string => obtain ⟨b, rfl⟩ := okWide_string hu hval; rfl
        | slice e => obtain ⟨a, l, c, rfl⟩ := okWide_slice hu hval; rfl
        | struct fs => simp [aggT, hu] at ha
        | _ => exact hd.elim
    exact ⟨c, cells_one hv hx, n, by rw [hcc]; exact hc, by rw [hcc]; exact hl, (fun h => nomatch ha.symm.trans h), (fun _ => hcc)⟩

theorem HasC.int {P : Program} {n : Nat} {t : TypeId} {xs : List AV} {k : IntKind} (hu : P.underlying t = some (.int k)) (h : HasC P n t xs) : ∃ i, xs = [.int k i] ∧ (Lit.int k i).wf = true := by
  cases n with
  | zero => simp [HasC] at h
  | succ n => simp only [HasC, hu] at h; exact h
theorem HasC.bool {P : Program} {n : Nat} {t : TypeId} {xs : List AV} (hu : P.underlying t = some .bool) (h : HasC P n t xs) : ∃ i, xs = [.bool i] := by
  cases n with
  | zero => simp [HasC] at h
  | succ n => simp only [HasC, hu] at h; exact h
theorem HasC.string {P : Program} {n : Nat} {t : TypeId} {xs : List AV} (hu : P.underlying t = some .string) (h : HasC P n t xs) : ∃ s, xs = [.str s] ∧ s.size ≤ maxLen := by
  cases n with
  | zero => simp [HasC] at h
  | succ n => simp only [HasC, hu] at h; exact h
theorem HasC.slice {P : Program} {n : Nat} {t e : TypeId} {xs : List AV} (hu : P.underlying t = some (.slice e)) (h : HasC P n t xs) : ∃ es, xs = [.sl false es] ∧ es.length ≤ maxLen ∧ ∀ x ∈ es, IsOf P e x := by
  cases n with
  | zero => simp [HasC] at h
  | succ n =>
    simp only [HasC, hu] at h
    obtain ⟨es, h1, h2, h3⟩ := h
    exact ⟨es, h1, h2, fun x hx => by
      obtain ⟨h4, h5, h6, h7⟩ := h3 x hx
      exact ⟨n, h4, h5, h6, fun h8 => by obtain ⟨c, h9, rfl⟩ := h7 h8; exact h9⟩⟩
theorem HasC.field {P : Program} {n : Nat} {t ft : TypeId} {xs : List AV} {i off : Nat} (hf : fieldOf P t i = some (off, ft)) (h : HasC P n t xs) : ∃ m, HasC P m ft ((xs.drop off).take (P.cellsOf ft)) := by
  cases n with
  | zero => simp [HasC] at h
  | succ n =>
    unfold fieldOf at hf
    split at hf
    · rename_i fs hu
      simp only [HasC, hu] at h
      rw [Option.map_eq_some_iff] at hf
      obtain ⟨f, h1, h2⟩ := hf
      cases h2
      obtain ⟨hi, h3⟩ := Array.getElem?_eq_some_iff.1 h1
      exact ⟨n, h.2 f (by rw [← h3]; simp)⟩
    · cases hf
theorem IsOf.agg {P : Program} {t : TypeId} {a : AV} (ht : aggT P t = true) (h : IsOf P t a) : ∃ n cs, a = .agg cs ∧ cs.length = P.cellsOf t ∧ HasC P n t cs := by
  obtain ⟨n, h1, h2, h3, _⟩ := h
  obtain ⟨cs, rfl⟩ := h3 ht
  exact ⟨n, cs, rfl, h2, h1⟩
theorem IsOf.one {P : Program} {t : TypeId} {a : AV} (ht : aggT P t = false) (h : IsOf P t a) : ∃ n, HasC P n t [a] := by
  obtain ⟨n, h1, h2, _, h3⟩ := h
  exact ⟨n, by rw [← h3 ht]; exact h1⟩

/-- What a law's call leaves: it returns true, and nothing that was there has turned. -/
theorem law_walk {P : Program} {f : FuncId} {avs : List AV} {L' : List AObj} {w : World} {vs : Array Value} (h : Ct P f avs [] (.bool true) L') (ha : ArgsR (roAll w) [] avs vs) :
    Calls P f vs w fun e w' => e = .returned (.bool true) ∧ Below w.heap.size w w' := by
  refine (h _ w vs (Inv.roAll w) ha).mono fun e w' ⟨γ', v, he, hi, hr, _, hs⟩ => ?_
  cases hr
  refine ⟨he, hs.os, hs.tape, hs.output, hs.size, fun k hk => ?_⟩
  have h1 : roAll w k = .ro (w.heap[k]) := by simp [roAll, hk]
  have := hi.1 k _ (hs.ro k _ h1)
  rw [this]; simp [hk]

theorem argsR1 {γ : Nat → Gh} {a0 : AV} {v0 : Value} (h0 : RV γ [] a0 v0) : ArgsR γ [] [a0] #[v0] := by
  refine ⟨rfl, fun i x hx => ?_⟩
  match i with
  | 0 => simp at hx; subst hx; exact h0
  | i + 1 => simp at hx
theorem argsR2 {γ : Nat → Gh} {a0 a1 : AV} {v0 v1 : Value} (h0 : RV γ [] a0 v0) (h1 : RV γ [] a1 v1) : ArgsR γ [] [a0, a1] #[v0, v1] := by
  refine ⟨rfl, fun i x hx => ?_⟩
  match i with
  | 0 => simp at hx; subst hx; exact h0
  | 1 => simp at hx; subst hx; exact h1
  | i + 2 => simp at hx
theorem argsR3 {γ : Nat → Gh} {a0 a1 a2 : AV} {v0 v1 v2 : Value} (h0 : RV γ [] a0 v0) (h1 : RV γ [] a1 v1) (h2 : RV γ [] a2 v2) : ArgsR γ [] [a0, a1, a2] #[v0, v1, v2] := by
  refine ⟨rfl, fun i x hx => ?_⟩
  match i with
  | 0 => simp at hx; subst hx; exact h0
  | 1 => simp at hx; subst hx; exact h1
  | 2 => simp at hx; subst hx; exact h2
  | i + 3 => simp at hx

/-! ### lists with a beginning that is not looked at -/
theorem getX0 {α : Type} (X ys : List α) : (X ++ ys)[X.length]? = ys[0]? := by rw [List.getElem?_append_right (Nat.le_refl _), Nat.sub_self]
theorem getX1 {α : Type} (X ys : List α) : (X ++ ys)[X.length + 1]? = ys[1]? := by rw [List.getElem?_append_right (by omega)]; congr 1; omega
theorem getX2 {α : Type} (X ys : List α) : (X ++ ys)[X.length + 1 + 1]? = ys[2]? := by rw [List.getElem?_append_right (by omega)]; congr 1; omega
theorem getX3 {α : Type} (X ys : List α) : (X ++ ys)[X.length + 1 + 1 + 1]? = ys[3]? := by rw [List.getElem?_append_right (by omega)]; congr 1; omega
theorem getXn {α : Type} (X ys : List α) (n : Nat) : (X ++ ys)[X.length + n]? = ys[n]? := by rw [List.getElem?_append_right (by omega)]; congr 1; omega
theorem setX0 {α : Type} (X ys : List α) (y : α) : (X ++ ys).set X.length y = X ++ ys.set 0 y := by rw [List.set_append_right _ _ (Nat.le_refl _), Nat.sub_self]
theorem setX1 {α : Type} (X ys : List α) (y : α) : (X ++ ys).set (X.length + 1) y = X ++ ys.set 1 y := by rw [List.set_append_right _ _ (by omega)]; congr 2; omega
theorem setX2 {α : Type} (X ys : List α) (y : α) : (X ++ ys).set (X.length + 1 + 1) y = X ++ ys.set 2 y := by rw [List.set_append_right _ _ (by omega)]; congr 2; omega
theorem setX3 {α : Type} (X ys : List α) (y : α) : (X ++ ys).set (X.length + 1 + 1 + 1) y = X ++ ys.set 3 y := by rw [List.set_append_right _ _ (by omega)]; congr 2; omega

end Go.Proofs.Ytolfjeedgedblaa.K
