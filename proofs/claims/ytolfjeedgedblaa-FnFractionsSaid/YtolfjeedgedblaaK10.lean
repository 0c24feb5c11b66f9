/-
  A logic of values for Go's functions (part 10): from a body to a contract; contracts over values alone; how they are used where a caller owns memory.
-/
import Derived.Test.YtolfjeedgedblaaK9
namespace Go.Proofs.Ytolfjeedgedblaa.K
set_option linter.unusedVariables false
set_option linter.unusedSimpArgs false
open Go Go.RowKit

theorem run_results {P : Program} {γ : Nat → Gh} {s : St} {a : Act} {w : World} (hr : Rel γ s a w) {fn : Func} {x : AV} (h : resA P fn s = some x) :
    ∃ v, (results fn a.tmps).run P w = .ok v w ∧ RV γ s.L x v := by
  have hm : ∀ (rs : List ResultVar) (xs : List AV), rs.mapM (resOne P s) = some xs →
      ∃ vs : List Value, (rs.mapM (resRun a.tmps)).run P w = .ok vs w ∧ vs.length = xs.length ∧
        ∀ (i : Nat) x, xs[i]? = some x → RV γ s.L x (vs.getD i undef) := by
    intro rs
    induction rs with
    | nil => intro xs h; simp at h; subst h; exact ⟨[], by simp, rfl, fun i x hx => by simp at hx⟩
    | cons r rs ih =>
      intro xs h
      simp only [List.mapM_cons, Option.bind_eq_bind, Option.bind_eq_some_iff, Option.pure_def, Option.some.injEq] at h
      obtain ⟨y, hy, ys, hys, rfl⟩ := h
      obtain ⟨u, hu, hru⟩ := run_resOne hr hy
      obtain ⟨vs, hvs, hl, hall⟩ := ih ys hys
      refine ⟨u :: vs, ?_, by simp [hl], fun i x hx => ?_⟩
      · simp only [List.mapM_cons, Sem.run_bind]
        rw [hu]
        simp only [Result.andThen_ok, hvs, Sem.run_pure]
      · cases i with
        | zero => simp at hx; subst hx; simpa using hru
        | succ i => simp at hx; simpa using hall i x hx
  unfold resA at h
  rw [results_eq, Array.mapM_eq_mapM_toList]
  simp only [map_eq_pure_bind]
  split at h
  · rename_i r hrs
    obtain ⟨u, hu, hru⟩ := run_resOne hr h
    obtain ⟨vs, hvs, hl, hall⟩ := hm [r] [x] (by simp [h])
    simp only [hrs, Sem.run_bind, hvs, Result.andThen_ok, Sem.run_pure]
    match vs, hl with
    | [v], _ =>
      refine ⟨v, by simp, ?_⟩
      simpa using hall 0 x rfl
  · rename_i hne
    obtain ⟨xs, hxs, rfl⟩ := Option.map_eq_some_iff.1 h
    obtain ⟨vs, hvs, hl, hall⟩ := hm _ _ hxs
    simp only [Sem.run_bind, hvs, Result.andThen_ok, Sem.run_pure]
    have hlen : fn.results.toList.length = vs.length := by
      rw [hl]
      have : ∀ (rs : List ResultVar) (xs : List AV), rs.mapM (resOne P s) = some xs → rs.length = xs.length := by
        intro rs
        induction rs with
        | nil => intro xs h; simp at h; subst h; rfl
        | cons r rs ih =>
          intro xs h
          simp only [List.mapM_cons, Option.bind_eq_bind, Option.bind_eq_some_iff, Option.pure_def, Option.some.injEq] at h
          obtain ⟨y, hy, ys, hys, rfl⟩ := h
          simp [ih ys hys]
      exact this _ _ hxs
    have hn1 : ¬ vs.length = 1 := by
      intro h1
      rw [h1] at hlen
      obtain ⟨r, hr1⟩ := List.length_eq_one_iff.1 hlen
      exact hne r hr1
    refine ⟨.tuple vs.toArray, by simp [hn1], .tup _ _ (by simpa using hl) (fun i x hx => ?_)⟩
    have := hall i x hx
    simpa [Array.getD_eq_getD_getElem?, List.getD_eq_getElem?_getD] using this

/-- How a body's end is told: the results, and a contract's memory in place of the call's own. -/
def Fin (L : List AObj) (L1 : List AObj) (r1 : AV) (L' : List AObj) (r : AV) : Prop :=
  ∀ γ0 w0 γ w v, Inv γ0 L w0 → Inv γ L1 w → RV γ L1 r1 v → Ext γ0 L γ L1 → Stp γ0 w0 γ w → ∃ γ', Inv γ' L' w ∧ RV γ' L' r v ∧ Ext γ0 L γ' L' ∧ Stp γ0 w0 γ' w

def St.init (fn : Func) (args : List AV) (L : List AObj) : St := ⟨args ++ List.replicate (fn.ntmps - args.length) .junk, L⟩

def FnEnd (P : Program) (fn : Func) (L : List AObj) (r : AV) (L' : List AObj) : Exit → St → Prop
  | .normal, s | .ret, s => ∃ r1, resA P fn s = some r1 ∧ Fin L s.L r1 L' r
  | _, _ => False

theorem Ct.intro {P : Program} {f : FuncId} {fn : Func} {c : Code} {args : List AV} {L L' : List AObj} {r : AV} (hf : P.funcs[f]? = some fn) (hb : fn.body = some c)
    (h : AWp P c (FnEnd P fn L r L') (St.init fn args L)) : Ct P f args L r L' := by
  intro γ w vs hI ha
  refine calls_of_wp hf hb ?_
  have hr : Rel γ (St.init fn args L) { tmps := vs ++ Array.replicate (fn.ntmps - vs.size) undef, defers := [] } w := by
    refine ⟨rfl, by simp [St.init, ha.1], fun i x hx => ?_, hI⟩
    simp only [St.init] at hx
    by_cases hi : i < args.length
    · rw [List.getElem?_append_left hi] at hx
      have := ha.2 i x hx
      have hlt : i < vs.size := by rw [ha.1]; exact hi
      have hlt2 : i < vs.size + (fn.ntmps - vs.size) := by omega
      simp only [Array.getD, hlt, dif_pos] at this
      simp only [Array.getD, Array.size_append, Array.size_replicate, hlt2, dif_pos]
      simp only [Array.getElem_append, hlt, dif_pos, Array.getInternal_eq_getElem]
      exact this
    · rw [List.getElem?_append_right (by omega)] at hx
      rw [List.getElem?_replicate] at hx
      split at hx <;> cases hx
      exact .junk _
  refine wp_mono (h γ _ w hr) ?_
  rintro e a' w' ⟨γ', s', h1, h2, h3, h4⟩
  have key : (∃ r1, resA P fn s' = some r1 ∧ Fin L s'.L r1 L' r) → a'.defers = [] ∧ ∃ v, (results fn a'.tmps).run P w' = .ok v w' ∧
      (fun e w' => ∃ γ' v, e = Ending.returned v ∧ Inv γ' L' w' ∧ RV γ' L' r v ∧ Ext γ L γ' L' ∧ Stp γ w γ' w') (.returned v) w' := by
    rintro ⟨r1, hr1, hfin⟩
    obtain ⟨v, hv, hrv⟩ := run_results h1 hr1
    obtain ⟨γ2, k1, k2, k3, k4⟩ := hfin γ w γ' w' v hI h1.inv hrv h2 h3
    exact ⟨h1.defers, v, hv, γ2, v, rfl, k1, k2, k3, k4⟩
  cases e with
  | normal => exact key h4
  | ret => exact key h4
  | _ => exact h4.elim

/-! ### values alone -/
/-- A value that leads to nothing that a call owns. -/
def Pur (x : AV) : Prop := ∀ γ L γ' L' v, (∀ b o, γ b = .ro o → γ' b = .ro o) → RV γ L x v → RV γ' L' x v

theorem Pur.int (k : IntKind) (n : Int) : Pur (.int k n) := fun _ _ _ _ _ _ h => by cases h; exact .int _ _
theorem Pur.bool (b : Bool) : Pur (.bool b) := fun _ _ _ _ _ _ h => by cases h; exact .bool _
theorem Pur.str (s : ByteArray) : Pur (.str s) := fun _ _ _ _ _ _ h => by cases h; exact .str _
theorem Pur.lit (v : Value) : Pur (.lit v) := fun _ _ _ _ _ _ h => by cases h; exact .lit _ (by assumption)
theorem Pur.junk : Pur .junk := fun _ _ _ _ _ _ _ => .junk _
theorem Pur.agg {cs : List AV} (h : ∀ x ∈ cs, Pur x) : Pur (.agg cs) := fun γ L γ' L' v hro hv => by
  cases hv with
  | agg _ vs hn h1 hall => exact .agg _ _ hn h1 fun i x hx => h x (List.mem_of_getElem? hx) _ _ _ _ _ hro (hall i x hx)
theorem Pur.tup {cs : List AV} (h : ∀ x ∈ cs, Pur x) : Pur (.tup cs) := fun γ L γ' L' v hro hv => by
  cases hv with
  | tup _ vs hn hall => exact .tup _ _ hn fun i x hx => h x (List.mem_of_getElem? hx) _ _ _ _ _ hro (hall i x hx)
theorem Pur.fn {f : FuncId} {cs : List AV} (h : ∀ x ∈ cs, Pur x) : Pur (.fn f cs) := fun γ L γ' L' v hro hv => by
  cases hv with
  | fn _ _ vs hn hall => exact .fn _ _ _ hn fun i x hx => h x (List.mem_of_getElem? hx) _ _ _ _ _ hro (hall i x hx)
theorem Pur.sl {o : Bool} {es : List AV} (h : ∀ e ∈ es, ∀ x ∈ e.cells, Pur x) : Pur (.sl o es) := fun γ L γ' L' v hro hv => by
  cases hv with
  | sl _ _ A n c sz vals hn hc hsz h2 h1 h3 =>
    exact .sl _ _ A n c sz vals hn hc hsz (fun i e j x a b => roCell_mono hro (h2 i e j x a b)) h1
      fun i e j x a b => h e (List.mem_of_getElem? a) x (List.mem_of_getElem? b) _ _ _ _ _ hro (h3 i e j x a b)
theorem Pur.rptr {c : AV} {off : Nat} (h : ∀ x ∈ c.cells, Pur x) : Pur (.rptr c off) := fun γ L γ' L' v hro hv => by
  cases hv with
  | rptr _ _ b o vals h2 h1 h3 => exact .rptr _ _ b o vals (fun j y a => roCell_mono hro (h2 j y a)) h1 fun j y a => h y (List.mem_of_getElem? a) _ _ _ _ _ hro (h3 j y a)

mutual
def pureB : AV → Bool
  | .int _ _ => true
  | .bool _ => true
  | .str _ => true
  | .lit _ => true
  | .junk => true
  | .sl _ es => pureL es
  | .agg cs => pureL cs
  | .tup cs => pureL cs
  | .fn _ cs => pureL cs
  | .rptr c _ => pureB c
  | _ => false
def pureL : List AV → Bool
  | [] => true
  | x :: xs => pureB x && pureL xs
end

theorem pureL_mem {xs : List AV} : pureL xs = true ↔ ∀ x ∈ xs, pureB x = true := by
  induction xs with
  | nil => simp [pureL]
  | cons x xs ih => simp [pureL, ih]

theorem pureB_cells {x c : AV} (h : pureB x = true) (hc : c ∈ x.cells) : pureB c = true := by
  cases x <;> first
    | (simp only [AV.cells, List.mem_singleton] at hc; subst hc; exact h)
    | (simp only [AV.cells] at hc; simp only [pureB] at h; exact pureL_mem.1 h c hc)

theorem pureB_sound {γ γ' : Nat → Gh} {L L' : List AObj} (hro : ∀ b o, γ b = .ro o → γ' b = .ro o) {x : AV} {v : Value} (hv : RV γ L x v) : pureB x = true → RV γ' L' x v := by
  induction hv with
  | int k n => intro _; exact .int k n
  | bool b => intro _; exact .bool b
  | str s => intro _; exact .str s
  | lit v h => intro _; exact .lit v h
  | sl own es A n c sz vals hn hc hsz h2 h1 h3 ih =>
    intro hp
    simp only [pureB] at hp
    exact .sl own es A n c sz vals hn hc hsz (fun i e j x a b => roCell_mono hro (h2 i e j x a b)) h1
      (fun i e j x a b => ih i e j x a b (pureB_cells (pureL_mem.1 hp e (List.mem_of_getElem? a)) (List.mem_of_getElem? b)))
  | agg cs vs hn h1 h ih => intro hp; simp only [pureB] at hp; exact .agg cs vs hn h1 (fun i x hx => ih i x hx (pureL_mem.1 hp x (List.mem_of_getElem? hx)))
  | tup cs vs hn h ih => intro hp; simp only [pureB] at hp; exact .tup cs vs hn (fun i x hx => ih i x hx (pureL_mem.1 hp x (List.mem_of_getElem? hx)))
  | ref id p g n v h h1 => intro hp; simp [pureB] at hp
  | ptr id off b c T cs hL' h => intro hp; simp [pureB] at hp
  | eptr id p g i off v h h1 => intro hp; simp [pureB] at hp
  | rptr x off b o vals h2 h1 h3 ih =>
    intro hp; simp only [pureB] at hp
    exact .rptr x off b o vals (fun j y a => roCell_mono hro (h2 j y a)) h1 (fun j y a => ih j y a (pureB_cells hp (List.mem_of_getElem? a)))
  | fn f cs vs hn h ih => intro hp; simp only [pureB] at hp; exact .fn f cs vs hn (fun i x hx => ih i x hx (pureL_mem.1 hp x (List.mem_of_getElem? hx)))
  | map id b c kt vt es hL' h => intro hp; simp [pureB] at hp
  | junk v => intro _; exact .junk v

theorem Pur.of {x : AV} (h : pureB x = true) : Pur x := fun _ _ _ _ _ hro hv => pureB_sound hro hv h
theorem Pur.ofL {xs : List AV} (h : pureL xs = true) : ∀ x ∈ xs, Pur x := fun x hx => .of (pureL_mem.1 h x hx)

/-- What a call over values alone sees of the memory: what the caller owns is not its own. -/
def hide (γ : Nat → Gh) : Nat → Gh := fun b => match γ b with | .ow _ _ _ => .out | x => x

/-- A value without anything owned, told where nothing is owned, is so everywhere. -/
theorem RV.lift {γ γ' : Nat → Gh} {L' : List AObj} {x : AV} {v : Value} (hro : ∀ b o, γ b = .ro o → γ' b = .ro o) (h : RV γ [] x v) : RV γ' L' x v := by
  generalize hL : ([] : List AObj) = L at h
  induction h with
  | int k n => exact .int k n
  | bool b => exact .bool b
  | str s => exact .str s
  | lit v h => exact .lit v h
  | sl own es A n c sz vals hn hc hsz h2 h1 h3 ih => exact .sl own es A n c sz vals hn hc hsz (fun i e j x a b => roCell_mono hro (h2 i e j x a b)) h1 (fun i e j x a b => ih i e j x a b)
  | agg cs vs hn h1 h ih => exact .agg cs vs hn h1 (fun i x hx => ih i x hx)
  | tup cs vs hn h ih => exact .tup cs vs hn (fun i x hx => ih i x hx)
  | ref id p g n v h h1 => subst hL; simp [RefOk] at h
  | ptr id off b c T cs hL' h => subst hL; simp at hL'
  | eptr id p g i off v h h1 => subst hL; simp [EptrOk] at h
  | rptr x off b o vals h2 h1 h3 ih => exact .rptr x off b o vals (fun j y a => roCell_mono hro (h2 j y a)) h1 (fun j y a => ih j y a)
  | fn f cs vs hn h ih => exact .fn f cs vs hn (fun i x hx => ih i x hx)
  | map id b c kt vt es hL' h => subst hL; simp at hL'
  | junk v => exact .junk v

/-- A contract over values alone, used where the caller owns memory. -/
theorem Ct.frame {P : Program} {f : FuncId} {args : List AV} {r : AV} (L : List AObj) (h : Ct P f args [] r []) (hp : ∀ x ∈ args, Pur x) : Ct P f args L r L := by
  intro γ w vs hI ha
  have hro : ∀ b o, γ b = .ro o → hide γ b = .ro o := fun b o hb => by simp [hide, hb]
  have hI0 : Inv (hide γ) [] w := by
    refine ⟨fun b o hb => ?_, fun b id p c hb => ?_, fun b b' id p c c' hb => ?_, fun id T cs hL => by simp at hL, fun id kt vt es hL => by simp at hL⟩
    · unfold hide at hb
      split at hb
      · cases hb
      · exact hI.ro b o hb
    · unfold hide at hb
      split at hb
      · cases hb
      · rename_i hne; exact (hne _ _ _ hb).elim
    · unfold hide at hb
      split at hb
      · cases hb
      · rename_i hne; exact (hne _ _ _ hb).elim
  refine (h (hide γ) w vs hI0 ⟨ha.1, fun i x hx => hp x (List.mem_of_getElem? hx) _ _ _ _ _ hro (ha.2 i x hx)⟩).mono ?_
  rintro e w' ⟨γ1, v, rfl, hI1, hv, _, hS⟩
  have hlt : ∀ {b id p c}, γ b = .ow id p c → b < w.heap.size := fun hb => by
    obtain ⟨o, ho, _⟩ := hI.ow _ _ _ _ hb
    exact (Array.getElem?_eq_some_iff.1 ho).1
  let γ' : Nat → Gh := fun b => match γ b with | .ow id p c => .ow id p c | _ => γ1 b
  have h1 : ∀ {b id p c}, γ b = .ow id p c → γ' b = .ow id p c ∧ γ1 b = .out ∧ w'.heap[b]? = w.heap[b]? := by
    intro b id p c hb
    have := hS.out b (hlt hb) (by simp [hide, hb])
    exact ⟨by simp [γ', hb], this.1, this.2⟩
  have h2 : ∀ {b}, (∀ id p c, γ b ≠ .ow id p c) → γ' b = γ1 b := by
    intro b hb
    cases hg : γ b with
    | ow id p c => exact absurd hg (hb id p c)
    | out => simp [γ', hg]
    | ro o => simp [γ', hg]
  have hno1 : ∀ b id p c, γ1 b ≠ .ow id p c := by
    intro b id p c hb
    have := hI1.idlt hb
    simp at this
  have h3 : ∀ {b id p c}, γ' b = .ow id p c → γ b = .ow id p c := by
    intro b id p c hb
    by_cases hx : ∃ id p c, γ b = .ow id p c
    · obtain ⟨id', p', c', he⟩ := hx
      rw [(h1 he).1] at hb; cases hb; exact he
    · rw [h2 (fun id p c he => hx ⟨id, p, c, he⟩)] at hb
      exact absurd hb (hno1 _ _ _ _)
  have h4 : ∀ b o, γ' b = .ro o ↔ (γ1 b = .ro o ∧ ∀ id p c, γ b ≠ .ow id p c) := by
    intro b o
    by_cases hx : ∃ id p c, γ b = .ow id p c
    · obtain ⟨id', p', c', he⟩ := hx
      rw [(h1 he).1]
      constructor
      · intro hb; cases hb
      · intro hb; exact absurd he (hb.2 _ _ _)
    · have hn : ∀ id p c, γ b ≠ .ow id p c := fun id p c he => hx ⟨id, p, c, he⟩
      rw [h2 hn]
      exact ⟨fun hb => ⟨hb, hn⟩, fun hb => hb.1⟩
  have hro1 : ∀ b o, γ1 b = .ro o → γ' b = .ro o := by
    intro b o hb
    refine (h4 b o).2 ⟨hb, fun id p c he => ?_⟩
    rw [(h1 he).2.1] at hb; cases hb
  have hE : Ext γ L γ' L := by
    refine ⟨fun b o hb => hro1 b o (hS.ro b o (hro b o hb)), fun id o hL => ⟨o, hL, OStep.refl o⟩, fun b id p c hb => .inl (h1 hb).1, fun id T sz g es T' sz' es' _ _ p e1 _ b c hb => h3 hb⟩
  refine ⟨γ', v, rfl, ⟨fun b o hb => hI1.ro b o ((h4 b o).1 hb).1, fun b id p c hb => ?_, fun b b' id p c c' hb hb' => hI.inj _ _ _ _ _ _ (h3 hb) (h3 hb'), fun id T cs hL => ?_, fun id kt vt es hL => ?_⟩, hv.lift hro1, hE, ?_⟩
  · have hb0 := h3 hb
    obtain ⟨o, ho, hrep⟩ := hI.ow _ _ _ _ hb0
    refine ⟨o, by rw [(h1 hb0).2.2]; exact ho, ?_⟩
    have := hrep.grow (X := []) (γ' := γ') (by simpa using hE) (hI.idlt hb0) (fun b p c hb => (h1 hb).1) (fun b p c hb => h3 hb)
    simpa using this
  · obtain ⟨b, c, hb⟩ := hI.box _ _ _ hL
    exact ⟨b, c, (h1 hb).1⟩
  · obtain ⟨b, c, hb⟩ := hI.map _ _ _ _ hL
    exact ⟨b, c, (h1 hb).1⟩
  · refine ⟨hS.os, hS.tape, hS.output, hS.size, hE.ro, fun b hb ho => ?_⟩
    have := hS.out b hb (by simp [hide, ho])
    exact ⟨by rw [h2 (fun id p c he => by rw [ho] at he; cases he)]; exact this.1, this.2⟩

/-! ### a call's own memory at its end -/
/-- All that the call owns is never written again. -/
def frz (γ : Nat → Gh) (w : World) : Nat → Gh := fun b =>
  match γ b with
  | .ow _ _ _ => match w.heap[b]? with | some o => .ro o | none => .out
  | x => x

/-- 'x', told with what the call owns, is 'y' once nothing is written any more. -/
def Vw (L : List AObj) (x y : AV) : Prop := ∀ γ w v, Inv γ L w → RV γ L x v → RV (frz γ w) [] y v

theorem frz_ro {γ : Nat → Gh} {w : World} : ∀ b o, γ b = .ro o → frz γ w b = .ro o := fun b o h => by simp [frz, h]

theorem Vw.pur {L : List AObj} {x : AV} (h : Pur x) : Vw L x x := fun γ w v hI hv => h _ _ _ _ _ frz_ro hv

inductive VwL (L : List AObj) : List AV → List AV → Prop where
  | nil : VwL L [] []
  | cons {x y : AV} {xs ys : List AV} (h : Vw L x y) (k : VwL L xs ys) : VwL L (x :: xs) (y :: ys)

theorem VwL.get {L : List AObj} {xs ys : List AV} (h : VwL L xs ys) : xs.length = ys.length ∧ ∀ (i : Nat) y, ys[i]? = some y → ∃ x, xs[i]? = some x ∧ Vw L x y := by
  induction h with
  | nil => exact ⟨rfl, fun i y hy => by simp at hy⟩
  | cons h k ih =>
    refine ⟨by simp [ih.1], fun i y hy => ?_⟩
    cases i with
    | zero => simp at hy; subst hy; exact ⟨_, rfl, h⟩
    | succ i => simp at hy; simpa using ih.2 i y hy

theorem VwL.pur {L : List AObj} : ∀ {xs : List AV}, (∀ x ∈ xs, Pur x) → VwL L xs xs
  | [], _ => .nil
  | x :: xs, h => .cons (.pur (h x (by simp))) (VwL.pur fun y hy => h y (by simp [hy]))

theorem Vw.agg {L : List AObj} {xs ys : List AV} (h : VwL L xs ys) : Vw L (.agg xs) (.agg ys) := by
  intro γ w v hI hv
  cases hv with
  | agg _ vs hn h1 hall =>
    refine .agg _ _ (by rw [hn]; exact h.get.1) h1 fun i y hy => ?_
    obtain ⟨x, hx, hxy⟩ := h.get.2 i y hy
    exact hxy γ w _ hI (hall i x hx)

theorem Vw.tup {L : List AObj} {xs ys : List AV} (h : VwL L xs ys) : Vw L (.tup xs) (.tup ys) := by
  intro γ w v hI hv
  cases hv with
  | tup _ vs hn hall =>
    refine .tup _ _ (by rw [hn]; exact h.get.1) fun i y hy => ?_
    obtain ⟨x, hx, hxy⟩ := h.get.2 i y hy
    exact hxy γ w _ hI (hall i x hx)

/-- The nil slice is an empty slice. -/
theorem Vw.nil {L : List AObj} (o : Bool) : Vw L (.lit (.slice none 0 0)) (.sl o []) := by
  intro γ w v hI hv
  cases hv
  exact .sl _ _ _ 0 0 0 (fun _ _ => undef) rfl (Nat.le_refl _) (by simp) (by simp) (by simp) (by simp)

/-- A row of the call's own is a slice that is only read. -/
theorem Vw.ref {L : List AObj} {id g n : Nat} {p : Pth} {T : TypeId} {sz : Nat} {es es' ys : List AV} {o : Bool} (hL : L[id]? = some (.vec T sz g es)) (hs : sub es p = some es') (hy : ys.length = n)
    (hall : ∀ (i : Nat) e y, es'[i]? = some e → ys[i]? = some y → y.cells.length = e.cells.length ∧ ∀ (j : Nat) c d, e.cells[j]? = some c → y.cells[j]? = some d → Vw L (viewC id (p ++ [(i, j)]) g c) d) :
    Vw L (.ref id p g n) (.sl o ys) := by
  intro γ w v hI hv
  cases hv with
  | ref _ _ _ _ _ hok ho =>
    obtain ⟨_, _, _, es2, hL2, hs2, hn, hv⟩ := hok.form (by simp [eptrNow, hL])
    rw [hL] at hL2; cases hL2
    rw [hs] at hs2; cases hs2
    rcases hv with ⟨rfl, rfl, rfl, _⟩ | ⟨b, c, rfl, hb⟩
    · have : ys = [] := List.eq_nil_of_length_eq_zero hy
      subst this
      exact .sl _ _ _ 0 0 0 (fun _ _ => undef) rfl (Nat.le_refl _) (by simp) (by simp) (by simp) (by simp)
    · obtain ⟨arr, s, T', harr, _, hasz, hlc, _, hrow⟩ := hI.rowCell hL hs hb
      have hsome : ∀ {i : Nat} {y : AV}, ys[i]? = some y → ∃ e, es'[i]? = some e := by
        intro i y hiy
        have := (List.getElem?_eq_some_iff.1 hiy).1
        exact ⟨es'[i]'(by omega), List.getElem?_eq_getElem (by omega)⟩
      have hcell : ∀ (i : Nat) y (j : Nat) d, ys[i]? = some y → y.cells[j]? = some d → ∃ u, arr[i * s + j]? = some u ∧ u.oneCell' = true ∧ RV (frz γ w) [] d u := by
        intro i y j d hiy hjd
        obtain ⟨e, he⟩ := hsome hiy
        obtain ⟨hlen, hcd⟩ := hall i e y he hiy
        have hj : j < e.cells.length := by rw [← hlen]; exact (List.getElem?_eq_some_iff.1 hjd).1
        have hc : e.cells[j]? = some e.cells[j] := List.getElem?_eq_getElem hj
        obtain ⟨u, h1, h2, h3⟩ := hrow.2 i e j _ he hc
        exact ⟨u, h1, h2, hcd j _ d hc hjd γ w u hI (RV.viewC hL hs he hc h2 h3)⟩
      refine .sl _ _ _ _ _ s (fun i j => arr.getD (i * s + j) undef) hy.symm (by omega) ?_ ?_ ?_ ?_
      · intro y hy'
        obtain ⟨i, hi, rfl⟩ := List.getElem_of_mem hy'
        have hiy : ys[i]? = some ys[i] := List.getElem?_eq_getElem hi
        obtain ⟨e, he⟩ := hsome hiy
        rw [(hall i e _ he hiy).1]
        exact hrow.1 e (List.mem_of_getElem? he)
      · intro i y j d hiy hjd
        obtain ⟨u, h1, _, _⟩ := hcell i y j d hiy hjd
        have hf : frz γ w b = .ro (.cells arr T' (0, 0)) := by simp [frz, hb, harr]
        simp only [roCell, hf, Nat.zero_add, h1]
        simp [Array.getD_eq_getD_getElem?, h1]
      · intro i y j d hiy hjd
        obtain ⟨u, h1, h2, _⟩ := hcell i y j d hiy hjd
        simpa [Array.getD_eq_getD_getElem?, h1] using h2
      · intro i y j d hiy hjd
        obtain ⟨u, h1, _, h3⟩ := hcell i y j d hiy hjd
        simpa [Array.getD_eq_getD_getElem?, h1] using h3

/-- A row of values alone. -/
theorem Vw.refPur {L : List AObj} {id g n : Nat} {T : TypeId} {sz : Nat} {es : List AV} {o : Bool} (hL : L[id]? = some (.vec T sz g es)) (hn : n ≤ es.length)
    (hp : ∀ e ∈ es, ∀ c ∈ e.cells, Pur c ∧ ∀ xs, c ≠ .sl true xs) : Vw L (.ref id [] g n) (.sl o (es.take n)) := by
  refine Vw.ref hL rfl (by simp [hn]) fun i e y he hy => ?_
  have : e = y := by
    rw [List.getElem?_take] at hy
    split at hy
    · rw [he] at hy; exact Option.some.inj hy
    · cases hy
  subst this
  refine ⟨rfl, fun j c d hc hd => ?_⟩
  rw [hc] at hd; cases hd
  obtain ⟨h1, h2⟩ := hp e (List.mem_of_getElem? he) c (List.mem_of_getElem? hc)
  have : viewC id ([] ++ [(i, j)]) g c = c := by
    unfold K.viewC
    split
    · rename_i xs; exact absurd rfl (h2 xs)
    · rfl
  rw [this]
  exact Vw.pur h1

/-- The end of a call over values alone. -/
theorem Fin.value {L1 : List AObj} {r1 r : AV} (h : Vw L1 r1 r) : Fin [] L1 r1 [] r := by
  intro γ0 w0 γ w v hI0 hI hv hE hS
  have hno : ∀ b id p c, frz γ w b ≠ .ow id p c := by
    intro b id p c hb
    unfold frz at hb
    split at hb
    · split at hb <;> cases hb
    · rename_i hne; exact hne _ _ _ hb
  refine ⟨frz γ w, ⟨fun b o hb => ?_, fun b id p c hb => absurd hb (hno _ _ _ _), fun b b' id p c c' hb => absurd hb (hno _ _ _ _), fun id T cs hL => by simp at hL, fun id kt vt es hL => by simp at hL⟩,
    h γ w v hI hv, ⟨fun b o hb => frz_ro b o (hE.ro b o hb), fun id o hL => by simp at hL, fun b id p c hb => ?_, fun id T sz g es T' sz' es' hL => by simp at hL⟩,
    hS.os, hS.tape, hS.output, hS.size, fun b o hb => frz_ro b o (hS.ro b o hb), fun b hb ho => ?_⟩
  · unfold frz at hb
    split at hb
    · split at hb
      · cases hb; assumption
      · cases hb
    · exact hI.ro b o hb
  · have := hI0.idlt hb; simp at this
  · have := hS.out b hb ho
    exact ⟨by simp [frz, this.1], this.2⟩

end Go.Proofs.Ytolfjeedgedblaa.K
