/-
  A logic of values for Go's functions (part 6): one operation that computes or reads leads from a state to a state.
-/
import Derived.Test.YtolfjeedgedblaaK5
namespace Go.Proofs.Ytolfjeedgedblaa.K
set_option linter.unusedVariables false
set_option linter.unusedSimpArgs false
open Go

def pickA (c : Bool) (x y : AV) : Option AV :=
  match x, y with
  | .bool p, .bool q => some (.bool (bif c then p else q))
  | x, y => some (bif c then x else y)

def buildA (P : Program) (t : TypeId) (parts : List (Nat × AV)) : Option AV :=
  match zeroOf P t, P.underlying t with
  | some (.agg z), some (.struct fs) =>
    if fs.all (fun f => (P.info? f.type).isSome) ∧ z.all (·.oneCell') then
      (fillA (fun i => (fs[i]?).map fun f => (f.offset, P.cellsOf f.type)) (z.toList.map absV) parts).map .agg
    else none
  | some (.agg z), some (.array _ e) =>
    if (P.info? e).isSome ∧ z.all (·.oneCell') then
      (fillA (fun i => some (i * P.cellsOf e, P.cellsOf e)) (z.toList.map absV) parts).map .agg
    else none
  | _, _ => none

def funcA (s : St) (fn : Fn) (first cap : Array Operand) : Option AV :=
  match fn with
  | .func f => if first.size = 0 then some (.fn f (cap.toList.map s.ev)) else none
  | _ => none

def callA (P : Program) (s : St) (c : Call) : Option AV :=
  match c.callee with
  | .builtin b =>
    match b, c.args.toList, c.argTypes.toList with
    | .len, [x], [t] => lenA P s.L t (s.ev x)
    | .max, [x, y], _ => mmA true (s.ev x) (s.ev y)
    | .min, [x, y], _ => mmA false (s.ev x) (s.ev y)
    | _, _, _ => none
  | _ => none

def pureA (P : Program) (s : St) : Op → Option AV
  | .move x => some (s.ev x)
  | .assign x => some (s.ev x)
  | .pick c a b => match s.ev c with | .bool c => pickA c (s.ev a) (s.ev b) | _ => none
  | .load t a => loadA P s t (s.ev a)
  | .nilCheck x =>
    match s.ev x with
    | .ptr id off => some (.ptr id off)
    | .rptr c off => some (.rptr c off)
    | .eptr id p g i off => if eptrNow s.L id g then some (.eptr id p g i off) else none
    | .fn f c => some (.fn f c)
    | _ => none
  | .binOp op t x y _ => binA P op t (s.ev x) (s.ev y)
  | .unOp op _ x => unA op (s.ev x)
  | .convert a b x => convA P a b (s.ev x)
  | .fieldAddr t x f =>
    match s.ev x with
    | .eptr id p g i off => if eptrNow s.L id g then fieldAddrA P t f (.eptr id p g i off) else none
    | x => fieldAddrA P t f x
  | .field t x f => fieldA P t f (s.ev x)
  | .indexAddr t x i =>
    match s.ev x with
    | .ref id p g n => indexRefA P s.L t (.ref id p g n) (s.ev i)
    | x => indexAddrA P t x (s.ev i)
  | .index t x i => indexA P t (s.ev x) (s.ev i)
  | .slice t x lo hi none => sliceA P s.L t (s.ev x) (lo.map s.ev) (hi.map s.ev)
  | .extract t i => extractA i (s.ev t)
  | .makeFunc fn first cap => funcA s fn first cap
  | .build t parts => buildA P t (parts.toList.map fun p => (p.1, s.ev p.2))
  | .call c => callA P s c
  | _ => none

theorem buildA_run {P : Program} {γ : Nat → Gh} {s : St} {a : Act} {w : World} {t : TypeId} {parts : Array (Nat × Operand)} {x : AV} (hr : Rel γ s a w)
    (h : buildA P t (parts.toList.map fun p => (p.1, s.ev p.2)) = some x) :
    ∃ v, (Instr.build t (parts.map fun (i, x) => (i, a.eval x))).run P w = .ok v w ∧ RV γ s.L x v := by
  have hz : ∀ z, zeroOf P t = some z → (zeroValue t).run P w = .ok z w := by
    intro z hz
    unfold zeroOf at hz
    obtain ⟨i, hi, hz⟩ := Option.bind_eq_some_iff.1 hz
    simp [zeroValue, typeInfo, hi, hz]
  have hcells : ∀ z : Array Value, (z.all (·.oneCell')) = true → CellsR γ s.L (z.toList.map absV) z := by
    intro z hz
    refine ⟨by simp, fun j x hx => ?_⟩
    simp only [List.getElem?_map, Option.map_eq_some_iff] at hx
    obtain ⟨c, hc, rfl⟩ := hx
    refine ⟨c, by simpa using hc, ?_, .absV _⟩
    have hm : c ∈ z := by simpa using List.mem_of_getElem? hc
    exact (Array.all_eq_true_iff_forall_mem.1 hz) c hm
  have hparts : ∀ (i : Nat) (p : Nat × AV) (q : Nat × Value), (parts.toList.map fun p => (p.1, s.ev p.2))[i]? = some p → ((parts.map fun (i, x) => (i, a.eval x)).toList)[i]? = some q → p.1 = q.1 ∧ RV γ s.L p.2 q.2 := by
    intro i p q hp hq
    simp only [List.getElem?_map, Option.map_eq_some_iff, Array.toList_map] at hp hq
    obtain ⟨c, hc, rfl⟩ := hp
    obtain ⟨d, hd, rfl⟩ := hq
    rw [hc] at hd; cases hd
    exact ⟨rfl, hr.ev _⟩
  unfold buildA at h
  split at h
  · rename_i _ _ z fs hzo hfs
    split at h
    case isFalse => cases h
    rename_i hc
    obtain ⟨zs, hzs, rfl⟩ := Option.map_eq_some_iff.1 h
    obtain ⟨cs', hfill, hcr⟩ := fillA_run _ _ _ _ z (hcells z hc.2) (by simp) hparts hzs
    have hpl : ∀ (l : List Field), (∀ f ∈ l, (P.info? f.type).isSome = true) → (l.mapM fun f => (do pure (f.offset, ← sizeOf f.type) : Sem (Nat × Nat))).run P w = .ok (l.map fun f => (f.offset, P.cellsOf f.type)) w := by
      intro l
      induction l with
      | nil => intro _; simp
      | cons f l ih =>
        intro hl
        simp only [List.mapM_cons, Sem.run_bind, run_sizeOf w (hl f (by simp)), Result.andThen_ok, Sem.run_pure, ih (fun g hg => hl g (by simp [hg])), List.map_cons]
    have hplaces : (fs.mapM fun f => (do pure (f.offset, ← sizeOf f.type) : Sem (Nat × Nat))).run P w = .ok (fs.map fun f => (f.offset, P.cellsOf f.type)) w := by
      rw [Array.mapM_eq_mapM_toList]
      have := hpl fs.toList (fun f hf => by
        have := Array.all_eq_true_iff_forall_mem.1 hc.1 f (by simpa using hf)
        simpa using this)
      simp only [map_eq_pure_bind] 
      rw [Sem.run_bind, this]
      simp only [Result.andThen_ok, Sem.run_pure]
      congr 1
      apply Array.toList_inj.1
      simp
    refine ⟨.agg cs', ?_, ?_⟩
    · simp only [Instr.build, Sem.run_bind, hz _ hzo, Result.andThen_ok, Value.cells, run_underlying hfs, hplaces]
      have : (fun (i : Nat) => (fs.map fun f => (f.offset, P.cellsOf f.type))[i]?) = fun i => (fs[i]?).map fun f => (f.offset, P.cellsOf f.type) := by
        funext i; simp
      simp only [this, hfill, Sem.run_pure]
    · exact .agg _ _ hcr.1 (fun v hv => by
        obtain ⟨j, hj, rfl⟩ := Array.getElem_of_mem hv
        obtain ⟨u, hu, h1, _⟩ := hcr.2 j (zs[j]'(by have := hcr.1; omega)) (by simp)
        rw [Array.getElem?_eq_getElem hj] at hu; cases hu; exact h1) (fun i y hy => by
        obtain ⟨u, hu, _, h2⟩ := hcr.2 i y hy
        obtain ⟨hlt, hu'⟩ := Array.getElem?_eq_some_iff.1 hu
        simp [Array.getD, hlt, hu', h2])
  · rename_i _ _ z len e hzo hfs
    split at h
    case isFalse => cases h
    rename_i hc
    obtain ⟨zs, hzs, rfl⟩ := Option.map_eq_some_iff.1 h
    obtain ⟨cs', hfill, hcr⟩ := fillA_run _ _ _ _ z (hcells z hc.2) (by simp) hparts hzs
    refine ⟨.agg cs', ?_, ?_⟩
    · simp only [Instr.build, Sem.run_bind, hz _ hzo, Result.andThen_ok, Value.cells, run_underlying hfs, run_sizeOf w hc.1, hfill, Sem.run_pure]
    · exact .agg _ _ hcr.1 (fun v hv => by
        obtain ⟨j, hj, rfl⟩ := Array.getElem_of_mem hv
        obtain ⟨u, hu, h1, _⟩ := hcr.2 j (zs[j]'(by have := hcr.1; omega)) (by simp)
        rw [Array.getElem?_eq_getElem hj] at hu; cases hu; exact h1) (fun i y hy => by
        obtain ⟨u, hu, _, h2⟩ := hcr.2 i y hy
        obtain ⟨hlt, hu'⟩ := Array.getElem?_eq_some_iff.1 hu
        simp [Array.getD, hlt, hu', h2])
  · cases h

theorem fieldAddrA_run {P : Program} {γ : Nat → Gh} {L : List AObj} {w : World} {t : TypeId} {f : Nat} {x z : AV} {u : Value} (hx : RV γ L x u)
    (he : ∀ id p g i off, x = .eptr id p g i off → eptrNow L id g = true) (h : fieldAddrA P t f x = some z) :
    ∃ r, (Instr.fieldAt t u f).run P w = .ok r w ∧ RV γ L z r := by
  unfold fieldAddrA at h
  split at h
  case h_2 => cases h
  rename_i o ft hf
  split at h
  case isFalse => cases h
  rename_i hc
  split at h
  · cases h
    cases hx with
    | ptr _ _ b c T cs hL hb => exact ⟨_, run_fieldAt w hf hc.1 hc.2 b _, .ptr _ _ _ _ _ _ hL hb⟩
  · cases h
    cases hx with
    | rptr _ _ b o' vals h2 h1 h3 =>
      refine ⟨_, run_fieldAt w hf hc.1 hc.2 b (o' + _), ?_⟩
      rw [Nat.add_assoc]
      exact .rptr _ _ b o' vals h2 h1 h3
  · cases h
    cases hx with
    | eptr _ _ _ _ _ _ hok h1 =>
      obtain ⟨b, o', rfl⟩ := hok.form (he _ _ _ _ _ rfl)
      exact ⟨_, run_fieldAt w hf hc.1 hc.2 b o', .eptr _ _ _ _ _ _ hok.shift rfl⟩
  · cases h

theorem pureA_sound {P : Program} {o : Oper} {s : St} {x : AV} (h : pureA P s o.op = some x) : OpS P o s (s.put o.dst x) := by
  refine OpS.pure fun γ a w hr => ?_
  have val : ∀ {m : Sem Value}, (∃ v, m.run P w = .ok v w ∧ RV γ s.L x v) → ∃ v, ((do pure (.value (← m)) : Sem Next)).run P w = .ok (.value v) w ∧ RV γ s.L x v := by
    rintro m ⟨v, hv, hx⟩
    exact ⟨v, by simp [hv], hx⟩
  have hev := fun y => hr.ev y
  unfold pureA at h
  unfold execOp
  split at h
  · rename_i y ho
    cases h; rw [ho]; exact ⟨_, by simp, hev _⟩
  · rename_i y ho
    cases h; rw [ho]; exact ⟨_, by simp, hev _⟩
  · rename_i c p q ho
    rw [ho]
    split at h
    case h_2 => cases h
    rename_i c' hc
    have hcv := hev c
    rw [hc] at hcv
    generalize hcc : a.eval c = vc at hcv
    cases hcv
    have hp := hev p
    have hq := hev q
    refine ⟨if c' then a.eval p else a.eval q, ?_, ?_⟩
    · simp only [hcc, asBool, Sem.run_bind, Sem.run_pure, Result.andThen_ok]
    · unfold pickA at h
      split at h
      · rename_i p' q' e1 e2
        cases h
        rw [e1] at hp; rw [e2] at hq
        cases c' <;> simp <;> assumption
      · cases h
        cases c' <;> simp <;> assumption
  · rename_i t y ho
    rw [ho]
    exact val (loadA_run hr.inv (hev y) h)
  · rename_i y ho
    rw [ho]
    have hy := hev y
    split at h
    · rename_i e; rw [e] at hy; cases h; clear hev; have hy2 := hy; generalize hv : a.eval y = v at hy2; cases hy2; exact ⟨a.eval y, (by simp [hv]), hy⟩
    · rename_i e; rw [e] at hy; cases h; clear hev; have hy2 := hy; generalize hv : a.eval y = v at hy2; cases hy2; exact ⟨a.eval y, (by simp [hv]), hy⟩
    · rename_i e; rw [e] at hy
      split at h
      case isFalse => cases h
      rename_i hn
      cases h
      clear hev
      have hy2 := hy
      generalize hv : a.eval y = v at hy2
      cases hy2 with
      | eptr _ _ _ _ _ _ hok h1 =>
        obtain ⟨b, o', rfl⟩ := hok.form hn
        exact ⟨a.eval y, (by simp [hv]), hy⟩
    · rename_i e; rw [e] at hy; cases h; clear hev; have hy2 := hy; generalize hv : a.eval y = v at hy2; cases hy2; exact ⟨a.eval y, (by simp [hv]), hy⟩
    · cases h
  · rename_i op t y z ty ho
    rw [ho]
    exact val (binA_run (hev y) (hev z) h)
  · rename_i op t y ho
    rw [ho]
    exact val (unA_run (hev y) h)
  · rename_i t t' y ho
    rw [ho]
    exact val (convA_run (hev y) h)
  · rename_i t y f ho
    rw [ho]
    have hy := hev y
    split at h
    · rename_i e
      split at h
      case isFalse => cases h
      rename_i hn
      rw [e] at hy
      exact val (fieldAddrA_run hy (fun _ _ _ _ _ he => by cases he; exact hn) h)
    · rename_i e
      exact val (fieldAddrA_run hy (fun _ _ _ _ _ he => (e _ _ _ _ _ he).elim) h)
  · rename_i t y f ho
    rw [ho]
    have hy := hev y
    refine val ?_
    unfold fieldA at h
    split at h
    case h_2 => cases h
    rename_i cs e
    rw [e] at hy
    split at h
    case h_2 => cases h
    rename_i o' ft hf
    unfold fieldOf at hf
    split at hf
    case h_2 => cases hf
    rename_i fs hfs
    obtain ⟨fd, hfd, he⟩ := Option.map_eq_some_iff.1 hf
    cases he
    clear hev
    generalize hv : a.eval y = v at hy
    cases hy with
    | agg _ vs hn ho' hall =>
      obtain ⟨r, hrun, hrv⟩ := run_part (w := w) h hn ho' hall
      exact ⟨r, by simp [Instr.field, run_underlying hfs, hfd, asAgg, hrun], hrv⟩
  · rename_i t y i ho
    rw [ho]
    have hy := hev y
    split at h
    · rename_i e
      rw [e] at hy
      exact val (indexRefA_run hr.inv hy (hev i) h)
    · exact val (indexAddrA_run hy (hev i) h)
  · rename_i t y i ho
    rw [ho]
    exact val (indexA_run (hev y) (hev i) h)
  · rename_i t y lo hi ho
    rw [ho]
    refine val (sliceA_run hr.inv (hev y) ?_ ?_ ?_ ?_ h)
    · rintro x hx
      obtain ⟨l, rfl, rfl⟩ := Option.map_eq_some_iff.1 hx
      exact ⟨_, rfl, hev l⟩
    · intro hl; cases lo with | none => rfl | some l => cases hl
    · rintro x hx
      obtain ⟨l, rfl, rfl⟩ := Option.map_eq_some_iff.1 hx
      exact ⟨_, rfl, hev l⟩
    · intro hl; cases hi with | none => rfl | some l => cases hl
  · rename_i t i ho
    rw [ho]
    exact val (extractA_run (hev t) h)
  · rename_i fn first cap ho
    rw [ho]
    unfold funcA at h
    split at h
    case h_2 => cases h
    rename_i f
    split at h
    case isFalse => cases h
    rename_i h0
    cases h
    have hf : first = #[] := Array.size_eq_zero_iff.1 h0
    subst hf
    refine ⟨.func (.func f) #[] (cap.map a.eval), by simp [Instr.makeFunc], .fn _ _ _ (by simp) (fun i x hx => ?_)⟩
    simp only [List.getElem?_map, Option.map_eq_some_iff] at hx
    obtain ⟨c, hc, rfl⟩ := hx
    have hlt := (List.getElem?_eq_some_iff.1 hc).1
    simp at hlt
    have hc' : cap[i] = c := by simpa [hlt] using hc
    simp [Array.getD, hlt, hc']
    exact hev c
  · rename_i t parts ho
    rw [ho]
    exact val (buildA_run hr h)
  · rename_i c ho
    rw [ho]
    unfold callA at h
    obtain ⟨cal, cargs, cts⟩ := c
    split at h
    case h_2 => cases h
    rename_i b hb
    cases hb
    split at h
    · rename_i y t e1 e2
      obtain rfl : cargs = #[y] := Array.toList_inj.1 e1
      obtain rfl : cts = #[t] := Array.toList_inj.1 e2
      obtain ⟨v, hv, hx⟩ := lenA_run (P := P) (w := w) (ty := o.type) (hev y) h
      exact ⟨v, by simp [resolve, invoke, builtin, hv], hx⟩
    · rename_i y z e1
      obtain rfl : cargs = #[y, z] := Array.toList_inj.1 e1
      obtain ⟨v, hv, hx⟩ := maxA_run (P := P) (w := w) (ts := cts) (t := o.type) (hev y) (hev z) h
      exact ⟨v, by simp [resolve, invoke, builtin, hv], hx⟩
    · rename_i y z e1
      obtain rfl : cargs = #[y, z] := Array.toList_inj.1 e1
      obtain ⟨v, hv, hx⟩ := minA_run (P := P) (w := w) (ts := cts) (t := o.type) (hev y) (hev z) h
      exact ⟨v, by simp [resolve, invoke, builtin, hv], hx⟩
    · cases h
  · cases h

end Go.Proofs.Ytolfjeedgedblaa.K
