/-
  A logic of values for Go's functions (part 10d): rows that are made; stores into rows; literal rows of the call's own.
-/
import Derived.Test.YtolfjeedgedblaaKC
namespace Go.Proofs.Ytolfjeedgedblaa.K
set_option linter.unusedVariables false
set_option linter.unusedSimpArgs false
open Go Go.RowKit

/-- Is it a value with cells? -/
def AV.solid : AV → Bool
  | .junk => false
  | .tup _ => false
  | _ => true

theorem AV.solid_spec {x : AV} (h : x.solid = true) : x ≠ .junk ∧ ∀ vs, x ≠ .tup vs := by
  cases x <;> simp [AV.solid] at h ⊢

theorem fillA_length {place : Nat → Option (Nat × Nat)} : ∀ {parts : List (Nat × AV)} {cells zs : List AV}, fillA place cells parts = some zs → zs.length = cells.length
  | [], cells, zs, h => by simp [fillA] at h; rw [h]
  | (i, v) :: rest, cells, zs, h => by
    unfold fillA at h
    split at h
    · cases h
    · split at h
      · cases h
      · rename_i off size _ hc
        split at h
        · cases h
        · cases h
        · have := fillA_length h
          simp only [not_or, Decidable.not_not, Nat.not_lt] at hc
          rw [this]
          simp only [List.length_append, List.length_take, List.length_drop]
          omega

/-! ### rows that are made -/
/-- A zero value as an element. -/
def zeroE (z : Value) : AV :=
  match z with
  | .agg cs => .agg (cs.toList.map absV)
  | v => absV v

theorem absV_cells (v : Value) : (absV v).cells = [absV v] := by
  unfold absV
  split <;> first | rfl | (split <;> rfl)

theorem absV_noOwn (v : Value) : ∀ xs, absV v ≠ .sl true xs := by
  intro xs
  unfold absV
  split <;> first | (intro h; cases h) | (split <;> intro h <;> cases h)

theorem zeroE_cells {z : Value} (h : ∀ vs, z ≠ .tuple vs) : (zeroE z).cells = z.cells.toList.map absV := by
  unfold zeroE
  split
  · rfl
  · rename_i hne
    rw [absV_cells]
    cases z <;> first | rfl | exact absurd rfl (hne _) | exact absurd rfl (h _)

def makeA (P : Program) (s : St) (t : TypeId) (l c : AV) : Option (AV × List AObj) :=
  match P.underlying t, asI l, asI c with
  | some (.slice e), some n, some m =>
    match zeroOf P e with
    | some z =>
      if (0 ≤ n ∧ n ≤ m ∧ m ≤ 137438953472) ∧ (decide (P.bytesOf e ≤ 1024)) = true ∧ (P.info? e).isSome ∧ 0 < P.cellsOf e ∧ z.cells.size = P.cellsOf e ∧ z.cells.all (·.oneCell') = true ∧ isTup z = false then
        some (.ref s.L.length [] 0 n.toNat, s.L ++ [.vec e (P.cellsOf e) 0 (List.replicate n.toNat (zeroE z))])
      else none
    | none => none
  | _, _, _ => none
where
  isTup : Value → Bool
  | .tuple _ => true
  | _ => false

theorem make_sound {P : Program} {o : Oper} {s : St} {t : TypeId} {x y : Operand} {r : AV} {L' : List AObj}
    (ho : o.op = .makeSlice t x y) (h : makeA P s t (s.ev x) (s.ev y) = some (r, L')) : OpS P o s ({ s with L := L' }.put o.dst r) := by
  intro γ a w K Q hr hK
  have hvx := hr.ev x
  have hvy := hr.ev y
  unfold makeA at h
  split at h
  case h_2 => cases h
  rename_i e n m ht hx hy
  obtain ⟨kl, hx⟩ : ∃ k, s.ev x = .int k n := by
    unfold asI at hx; split at hx <;> cases hx; exact ⟨_, by assumption⟩
  obtain ⟨kc, hy⟩ : ∃ k, s.ev y = .int k m := by
    unfold asI at hy; split at hy <;> cases hy; exact ⟨_, by assumption⟩
  split at h
  case h_2 => cases h
  rename_i z hz
  split at h
  case isFalse => cases h
  rename_i hc
  obtain ⟨⟨h0, hnm, hm⟩, hbw, hi, hsz, hzs, hz1, htup⟩ := hc
  cases h
  rw [hx] at hvx
  rw [hy] at hvy
  generalize hex : a.eval x = vx at hvx
  generalize hey : a.eval y = vy at hvy
  cases hvx
  cases hvy
  obtain ⟨ti, hti, hzero⟩ := Option.bind_eq_some_iff.1 hz
  have htsz : ti.size = P.cellsOf e := by simp [Program.cellsOf, hti]
  have hby : ti.bytes ≤ 1024 := by
    have h1 : P.bytesOf e ≤ 1024 := by simpa using hbw
    simpa [Program.bytesOf, hti] using h1
  have hbytes : (ti.bytes : Int) * m ≤ 281474976710656 := by
    have h1 : (ti.bytes : Int) * m ≤ 1024 * m := Int.mul_le_mul_of_nonneg_right (by omega) (by omega)
    omega
  have hrun := run_make (P := P) w t e ti z ht hti hzero kl kc n m h0 hnm hbytes (by omega)
  have hzc : (zeroE z).cells = z.cells.toList.map absV := zeroE_cells (fun vs he => by subst he; simp [makeA.isTup] at htup)
  have hzl : (zeroE z).cells.length = P.cellsOf e := by rw [hzc]; simp [hzs]
  have hA := hr.inv.allocObj (.cells (madeCells z.cells (m.toNat * ti.size)) e) (AObj.vec e (P.cellsOf e) 0 (List.replicate n.toNat (zeroE z))) m.toNat (fun E => by
    unfold BlockRep
    simp only [List.getElem?_append_right (Nat.le_refl _), Nat.sub_self, List.getElem?_cons_zero]
    refine ⟨_, P.cellsOf e, _, e, rfl, rfl, fun _ => ⟨rfl, rfl⟩, by rw [size_madeCells, htsz], by simp; omega, by unfold maxLen; omega, fun x hx => ?_, fun i x j y hx hy => ?_⟩
    · rw [(List.mem_replicate.1 hx).2]; exact hzl
    · rw [List.getElem?_replicate] at hx
      split at hx
      case isFalse => cases hx
      rename_i hin
      cases hx
      have hjl : j < P.cellsOf e := by rw [← hzl]; exact (List.getElem?_eq_some_iff.1 hy).1
      rw [hzc, List.getElem?_map, Option.map_eq_some_iff] at hy
      obtain ⟨u, hu, rfl⟩ := hy
      have hju : z.cells[j]? = some u := by simpa using hu
      have hlt : i * P.cellsOf e + j < m.toNat * ti.size := by
        rw [htsz]
        have : (i + 1) * P.cellsOf e ≤ m.toNat * P.cellsOf e := Nat.mul_le_mul_right _ (by omega)
        rw [Nat.add_mul, Nat.one_mul] at this; omega
      have hmod : (i * P.cellsOf e + j) % z.cells.size = j := by rw [hzs, Nat.mul_comm, Nat.mul_add_mod, Nat.mod_eq_of_lt hjl]
      refine ⟨u, ?_, (Array.all_eq_true_iff_forall_mem.1 hz1) u (Array.mem_of_getElem? hju), ?_⟩
      · simp only [madeCells, Array.getElem?_map, Array.getElem?_range, hlt, if_true, Option.map_some, hmod]
        rw [getElem!_pos z.cells j (by omega)]
        rw [Array.getElem?_eq_getElem (by omega)] at hju
        exact hju
      · have : CV (newG γ w.heap.size (.ow s.L.length [] m.toNat)) (s.L ++ [AObj.vec e (P.cellsOf e) 0 (List.replicate n.toNat (zeroE z))]) s.L.length ([] ++ [(i, j)]) (absV u) u := by
          unfold CV
          split
          · rename_i xs hxs; exact absurd hxs (absV_noOwn u xs)
          · exact .absV u
        exact this)
  obtain ⟨E, hI, hS⟩ := hA
  unfold Oper.wp execOp
  simp only [ho, Sem.run_bind, hex, hey, hrun, Result.andThen_ok, Sem.run_pure]
  refine hK _ _ _ ((hr.mono E hI).put o.dst (.ref _ _ _ _ _ ?_ rfl)) (by rw [St.put_L]; exact E) hS
  unfold RefOk
  simp only [List.getElem?_append_right (Nat.le_refl _), Nat.sub_self, List.getElem?_cons_zero]
  exact ⟨Nat.le_refl _, fun _ => ⟨_, rfl, by simp, .inr ⟨w.heap.size, m.toNat, rfl, by simp [newG]⟩⟩⟩

/-! ### literal rows of the call's own -/
def litElems (P : Program) (t : TypeId) (n : Nat) (parts : List (Nat × AV)) : Option (TypeId × List AV) :=
  match P.underlying t with
  | some (.slice e) =>
    if n = 0 then (if parts.isEmpty ∧ (P.info? e).isSome then some (e, []) else none)
    else match litA P t n parts with
      | some (.sl _ es) => if noOwn es = true then some (e, es) else none
      | _ => none
  | _ => none

theorem litOwn_sound {P : Program} {o : Oper} {s : St} {t e : TypeId} {n : Nat} {parts : Array (Nat × Operand)} {es : List AV} (ho : o.op = .buildSlice t n parts)
    (h : litElems P t n (parts.toList.map fun p => (p.1, s.ev p.2)) = some (e, es)) : OpS P o s ({ s with L := s.L ++ [AObj.vec e (P.cellsOf e) 0 es] }.put o.dst (.ref s.L.length [] 0 n)) := by
  intro γ a w K Q hr hK
  unfold litElems at h
  split at h
  case h_2 => cases h
  rename_i e' ht
  have fin : ∀ (cs' : Array Value), e' = e → (Instr.buildSlice t n (parts.map fun (i, x) => (i, a.eval x))).run P w = .ok (.slice (some ⟨w.heap.size, 0, none⟩) n n) (w.alloc (.cells cs' e)) → n = es.length → n ≤ maxLen →
      noOwn es = true → cs'.size = n * P.cellsOf e → (∀ x ∈ es, x.cells.length = P.cellsOf e) →
      (∀ (i : Nat) x (j : Nat) y, es[i]? = some x → x.cells[j]? = some y → ∃ u, cs'[i * P.cellsOf e + j]? = some u ∧ u.oneCell' = true ∧ RV γ s.L y u) → o.wp P a w K Q := by
    intro cs' he hrun hn hm hno hcs hl hcell
    subst he
    have hA := hr.inv.allocObj (.cells cs' e') (AObj.vec e' (P.cellsOf e') 0 es) n (fun E => by
      unfold BlockRep
      simp only [List.getElem?_append_right (Nat.le_refl _), Nat.sub_self, List.getElem?_cons_zero]
      refine ⟨_, P.cellsOf e', _, e', rfl, rfl, fun _ => ⟨rfl, rfl⟩, hcs, by omega, hm, hl, fun i x j y hx hy => ?_⟩
      obtain ⟨u, h1, h2, h3⟩ := hcell i x j y hx hy
      exact ⟨u, h1, h2, (noOwn_CV hno hx hy).2 (h3.mono E)⟩)
    obtain ⟨E, hI, hS⟩ := hA
    unfold Oper.wp execOp
    rw [ho]
    simp only [Sem.run_bind, hrun, Result.andThen_ok, Sem.run_pure]
    refine hK _ _ _ ((hr.mono E hI).put o.dst (.ref _ _ _ _ _ ?_ rfl)) (by rw [St.put_L]; exact E) hS
    unfold RefOk
    simp only [List.getElem?_append_right (Nat.le_refl _), Nat.sub_self, List.getElem?_cons_zero]
    exact ⟨Nat.le_refl _, fun _ => ⟨_, rfl, by omega, .inr ⟨w.heap.size, n, rfl, by simp [newG]⟩⟩⟩
  split at h
  · rename_i hn0
    subst hn0
    split at h
    case isFalse => cases h
    rename_i hc
    cases h
    obtain ⟨hpe, hi⟩ := hc
    have hp0 : parts = #[] := by
      have : parts.toList = [] := by simpa using hpe
      exact Array.toList_inj.1 (by simpa using this)
    subst hp0
    refine fin #[] rfl ?_ rfl (by unfold maxLen; omega) rfl (by simp) (by simp) (by simp)
    simp [Instr.buildSlice, run_underlying ht, run_sizeOf w hi, newRow, newObj, Sem.run, Instr.fill]
    congr 2
    exact Array.ext' (by simp)
  · split at h
    case h_2 => cases h
    rename_i own es' hl
    split at h
    case isFalse => cases h
    rename_i hno
    cases h
    unfold litA at hl
    split at hl
    case h_2 => cases hl
    rename_i e2 ht2
    rw [ht] at ht2; cases ht2
    split at hl
    case h_2 => cases hl
    rename_i z hz
    split at hl
    case isFalse => cases hl
    rename_i hc
    obtain ⟨hi, h24, h0, hn24, hzs, hz1⟩ := hc
    split at hl
    case h_2 => cases hl
    rename_i zs hfill
    obtain ⟨es2, hes, he2⟩ := Option.map_eq_some_iff.1 hl
    cases he2
    obtain ⟨hel, hee⟩ := mapM_upTo hes
    have hzr : (zeroValue e).run P w = .ok z w := by
      unfold zeroOf at hz
      obtain ⟨i, hi, hz⟩ := Option.bind_eq_some_iff.1 hz
      simp [zeroValue, typeInfo, hi, hz]
    have hinit : CellsR γ s.L ((upTo (n * P.cellsOf e) 0).map fun q => absV z.cells[q % z.cells.size]!) ((Array.range (n * P.cellsOf e)).map (z.cells[· % z.cells.size]!)) := by
      refine ⟨by simp [upTo_eq], fun j y hy => ?_⟩
      rw [upTo_eq] at hy
      simp only [List.getElem?_map, Option.map_eq_some_iff] at hy
      obtain ⟨q, hq, rfl⟩ := hy
      have hj : j < n * P.cellsOf e := by have := (List.getElem?_eq_some_iff.1 hq).1; simpa using this
      have hqj : q = j := by simp [List.getElem?_range, hj] at hq; omega
      subst hqj
      have hsz : 0 < P.cellsOf e := by
        rcases Nat.eq_zero_or_pos (P.cellsOf e) with h | h
        · simp [h] at h0
        · exact h
      have hlt : q % z.cells.size < z.cells.size := Nat.mod_lt _ (by omega)
      refine ⟨z.cells[q % z.cells.size]!, by simp [hj], ?_, .absV _⟩
      rw [getElem!_pos z.cells _ hlt]
      exact (Array.all_eq_true_iff_forall_mem.1 hz1) _ (Array.getElem_mem hlt)
    have hparts : ∀ (i : Nat) (p : Nat × AV) (q : Nat × Value), (parts.toList.map fun p => (p.1, s.ev p.2))[i]? = some p → ((parts.map fun (i, x) => (i, a.eval x)).toList)[i]? = some q → p.1 = q.1 ∧ RV γ s.L p.2 q.2 := by
      intro i p q hp hq
      simp only [List.getElem?_map, Option.map_eq_some_iff, Array.toList_map] at hp hq
      obtain ⟨c, hc, rfl⟩ := hp
      obtain ⟨d, hd, rfl⟩ := hq
      rw [hc] at hd; cases hd
      exact ⟨rfl, hr.ev _⟩
    obtain ⟨cs', hf, hcr⟩ := fillA_run _ _ _ _ _ hinit (by simp) hparts hfill
    have hzl := fillA_length hfill
    have hrun : (Instr.buildSlice t n (parts.map fun (i, x) => (i, a.eval x))).run P w = .ok (.slice (some ⟨w.heap.size, 0, none⟩) n n) (w.alloc (.cells cs' e)) := by
      have h24' : ¬ (16777216 < n * P.cellsOf e) := by omega
      rw [show (parts.map fun (i, x) => (i, a.eval x)).toList = parts.toList.map (fun x => (x.1, a.eval x.2)) from by simp] at hf
      simp [Instr.buildSlice, run_underlying ht, run_sizeOf w hi, h24', h0, hzr, hf, newRow, newObj, Sem.run]
    refine fin cs' rfl hrun hel.symm (by unfold maxLen; omega) hno ?_ (fun x hx => ?_) (fun i x j y hx hy => ?_)
    · rw [hcr.1, hzl]; simp [upTo_eq]
    · obtain ⟨i, hi, rfl⟩ := List.getElem_of_mem hx
      exact (elemA_spec (hee i _ (List.getElem?_eq_getElem hi))).1
    · obtain ⟨_, h2⟩ := elemA_spec (hee i x hx)
      exact hcr.2 _ y (h2 j y hy)

/-! ### stores into rows -/
def aggB : AV → Bool
  | .agg _ => true
  | _ => false
def setE (e : AV) (off n : Nat) (x : AV) : AV :=
  match e with
  | .agg cs => .agg (cs.take off ++ x.cells ++ cs.drop (off + n))
  | _ => x

def storeE (P : Program) (s : St) (t : TypeId) (p x : AV) : Option St :=
  match p with
  | .eptr id [] g i off =>
    match s.L[id]? with
    | some (.vec T sz g' es) =>
      match es[i]? with
      | some e =>
        if (g = g' ∧ (P.info? t).isSome ∧ x.cells.length = P.cellsOf t ∧ off + P.cellsOf t ≤ e.cells.length) ∧ noOwn es = true ∧ noOwn1 x = true ∧ x.solid = true ∧ (aggB e = true ∨ (aggB x = false ∧ aggB e = false ∧ P.cellsOf t = 1)) then
          some { s with L := s.L.set id (.vec T sz g (es.set i (setE e off (P.cellsOf t) x))) }
        else none
      | none => none
    | _ => none
  | _ => none

theorem setE_spec {e x : AV} {off n : Nat} (hx : x.cells.length = n) (hle : off + n ≤ e.cells.length) (h : aggB e = true ∨ (aggB x = false ∧ aggB e = false ∧ n = 1)) :
    (setE e off n x).cells = e.cells.take off ++ x.cells ++ e.cells.drop (off + n) := by
  rcases h with h | ⟨h1, h2, h3⟩
  · cases e <;> first | rfl | (simp [aggB] at h)
  · have hc : e.cells = [e] := by cases e <;> first | rfl | (simp [aggB] at h2)
    have hs : setE e off n x = x := by cases e <;> first | rfl | (simp [aggB] at h2)
    rw [hs, hc]
    rw [hc] at hle
    simp only [List.length_cons, List.length_nil] at hle
    have : off = 0 := by omega
    subst this h3
    simp

theorem storeE_sound {P : Program} {o : Oper} {s s' : St} {t : TypeId} {p x : Operand} (ho : o.op = .store t p x) (hd : o.dst = none) (h : storeE P s t (s.ev p) (s.ev x) = some s') : OpS P o s s' := by
  intro γ a w K Q hr hK
  unfold storeE at h
  split at h
  case h_2 => cases h
  rename_i id g i off hp
  split at h
  case h_2 => cases h
  rename_i T sz g' es hL
  split at h
  case h_2 => cases h
  rename_i e he
  split at h
  case isFalse => cases h
  rename_i hc
  obtain ⟨⟨rfl, hi, hlen, hle⟩, hno, hno1, hsol, hag⟩ := hc
  cases h
  obtain ⟨hj, ht⟩ := AV.solid_spec hsol
  have hpv := hr.ev p
  rw [hp] at hpv
  generalize hpe : a.eval p = pv at hpv
  cases hpv with
  | eptr _ _ _ _ _ _ hok _ =>
    unfold EptrOk at hok
    rw [hL] at hok
    obtain ⟨_, hok⟩ := hok
    obtain ⟨es', e', b, c, sz', hs, he', hes, hall, rfl, hb⟩ := hok rfl
    simp [sub] at hs; subst hs
    rw [he] at he'; cases he'
    have hcr := (hr.ev x).cellsR hj ht
    obtain ⟨arr, s3, T', harr, hTs, hasz, hlc, hcm, hrow⟩ := hr.inv.rowCell hL rfl hb
    obtain ⟨hT', rfl⟩ := hTs rfl
    obtain rfl : T = T' := hT'.symm
    have hss : sz' = s3 := by rw [← hes, hrow.1 e (List.mem_of_getElem? he)]
    subst hss
    have hil : i < es.length := (List.getElem?_eq_some_iff.1 he).1
    have hone : ∀ v ∈ (a.eval x).cells.toList, v.oneCell' = true := by
      intro v hv
      obtain ⟨j, hj', rfl⟩ := List.getElem_of_mem hv
      have hj2 : j < (a.eval x).cells.size := by simpa using hj'
      obtain ⟨u, hu, h1, _⟩ := hcr.2 j ((s.ev x).cells[j]'(by have := hcr.1; omega)) (by simp)
      rw [Array.getElem?_eq_getElem hj2] at hu
      cases hu
      simpa using h1
    have hsz2 : (a.eval x).cells.size = P.cellsOf t := by rw [hcr.1, hlen]
    have hbound : i * sz' + off + P.cellsOf t ≤ arr.size := by
      rw [hasz]
      have : (i + 1) * sz' ≤ c * sz' := Nat.mul_le_mul_right _ (by omega)
      rw [Nat.add_mul, Nat.one_mul] at this; omega
    have hst := run_storeCells_at P b (i * sz' + off) T (a.eval x).cells.toList 0 arr w harr (by simp; rw [hsz2]; omega) hone
    simp only [Nat.add_zero, Array.length_toList, hsz2] at hst
    have hrun : (Instr.storeAt t (.pointer (some ⟨b, i * sz' + off, none⟩)) (a.eval x)).run P w = .ok () (w.setRow b (arr.toList.take (i * sz' + off) ++ (a.eval x).cells.toList ++ arr.toList.drop (i * sz' + off + P.cellsOf t)).toArray) := by
      simp only [Instr.storeAt, Instr.sureAddr, Sem.run_bind, Sem.run_pure, Result.andThen_ok, storeVar, run_sizeOf w hi, hsz2, ne_eq, not_true_eq_false, if_false]
      rw [hst]
    have hse := setE_spec (e := e) (x := s.ev x) (off := off) (n := P.cellsOf t) hlen hle hag
    have hsel : (setE e off (P.cellsOf t) (s.ev x)).cells.length = sz' := by
      rw [hse, ← hes]
      simp only [List.length_append, List.length_take, List.length_drop, hlen]; omega
    have hno' : noOwn (es.set i (setE e off (P.cellsOf t) (s.ev x))) = true := by
      refine List.all_eq_true.2 fun z hz => ?_
      rcases List.mem_or_eq_of_mem_set hz with hz | rfl
      · exact List.all_eq_true.1 hno z hz
      · rw [hse]
        refine List.all_eq_true.2 fun y hy => ?_
        rcases List.mem_append.1 hy with hy | hy
        · rcases List.mem_append.1 hy with hy | hy
          · exact List.all_eq_true.1 (List.all_eq_true.1 hno e (List.mem_of_getElem? he)) y (List.mem_of_mem_take hy)
          · exact List.all_eq_true.1 hno1 y hy
        · exact List.all_eq_true.1 (List.all_eq_true.1 hno e (List.mem_of_getElem? he)) y (List.mem_of_mem_drop hy)
    have hlt := (List.getElem?_eq_some_iff.1 hL).1
    have hW := hr.inv.write (x' := AObj.vec T sz' g (es.set i (setE e off (P.cellsOf t) (s.ev x)))) (w' := w.setRow b (arr.toList.take (i * sz' + off) ++ (a.eval x).cells.toList ++ arr.toList.drop (i * sz' + off + P.cellsOf t)).toArray)
      (o' := .cells (arr.toList.take (i * sz' + off) ++ (a.eval x).cells.toList ++ arr.toList.drop (i * sz' + off + P.cellsOf t)).toArray T (0, 0)) hb hL
      ⟨rfl, rfl, .inr ⟨rfl, fun q e1 hq => by
        obtain ⟨rfl, rfl⟩ := noOwn_sub hno hq
        refine ⟨_, rfl, List.length_set .., fun k y hy => ?_⟩
        by_cases hki : i = k
        · subst hki
          rw [he] at hy; cases hy
          exact ⟨_, by rw [List.getElem?_set_self hil], by rw [hsel, hes]⟩
        · exact ⟨y, by rw [List.getElem?_set_ne hki]; exact hy, rfl⟩⟩⟩ ⟨fun _ _ h => (by cases h), fun _ _ _ h => (by cases h)⟩
      (fun k hk => setRow_other w b k _ hk) (setRow_heap w b arr _ T (0, 0) harr) (by simp [World.setRow]) rfl rfl rfl
      (fun E => by
        unfold BlockRep
        simp only [List.getElem?_set_self hlt]
        refine ⟨_, sz', _, T, rfl, rfl, fun _ => ⟨rfl, rfl⟩, ?_, by simpa using hlc, hcm, fun z hz => ?_, fun k z j y hz hy => ?_⟩
        · simp only [List.size_toArray, List.length_append, List.length_take, List.length_drop, Array.length_toList, hsz2]; omega
        · rcases List.mem_or_eq_of_mem_set hz with hz | rfl
          · exact hrow.1 z hz
          · exact hsel
        · have hjl : j < sz' := by
            have := (List.getElem?_eq_some_iff.1 hy).1
            rcases List.mem_or_eq_of_mem_set (List.mem_of_getElem? hz) with hz | rfl
            · rw [hrow.1 z hz] at this; exact this
            · rw [hsel] at this; exact this
          have hold : ∀ (z : AV), es[k]? = some z → z.cells[j]? = some y → (k * sz' + j < i * sz' + off ∨ i * sz' + off + P.cellsOf t ≤ k * sz' + j) →
              ∃ v, (arr.toList.take (i * sz' + off) ++ (a.eval x).cells.toList ++ arr.toList.drop (i * sz' + off + P.cellsOf t)).toArray[k * sz' + j]? = some v ∧ v.oneCell' = true ∧ CV γ (s.L.set id (.vec T sz' g (es.set i (setE e off (P.cellsOf t) (s.ev x))))) id ([] ++ [(k, j)]) y v := by
            intro z hz hy hor
            obtain ⟨v, a1, a2, a3⟩ := hrow.2 k z j y hz hy
            refine ⟨v, ?_, a2, a3.mono E (fun b c hb => hb) (fun b c hb => hb)⟩
            simp only [List.getElem?_toArray, List.append_assoc, List.getElem?_append, List.length_take, Array.length_toList, hsz2]
            rcases hor with hor | hor
            · rw [if_pos (by omega), List.getElem?_take, if_pos hor]
              simpa using a1
            · rw [if_neg (by omega), if_neg (by omega), List.getElem?_drop]
              rw [show i * sz' + off + P.cellsOf t + (k * sz' + j - min (i * sz' + off) arr.size - P.cellsOf t) = k * sz' + j by omega]
              simpa using a1
          by_cases hki : i = k
          · subst hki
            simp [hil] at hz
            subst hz
            rw [hse] at hy
            rw [List.append_assoc, List.getElem?_append] at hy
            have hto : (e.cells.take off).length = off := by rw [List.length_take]; omega
            rw [hto] at hy
            split at hy
            · rename_i hjo
              refine hold e he ?_ (.inl (by omega))
              rw [List.getElem?_take, if_pos hjo] at hy
              exact hy
            · rename_i hjo
              rw [List.getElem?_append] at hy
              split at hy
              · rename_i hjm
                obtain ⟨u, h1, h2, h3⟩ := hcr.2 _ y hy
                refine ⟨u, ?_, h2, ?_⟩
                · simp only [List.getElem?_toArray, List.append_assoc, List.getElem?_append, List.length_take, Array.length_toList, hsz2]
                  rw [if_neg (by omega), if_pos (by omega)]
                  rw [show i * sz' + j - min (i * sz' + off) arr.size = j - off by omega]
                  simpa using h1
                · have hny := List.all_eq_true.1 hno1 y (List.mem_of_getElem? hy)
                  unfold CV
                  split
                  · simp at hny
                  · exact h3.mono E
              · rename_i hjm
                rw [List.getElem?_drop] at hy
                rw [hlen] at hy hjm
                refine hold e he ?_ (.inr (by omega))
                rw [show off + P.cellsOf t + (j - off - P.cellsOf t) = j by omega] at hy
                exact hy
          · rw [List.getElem?_set_ne hki] at hz
            refine hold z hz hy ?_
            rcases Nat.lt_or_gt_of_ne hki with hlt | hgt
            · right
              have : (i + 1) * sz' ≤ k * sz' := Nat.mul_le_mul_right _ hlt
              rw [Nat.add_mul, Nat.one_mul] at this; omega
            · left
              have : (k + 1) * sz' ≤ i * sz' := Nat.mul_le_mul_right _ hgt
              rw [Nat.add_mul, Nat.one_mul] at this; omega)
      (fun E b2 p2 c2 o2 hne hb2 hr2 => by
        exfalso
        unfold BlockRep at hr2
        simp only [hL] at hr2
        obtain ⟨es', s, arr, T', k1, _⟩ := hr2
        obtain ⟨rfl, _⟩ := noOwn_sub hno k1
        exact hne (hr.inv.inj _ _ _ _ _ _ hb2 hb))
    obtain ⟨E, hI, hS⟩ := hW
    unfold Oper.wp execOp
    rw [ho]
    simp only [Sem.run_bind, hpe, hrun, Result.andThen_ok, Sem.run_pure]
    have := hK _ _ _ (hr.mono E hI) E hS
    show K (a.put o.dst undef) _
    rw [hd]
    exact this

/-! ### a nil slice in a variable, told as a row of the call's own -/
theorem AWp.nilB {P : Program} {c : Code} {Q : Exit → St → Prop} {s : St} (id j : Nat) (T : TypeId) (sz : Nat) {T0 : TypeId} {cs : List AV} (hL : s.L[id]? = some (.box T0 cs)) (hj : cs[j]? = some (.lit (.slice none 0 0)))
    (h : AWp P c Q ⟨s.t, s.L.set id (.box T0 (cs.set j (.ref s.L.length [] 0 0))) ++ [.vec T sz 0 []]⟩) : AWp P c Q s := by
  intro γ a w hr
  have hlt := (List.getElem?_eq_some_iff.1 hL).1
  have hE1 : Ext γ s.L γ (s.L.set id (.box T0 (cs.set j (.ref s.L.length [] 0 0)))) := .set hL ⟨rfl, by simp⟩
  have hE2 := Ext.more γ (s.L.set id (.box T0 (cs.set j (.ref s.L.length [] 0 0)))) [AObj.vec T sz 0 []]
  have hE := hE1.trans hE2
  have hno : ∀ b p c, γ b ≠ .ow s.L.length p c := fun b p c hb => by have := hr.inv.idlt hb; omega
  have hI : Inv γ (s.L.set id (.box T0 (cs.set j (.ref s.L.length [] 0 0))) ++ [.vec T sz 0 []]) w := by
    refine ⟨hr.inv.ro, fun b id1 p c hb => ?_, hr.inv.inj, fun id1 T1 cs1 hL1 => ?_, fun id1 kt vt es hL1 => ?_⟩
    · obtain ⟨o, ho, hrep⟩ := hr.inv.ow _ _ _ _ hb
      have hid := hr.inv.idlt hb
      refine ⟨o, ho, ?_⟩
      by_cases hi : id1 = id
      · subst hi
        unfold BlockRep at hrep ⊢
        simp only [hL] at hrep
        simp only [List.getElem?_append_left (show id1 < (s.L.set id1 (AObj.box T0 (cs.set j (.ref s.L.length [] 0 0)))).length by simpa using hlt), List.getElem?_set_self hlt]
        obtain ⟨h1, arr, h2, h3, h4⟩ := hrep
        refine ⟨h1, arr, h2, by simpa using h3, fun k x hx => ?_⟩
        by_cases hjk : j = k
        · subst hjk
          have hjl := (List.getElem?_eq_some_iff.1 hj).1
          simp [hjl] at hx
          subst hx
          obtain ⟨v, a1, a2, a3⟩ := h4 j _ hj
          refine ⟨v, a1, a2, ?_⟩
          cases a3
          refine .ref _ _ _ _ _ ?_ rfl
          unfold RefOk
          simp only [List.getElem?_append_right (show (s.L.set id1 (AObj.box T0 (cs.set j (.ref s.L.length [] 0 0)))).length ≤ s.L.length by simp), List.length_set, Nat.sub_self, List.getElem?_cons_zero]
          exact ⟨Nat.le_refl _, fun _ => ⟨[], rfl, Nat.le_refl _, .inl ⟨by trivial, by trivial, fun b c hb => hno b _ c hb⟩⟩⟩
        · rw [List.getElem?_set_ne hjk] at hx
          obtain ⟨v, a1, a2, a3⟩ := h4 k x hx
          exact ⟨v, a1, a2, a3.mono hE⟩
      · exact (hrep.upd hE1 (List.getElem?_set_ne (fun e => hi e.symm))).grow hE2 (by simpa using hid) (fun _ _ _ h => h) (fun _ _ _ h => h)
    · by_cases hi : id1 < s.L.length
      · rw [List.getElem?_append_left (by simpa using hi)] at hL1
        by_cases hi2 : id = id1
        · subst hi2; exact hr.inv.box _ _ _ hL
        · rw [List.getElem?_set_ne hi2] at hL1; exact hr.inv.box _ _ _ hL1
      · rw [List.getElem?_append_right (by simp; omega)] at hL1
        obtain ⟨h1, h2⟩ := List.getElem?_eq_some_iff.1 hL1
        simp at h1 h2
    · by_cases hi : id1 < s.L.length
      · rw [List.getElem?_append_left (by simpa using hi)] at hL1
        by_cases hi2 : id = id1
        · subst hi2; simp [hlt] at hL1
        · rw [List.getElem?_set_ne hi2] at hL1; exact hr.inv.map _ _ _ _ hL1
      · rw [List.getElem?_append_right (by simp; omega)] at hL1
        obtain ⟨h1, h2⟩ := List.getElem?_eq_some_iff.1 hL1
        simp at h1 h2
  have hr' := hr.mono hE hI
  refine wp_mono (h γ a w hr') ?_
  rintro e a' w' ⟨γ', s', h1, h2, h3, h4⟩
  exact ⟨γ', s', h1, hE.trans h2, h3, h4⟩

end Go.Proofs.Ytolfjeedgedblaa.K
