/-
  Texts joined in one: K22, K23, I1, H11, I2, H12.
-/
import Derived.Test.YtphmkhaboghagaaMSameHyC
import Derived.Maps.Keyed
import Derived.WideKeyPair
import Derived.ChangeMaps5
/-
  A logic of values for Go's functions (part 22): maps of the call's own, with plain keys and plain elements.
-/
namespace Go.Proofs.Ytphmkhaboghagaa.K
set_option linter.unusedVariables false
set_option linter.unusedSimpArgs false
open Go Go.RowKit
open Go.Maps (Keyed)
open Go.ChangeMaps (setBlock heap_setBlock_same heap_setBlock_other)

/-- Values that are told by themselves. -/
def plain1 : AV → Bool
  | .int _ _ => true
  | .bool _ => true
  | .str _ => true
  | _ => false
def val1 : AV → Value
  | .int k n => .int k n
  | .bool b => .bool b
  | .str s => .string s
  | _ => undef
def plainK : AV → Bool
  | .agg cs => cs.all plain1
  | x => plain1 x
def valK : AV → Value
  | .agg cs => .agg (cs.map val1).toArray
  | x => val1 x
theorem val1_of {γ : Nat → Gh} {L : List AObj} {x : AV} {v : Value} (h : RV γ L x v) (hp : plain1 x = true) : v = val1 x := by
  cases h <;> first | rfl | (simp [plain1] at hp; done)
theorem rv_val1 {γ : Nat → Gh} {L : List AObj} {x : AV} (hp : plain1 x = true) : RV γ L x (val1 x) := by
  cases x <;> first | exact .int _ _ | exact .bool _ | exact .str _ | (simp [plain1] at hp; done)
theorem one_val1 {x : AV} (hp : plain1 x = true) : (val1 x).oneCell' = true := by
  cases x <;> first | rfl | (simp [plain1] at hp; done)
theorem valK_of {γ : Nat → Gh} {L : List AObj} {x : AV} {v : Value} (h : RV γ L x v) (hp : plainK x = true) : v = valK x := by
  cases h with
  | agg cs vs hn h1 h =>
    simp only [plainK, List.all_eq_true] at hp
    simp only [valK, Value.agg.injEq]
    apply Array.ext
    · simp [hn]
    · intro i h1 h2
      have hi : i < cs.length := by omega
      have := val1_of (h i cs[i] (by simp [hi])) (hp _ (List.getElem_mem _))
      simp only [Array.getD, h1, dite_true] at this
      simpa using this
  | int k n => rfl
  | bool b => rfl
  | str s => rfl
  | _ => simp [plainK, plain1] at hp
theorem rv_valK {γ : Nat → Gh} {L : List AObj} {x : AV} (hp : plainK x = true) : RV γ L x (valK x) := by
  cases x with
  | agg cs =>
    simp only [plainK, List.all_eq_true] at hp
    refine .agg _ _ (by simp) (fun v hv => ?_) (fun i x hx => ?_)
    · simp only [List.mem_toArray, List.mem_map] at hv
      obtain ⟨y, hy, rfl⟩ := hv
      exact one_val1 (hp y hy)
    · have hi := (List.getElem?_eq_some_iff.1 hx).1
      have e : (cs.map val1).toArray.getD i undef = val1 x := by
        rw [Array.getD_eq_getD_getElem?]; simp [hx]
      rw [e]
      exact rv_val1 (hp _ (List.mem_of_getElem? hx))
  | int k n => exact .int _ _
  | bool b => exact .bool _
  | str s => exact .str _
  | _ => simp [plainK, plain1] at hp

section
variable {κ ν : Type}
def entE (ek : κ → AV) (ev : ν → AV) (p : κ × ν) : AV × AV := (ek p.1, ev p.2)
def mapO (kt vt : TypeId) (ek : κ → AV) (ev : ν → AV) (m : List (κ × ν)) : AObj := .map kt vt (m.map (entE ek ev))

/-- How keys and elements of a map's type are told; 'z' is the element type's zero value. -/
structure MapT (P : Program) (kt vt : TypeId) (ek : κ → AV) (ev : ν → AV) (z : ν) : Prop where
  keyed : Keyed P kt
  pk : ∀ k, plainK (ek k) = true
  pv : ∀ v, plainK (ev v) = true
  one : ∀ v, (valK (ev v)).oneCell' = true
  inj : ∀ a b, valK (ek a) = valK (ek b) → a = b
  zero : zeroOf P vt = some (valK (ev z))

structure MapOk (P : Program) (kt : TypeId) (ek : κ → AV) (m : List (κ × ν)) : Prop where
  nd : (m.map Prod.fst).Nodup
  wf : ∀ k ∈ m.map Prod.fst, (keyOf P kt (valK (ek k))).isSome = true
theorem MapOk.nil {P : Program} {kt : TypeId} {ek : κ → AV} : MapOk P kt ek ([] : List (κ × ν)) := ⟨by simp, by simp⟩
variable {P : Program} {kt vt : TypeId} {ek : κ → AV} {ev : ν → AV} {z : ν}
theorem rep_ent (B : MapT P kt vt ek ev z) {m : List (κ × ν)} {arr : Array MapEntry} {clock : Nat} (h : MapRep (m.map (entE ek ev)) arr clock) (i : Nat) (e : MapEntry) (he : arr.toList[i]? = some e) :
    ∃ p, m[i]? = some p ∧ e.key = valK (ek p.1) ∧ e.val = valK (ev p.2) := by
  obtain ⟨h1, h2, h3⟩ := h
  have hi : i < arr.size := by simpa using (List.getElem?_eq_some_iff.1 he).1
  simp only [List.length_map] at h1
  have hm : m[i]? = some m[i] := List.getElem?_eq_getElem (by omega)
  obtain ⟨x, hx, k1, k2⟩ := h2 i (entE ek ev m[i]) (by simp [hm])
  rw [← Array.getElem?_toList, he] at hx
  cases hx
  exact ⟨m[i], hm, valK_of k1 (B.pk _), valK_of k2 (B.pv _)⟩

theorem find_run (B : MapT P kt vt ek ev z) {m : List (κ × ν)} {arr : Array MapEntry} {clock : Nat} (h : MapRep (m.map (entE ek ev)) arr clock) (M : MapOk P kt ek m) {x : κ} (hx : (keyOf P kt (valK (ek x))).isSome = true) (w : World) :
    ((Instr.findKey kt (valK (ek x)) arr.toList).run P w = .ok none w ∧ x ∉ m.map Prod.fst) ∨
    ∃ (j : Nat) (p : κ × ν) (e : MapEntry), (Instr.findKey kt (valK (ek x)) arr.toList).run P w = .ok (some (j, e.val)) w ∧ m[j]? = some p ∧ arr.toList[j]? = some e ∧ p.1 = x ∧ e.val = valK (ev p.2) ∧ e.key = valK (ek x) := by
  obtain ⟨lx, hlx⟩ := Option.isSome_iff_exists.1 hx
  have hall : ∀ e ∈ arr.toList, ∃ l, keyOf P kt e.key = some l := by
    intro e he
    obtain ⟨i, hi, rfl⟩ := List.getElem_of_mem he
    obtain ⟨p, hp, k1, _⟩ := rep_ent B h i _ (List.getElem?_eq_getElem hi)
    rw [k1]
    exact Option.isSome_iff_exists.1 (M.wf p.1 (List.mem_map.2 ⟨p, List.mem_of_getElem? hp, rfl⟩))
  rcases B.keyed.find w hlx arr.toList hall with ⟨h1, h2⟩ | ⟨j, e, h1, h2, h3⟩
  · refine .inl ⟨h1, fun hm => ?_⟩
    obtain ⟨p, hp, hpx⟩ := List.mem_map.1 hm
    obtain ⟨i, hi, hpi⟩ := List.getElem_of_mem hp
    have hia : i < arr.toList.length := by have := h.1; simp at this ⊢; omega
    obtain ⟨q, hq, k1, _⟩ := rep_ent B h i _ (List.getElem?_eq_getElem hia)
    rw [List.getElem?_eq_getElem hi] at hq
    cases hq
    exact h2 _ (List.getElem_mem hia) (by rw [k1, hpi, hpx])
  · obtain ⟨p, hp, k1, k2⟩ := rep_ent B h j e h2
    exact .inr ⟨j, p, e, h1, hp, h2, B.inj _ _ (by rw [← k1, h3]), k2, h3⟩

end

section
variable {κ ν : Type} [DecidableEq κ]
/-- What is known of a key. -/
def getM : List (κ × ν) → κ → Option ν
  | [], _ => none
  | (k, v) :: r, x => if k = x then some v else getM r x
/-- An element laid under a key. -/
def putM : List (κ × ν) → κ → ν → List (κ × ν)
  | [], x, y => [(x, y)]
  | (k, v) :: r, x, y => if k = x then (k, y) :: r else (k, v) :: putM r x y
theorem getM_putM (m : List (κ × ν)) (x : κ) (y : ν) (z : κ) : getM (putM m x y) z = if x = z then some y else getM m z := by
  induction m with
  | nil => simp [putM, getM]
  | cons p r ih =>
    obtain ⟨k, v⟩ := p
    simp only [putM]
    by_cases h : k = x
    · subst h
      rw [if_pos rfl]
      simp only [getM]
      by_cases hz : k = z
      · simp [hz]
      · simp [hz]
    · rw [if_neg h]
      simp only [getM, ih]
      by_cases hz : k = z
      · subst hz
        have : x ≠ k := fun e => h e.symm
        simp [this]
      · simp [hz]
theorem getM_none {m : List (κ × ν)} {x : κ} (h : x ∉ m.map Prod.fst) : getM m x = none := by
  induction m with
  | nil => rfl
  | cons p r ih =>
    simp only [List.map_cons, List.mem_cons, not_or] at h
    have hne : ¬ p.1 = x := fun e => h.1 e.symm
    simp only [getM, if_neg hne]
    exact ih h.2
theorem getM_at {m : List (κ × ν)} (hn : (m.map Prod.fst).Nodup) {j : Nat} {p : κ × ν} (h : m[j]? = some p) : getM m p.1 = some p.2 := by
  induction m generalizing j with
  | nil => simp at h
  | cons q r ih =>
    simp only [List.map_cons, List.nodup_cons] at hn
    cases j with
    | zero => simp at h; subst h; simp [getM]
    | succ j =>
      simp at h
      have hm : p.1 ∈ r.map Prod.fst := List.mem_map.2 ⟨p, List.mem_of_getElem? h, rfl⟩
      simp only [getM]
      rw [if_neg (fun e => hn.1 (by rw [e]; exact hm))]
      exact ih hn.2 h
theorem putM_new {m : List (κ × ν)} {x : κ} {y : ν} (h : x ∉ m.map Prod.fst) : putM m x y = m ++ [(x, y)] := by
  induction m with
  | nil => rfl
  | cons p r ih =>
    simp only [List.map_cons, List.mem_cons, not_or] at h
    have hne : ¬ p.1 = x := fun e => h.1 e.symm
    simp only [putM, if_neg hne, ih h.2, List.cons_append]
theorem putM_at {m : List (κ × ν)} (hn : (m.map Prod.fst).Nodup) {j : Nat} {p : κ × ν} {y : ν} (h : m[j]? = some p) : putM m p.1 y = m.set j (p.1, y) := by
  induction m generalizing j with
  | nil => simp at h
  | cons q r ih =>
    simp only [List.map_cons, List.nodup_cons] at hn
    cases j with
    | zero => simp at h; subst h; simp [putM]
    | succ j =>
      simp at h
      have hm : p.1 ∈ r.map Prod.fst := List.mem_map.2 ⟨p, List.mem_of_getElem? h, rfl⟩
      simp only [putM]
      rw [if_neg (fun e => hn.1 (by rw [e]; exact hm)), ih hn.2 h, List.set_cons_succ]
theorem putM_keys (m : List (κ × ν)) (x : κ) (y : ν) (z : κ) : z ∈ (putM m x y).map Prod.fst ↔ z = x ∨ z ∈ m.map Prod.fst := by
  induction m with
  | nil => simp [putM]
  | cons p r ih =>
    simp only [putM]
    by_cases h : p.1 = x
    · rw [if_pos h]; simp [h]
    · rw [if_neg h]
      simp only [List.map_cons, List.mem_cons, ih]
      constructor <;> rintro (h | h | h) <;> simp [h]
theorem putM_nodup {m : List (κ × ν)} (hn : (m.map Prod.fst).Nodup) (x : κ) (y : ν) : ((putM m x y).map Prod.fst).Nodup := by
  induction m with
  | nil => simp [putM]
  | cons p r ih =>
    simp only [List.map_cons, List.nodup_cons] at hn
    simp only [putM]
    by_cases h : p.1 = x
    · rw [if_pos h]; simpa using hn
    · rw [if_neg h]
      simp only [List.map_cons, List.nodup_cons]
      refine ⟨fun hm => ?_, ih hn.2⟩
      rcases (putM_keys r x y p.1).1 hm with e | e
      · exact h e
      · exact hn.1 e

theorem MapOk.put {P : Program} {kt : TypeId} {ek : κ → AV} {m : List (κ × ν)} (h : MapOk P kt ek m) {x : κ} (hx : (keyOf P kt (valK (ek x))).isSome = true) (y : ν) : MapOk P kt ek (putM m x y) :=
  ⟨putM_nodup h.nd x y, fun k hk => by
    rcases (putM_keys m x y k).1 hk with rfl | e
    · exact hx
    · exact h.wf k e⟩

variable {P : Program} {kt vt : TypeId} {ek : κ → AV} {ev : ν → AV} {z : ν}

def lookR (ev : ν → AV) (z : ν) (ok : Bool) (r : Option ν) : AV := if ok then .tup [ev (r.getD z), .bool r.isSome] else ev (r.getD z)

theorem zero_run {T : TypeId} {v : Value} (hz : zeroOf P T = some v) (w : World) : (zeroValue T).run P w = .ok v w := by
  unfold zeroOf at hz
  obtain ⟨i, hi, hz⟩ := Option.bind_eq_some_iff.1 hz
  simp [zeroValue, typeInfo, hi, hz]

theorem look_run (B : MapT P kt vt ek ev z) {m : List (κ × ν)} {arr : Array MapEntry} {clock : Nat} (h : MapRep (m.map (entE ek ev)) arr clock) (M : MapOk P kt ek m) {x : κ} (hx : (keyOf P kt (valK (ek x))).isSome = true)
    {w : World} {b : Nat} (hb : w.heap[b]? = some (.map arr clock)) {t : TypeId} (ht : P.underlying t = some (.map kt vt)) (ok : Bool) :
    ∃ v, (Instr.lookup t (.map (some b)) (valK (ek x)) ok).run P w = .ok v w ∧ ∀ γ L, RV γ L (lookR ev z ok (getM m x)) v := by
  obtain ⟨lx, hlx⟩ := Option.isSome_iff_exists.1 hx
  have two : ∀ (y : ν) (f : Bool) γ L, RV γ L (.tup [ev y, .bool f]) (.tuple #[valK (ev y), .bool f]) := fun y f γ L =>
    .tup _ _ rfl (fun i x hx => by
      match i, hx with
      | 0, hx => simp at hx; subst hx; exact rv_valK (B.pv _)
      | 1, hx => simp at hx; subst hx; exact .bool _
      | i + 2, hx => simp at hx)
  rcases find_run B h M hx w with ⟨h1, h2⟩ | ⟨j, p, e, h1, h2, h3, rfl, h4, h5⟩
  · rw [getM_none h2]
    refine ⟨if ok then .tuple #[valK (ev z), .bool false] else valK (ev z), by simp [Instr.lookup, run_underlying ht, MapKept.run_getObj_map hb, B.keyed.check w _ hlx, h1, zero_run B.zero, Result.andThen], fun γ L => ?_⟩
    cases ok
    · exact rv_valK (B.pv _)
    · exact two z false γ L
  · rw [getM_at M.nd h2]
    refine ⟨if ok then .tuple #[valK (ev p.2), .bool true] else valK (ev p.2), by simp [Instr.lookup, run_underlying ht, MapKept.run_getObj_map hb, B.keyed.check w _ hlx, h1, h4, Result.andThen], fun γ L => ?_⟩
    cases ok
    · exact rv_valK (B.pv _)
    · exact two p.2 true γ L

theorem put_run (B : MapT P kt vt ek ev z) {m : List (κ × ν)} {arr : Array MapEntry} {clock : Nat} (h : MapRep (m.map (entE ek ev)) arr clock) (M : MapOk P kt ek m) {x : κ} (hx : (keyOf P kt (valK (ek x))).isSome = true)
    {w : World} {b : Nat} (hb : w.heap[b]? = some (.map arr clock)) {t : TypeId} (ht : P.underlying t = some (.map kt vt)) (y : ν) :
    ∃ arr' clock', (Instr.mapUpdate t (.map (some b)) (valK (ek x)) (valK (ev y))).run P w = .ok () (setBlock w b (.map arr' clock')) ∧ MapRep ((putM m x y).map (entE ek ev)) arr' clock' := by
  obtain ⟨lx, hlx⟩ := Option.isSome_iff_exists.1 hx
  obtain ⟨r1, r2, r3⟩ := h
  simp only [List.length_map] at r1
  rcases find_run B ⟨by simpa using r1, r2, r3⟩ M hx w with ⟨h1, h2⟩ | ⟨j, p, e, h1, h2, h3, rfl, h4, h5⟩
  · refine ⟨arr.push ⟨valK (ek x), valK (ev y), clock⟩, clock + 1, by simp [Instr.mapUpdate, run_underlying ht, MapKept.run_getObj_map hb, B.keyed.check w _ hlx, h1, MapKept.run_setObj_map _ hb, Result.andThen, setBlock], ?_⟩
    rw [putM_new h2]
    refine ⟨by simp [r1], fun i e he => ?_, fun q hq => ?_⟩
    · rw [List.map_append] at he
      by_cases hi : i < m.length
      · rw [List.getElem?_append_left (by simpa using hi)] at he
        obtain ⟨q, hq, k1, k2⟩ := r2 i e he
        exact ⟨q, by rw [Array.getElem?_push_lt (by omega)]; rw [← hq, Array.getElem?_eq_getElem (by omega)], k1, k2⟩
      · have hi2 : i = m.length := by
          have := (List.getElem?_eq_some_iff.1 he).1
          simp at this; omega
        subst hi2
        rw [List.getElem?_append_right (by simp)] at he
        simp at he
        subst he
        exact ⟨⟨valK (ek x), valK (ev y), clock⟩, by rw [← r1]; simp, rv_valK (B.pk x), rv_valK (B.pv y)⟩
    · rcases Array.mem_push.1 hq with hq | rfl
      · have := r3 q hq; omega
      · exact Nat.lt_succ_self _
  · have hj : arr[j]? = some e := by rw [← Array.getElem?_toList]; exact h3
    have hjl := (Array.getElem?_eq_some_iff.1 hj).1
    have hstay := B.keyed.stays w hlx
    refine ⟨arr.modify j (fun e' => { e' with key := valK (ek p.1), val := valK (ev y) }), clock, by simp [Instr.mapUpdate, run_underlying ht, MapKept.run_getObj_map hb, B.keyed.check w _ hlx, h1, hj, h5, hstay, MapKept.run_setObj_map _ hb, Result.andThen, setBlock], ?_⟩
    rw [putM_at M.nd h2]
    refine ⟨by simp [r1], fun i q hq => ?_, fun q hq => ?_⟩
    · rw [List.map_set] at hq
      by_cases hi : j = i
      · subst hi
        rw [List.getElem?_set_self (by simp; omega)] at hq
        cases hq
        refine ⟨{ e with key := valK (ek p.1), val := valK (ev y) }, ?_, rv_valK (B.pk _), rv_valK (B.pv _)⟩
        rw [Array.getElem?_modify, hj]; simp
      · rw [List.getElem?_set_ne hi] at hq
        obtain ⟨q', hq', k1, k2⟩ := r2 i q hq
        refine ⟨q', ?_, k1, k2⟩
        rw [Array.getElem?_modify, hq', if_neg hi]
    · obtain ⟨i, hi, rfl⟩ := Array.getElem_of_mem hq
      simp only [Array.size_modify] at hi
      rw [Array.getElem_modify]
      have := r3 _ (Array.getElem_mem (xs := arr) (i := i) hi)
      split <;> exact this

/-- Looking a key up in a map of the call's own. -/
theorem look_sound (B : MapT P kt vt ek ev z) {o : Oper} {s : St} {t : TypeId} {xm xi : Operand} {ok : Bool} {id : Nat} {m : List (κ × ν)} {x : κ} (ho : o.op = .lookup t xm xi ok) (hm : s.ev xm = .map id) (hi : s.ev xi = ek x)
    (hL : s.L[id]? = some (mapO kt vt ek ev m)) (ht : P.underlying t = some (.map kt vt)) (M : MapOk P kt ek m) (hx : (keyOf P kt (valK (ek x))).isSome = true) : OpS P o s (s.put o.dst (lookR ev z ok (getM m x))) := by
  refine OpS.pure fun γ a w hr => ?_
  have h1 := hr.ev xm
  have h2 := hr.ev xi
  rw [hm] at h1
  rw [hi] at h2
  generalize hvm : a.eval xm = vm at h1
  have e2 := valK_of h2 (B.pk x)
  cases h1 with
  | map _ b c kt' vt' es hL' hb =>
    obtain ⟨ob, hob, hrep⟩ := hr.inv.ow _ _ _ _ hb
    unfold BlockRep at hrep
    rw [hL] at hrep
    obtain ⟨_, arr, clock, rfl, hrep⟩ := hrep
    obtain ⟨v, hv, hrv⟩ := look_run B hrep M hx hob ht ok
    exact ⟨v, by simp [execOp, ho, hvm, e2, hv], hrv _ _⟩

/-- Laying an element under a key. -/
theorem put_sound (B : MapT P kt vt ek ev z) {o : Oper} {s : St} {t : TypeId} {xm xi xv : Operand} {id : Nat} {m : List (κ × ν)} {x : κ} {y : ν} (ho : o.op = .mapUpdate t xm xi xv) (hm : s.ev xm = .map id) (hi : s.ev xi = ek x) (hv : s.ev xv = ev y)
    (hL : s.L[id]? = some (mapO kt vt ek ev m)) (ht : P.underlying t = some (.map kt vt)) (M : MapOk P kt ek m) (hx : (keyOf P kt (valK (ek x))).isSome = true) : OpS P o s ({ s with L := s.L.set id (mapO kt vt ek ev (putM m x y)) }.put o.dst .junk) := by
  intro γ a w K Q hr hK
  have h1 := hr.ev xm
  have h2 := hr.ev xi
  have h3 := hr.ev xv
  rw [hm] at h1
  rw [hi] at h2
  rw [hv] at h3
  generalize hvm : a.eval xm = vm at h1
  have e2 := valK_of h2 (B.pk x)
  have e3 := valK_of h3 (B.pv y)
  cases h1 with
  | map _ b c kt' vt' es hL' hb =>
    obtain ⟨ob, hob, hrep⟩ := hr.inv.ow _ _ _ _ hb
    unfold BlockRep at hrep
    rw [hL] at hrep
    obtain ⟨_, arr, clock, rfl, hrep⟩ := hrep
    obtain ⟨arr', clock', hrun, hrep'⟩ := put_run B hrep M hx hob ht y
    have hlt := (List.getElem?_eq_some_iff.1 hL).1
    obtain ⟨E, hI, hS⟩ := hr.inv.write (x' := mapO kt vt ek ev (putM m x y)) (w' := setBlock w b (.map arr' clock')) (o' := .map arr' clock') hb hL ⟨rfl, rfl⟩
      ⟨fun _ _ h => (by cases h), fun _ _ _ _ => ⟨_, _, _, rfl⟩⟩ (fun k hk => heap_setBlock_other hob _ hk) (heap_setBlock_same hob _) (by simp [setBlock]) rfl rfl rfl
      (fun E => by
        unfold BlockRep
        rw [List.getElem?_set_self hlt]
        exact ⟨rfl, _, _, rfl, hrep'⟩)
      (fun E b2 p2 c2 o2 hne hb2 hr2 => by
        exfalso
        unfold BlockRep at hr2
        simp only [hL, mapO] at hr2
        obtain ⟨rfl, _⟩ := hr2
        exact hne (hr.inv.inj _ _ _ _ _ _ hb2 hb))
    unfold Oper.wp execOp
    rw [ho]
    simp only [hvm, e2, e3, Sem.run_bind, hrun, Result.andThen_ok, Sem.run_pure]
    refine hK _ _ _ ((hr.mono E hI).put o.dst (.junk _)) (by rw [St.put_L]; exact E) hS

/-- A new map. -/
theorem make_sound_map {o : Oper} {s : St} {t : TypeId} (kt vt : TypeId) (ho : o.op = .makeMap t none) : OpS P o s ({ s with L := s.L ++ [AObj.map kt vt []] }.put o.dst (.map s.L.length)) := by
  intro γ a w K Q hr hK
  have hA := hr.inv.allocObj (.map #[] 0) (AObj.map kt vt []) 0 (fun E => by
    unfold BlockRep
    simp only [List.getElem?_append_right (Nat.le_refl _), Nat.sub_self, List.getElem?_cons_zero]
    exact ⟨trivial, _, _, rfl, by simp, by simp, by simp⟩)
  obtain ⟨E, hI, hS⟩ := hA
  unfold Oper.wp execOp
  rw [ho]
  have hrun : (Instr.makeMap t none).run P w = .ok (.map (some w.heap.size)) (w.alloc (.map #[] 0)) := rfl
  simp only [Option.map_none, Sem.run_bind, hrun, Result.andThen_ok, Sem.run_pure]
  refine hK _ _ _ ((hr.mono E hI).put o.dst (.map _ w.heap.size 0 kt vt [] ?_ ?_)) (by rw [St.put_L]; exact E) hS
  · simp
  · simp [newG]

theorem RunL.look (B : MapT P kt vt ek ev z) {k : Oper → Knd} {ops : Array Oper} {K : St → Prop} {o : Oper} {rest : List Oper} {s : St} {t : TypeId} {xm xi : Operand} {ok : Bool} {id : Nat} (m : List (κ × ν)) (x : κ)
    (hg : guardA ops s o = some true) (ho : o.op = .lookup t xm xi ok) (hm : s.ev xm = .map id) (hi : s.ev xi = ek x)
    (hL : s.L[id]? = some (mapO kt vt ek ev m)) (ht : P.underlying t = some (.map kt vt)) (M : MapOk P kt ek m) (hx : (keyOf P kt (valK (ek x))).isSome = true) (hkd : Knd.le .C (k o) = true)
    (hk : R P k ops rest (s.put o.dst (lookR ev z ok (getM m x))) K) : RunL P k ops (o :: rest) s K := by
  refine .op ⟨.C, lookR ev z ok (getM m x), s.L⟩ hkd ⟨⟨fun h _ => ⟨[], by simp⟩, fun h => (nomatch h)⟩, fun s1 ha hL1 => ⟨by rw [agree_guard ha]; exact hg, ?_⟩⟩ (R.sound hk)
  have hL1 : s1.L = s.L := hL1
  have e1 : s1.ev xm = .map id := by rw [agree_ev ha (by rw [ho]; simp [Op.operands]), hm]
  have e2 : s1.ev xi = ek x := by rw [agree_ev ha (by rw [ho]; simp [Op.operands]), hi]
  have := look_sound (P := P) (s := s1) B ho e1 e2 (by rw [hL1]; exact hL) ht M hx
  simp only [Sd.app]
  rw [← hL1]
  exact this

theorem RunL.put (B : MapT P kt vt ek ev z) {k : Oper → Knd} {ops : Array Oper} {K : St → Prop} {o : Oper} {rest : List Oper} {s : St} {t : TypeId} {xm xi xv : Operand} {id : Nat} (m : List (κ × ν)) (x : κ) (y : ν)
    (hg : guardA ops s o = some true) (ho : o.op = .mapUpdate t xm xi xv) (hm : s.ev xm = .map id) (hi : s.ev xi = ek x) (hv : s.ev xv = ev y)
    (hL : s.L[id]? = some (mapO kt vt ek ev m)) (ht : P.underlying t = some (.map kt vt)) (M : MapOk P kt ek m) (hx : (keyOf P kt (valK (ek x))).isSome = true) (hkd : Knd.le .C (k o) = true)
    (hk : R P k ops rest ({ s with L := s.L.set id (mapO kt vt ek ev (putM m x y)) }.put o.dst .junk) K) : RunL P k ops (o :: rest) s K := by
  have hal : isAlloc k o = false := by unfold isAlloc; rw [ho]
  refine .op ⟨.C, .junk, s.L.set id (mapO kt vt ek ev (putM m x y))⟩ hkd ⟨⟨fun h _ => (by rw [hal] at h; cases h), fun h => (nomatch h)⟩, fun s1 ha hL1 => ⟨by rw [agree_guard ha]; exact hg, ?_⟩⟩ (R.sound hk)
  have hL1 : s1.L = s.L := hL1
  have e1 : s1.ev xm = .map id := by rw [agree_ev ha (by rw [ho]; simp [Op.operands]), hm]
  have e2 : s1.ev xi = ek x := by rw [agree_ev ha (by rw [ho]; simp [Op.operands]), hi]
  have e3 : s1.ev xv = ev y := by rw [agree_ev ha (by rw [ho]; simp [Op.operands]), hv]
  have := put_sound (P := P) (s := s1) B ho e1 e2 e3 (by rw [hL1]; exact hL) ht M hx
  simp only [Sd.app]
  rw [← hL1]
  exact this

theorem RunL.newMap {k : Oper → Knd} {ops : Array Oper} {K : St → Prop} {o : Oper} {rest : List Oper} {s : St} {t : TypeId} (kt vt : TypeId)
    (hg : guardA ops s o = some true) (ho : o.op = .makeMap t none) (hkd : Knd.le .C (k o) = true)
    (hk : R P k ops rest ({ s with L := s.L ++ [AObj.map kt vt []] }.put o.dst (.map s.L.length)) K) : RunL P k ops (o :: rest) s K := by
  refine .op ⟨.C, .map s.L.length, s.L ++ [AObj.map kt vt []]⟩ hkd ⟨⟨fun h _ => ⟨_, rfl⟩, fun h => (nomatch h)⟩, fun s1 ha hL1 => ⟨by rw [agree_guard ha]; exact hg, ?_⟩⟩ (R.sound hk)
  have hL1 : s1.L = s.L := hL1
  have := make_sound_map (P := P) (s := s1) kt vt ho
  simp only [Sd.app]
  rw [← hL1]
  exact this
end

/-! ### keys that are pairs of whole numbers, or whole numbers -/
def ekP (p : Int × Int) : AV := .agg [.int .i64 p.1, .int .i64 p.2]
def ekI (q : IntKind) (n : Int) : AV := .int q n
theorem ekP_inj (a b : Int × Int) (h : valK (ekP a) = valK (ekP b)) : a = b := by
  obtain ⟨a1, a2⟩ := a
  obtain ⟨b1, b2⟩ := b
  simp [valK, ekP, val1] at h
  exact Prod.ext h.1 h.2
theorem ekI_inj (q : IntKind) (a b : Int) (h : valK (ekI q a) = valK (ekI q b)) : a = b := by
  simpa [valK, ekI, val1] using h
theorem mapT_pair {P : Program} {kt vt e : TypeId} (A : WideMaps.ArrKey P kt e 2) {ν : Type} {ev : ν → AV} {z : ν} (hv : ∀ v, plainK (ev v) = true) (ho : ∀ v, (valK (ev v)).oneCell' = true) (hz : zeroOf P vt = some (valK (ev z))) : MapT P kt vt ekP ev z :=
  ⟨Keyed.of_law A.law, fun _ => rfl, hv, ho, ekP_inj, hz⟩
theorem mapT_int {P : Program} {kt vt : TypeId} {q : IntKind} (hk : P.underlying kt = some (.int q)) {ν : Type} {ev : ν → AV} {z : ν} (hv : ∀ v, plainK (ev v) = true) (ho : ∀ v, (valK (ev v)).oneCell' = true) (hz : zeroOf P vt = some (valK (ev z))) : MapT P kt vt (ekI q) ev z :=
  ⟨Maps.int_keyed hk, fun _ => rfl, hv, ho, ekI_inj q, hz⟩
end Go.Proofs.Ytphmkhaboghagaa.K
/-
  A logic of values for Go's functions (part 23): a nil slice in a variable, told as a slice without elements.
-/
namespace Go.Proofs.Ytphmkhaboghagaa.K
set_option linter.unusedVariables false
set_option linter.unusedSimpArgs false
open Go Go.RowKit

theorem AWp.nilS {P : Program} {c : Code} {Q : Exit → St → Prop} {s : St} (id j : Nat) {T0 : TypeId} {cs : List AV} (hL : s.L[id]? = some (.box T0 cs)) (hj : cs[j]? = some (.lit (.slice none 0 0)))
    (h : AWp P c Q ⟨s.t, s.L.set id (.box T0 (cs.set j (.sl false [])))⟩) : AWp P c Q s := by
  intro γ a w hr
  have hlt := (List.getElem?_eq_some_iff.1 hL).1
  have hE : Ext γ s.L γ (s.L.set id (.box T0 (cs.set j (.sl false [])))) := .set hL ⟨rfl, by simp⟩
  have hI : Inv γ (s.L.set id (.box T0 (cs.set j (.sl false [])))) w := by
    refine ⟨hr.inv.ro, fun b id1 p c hb => ?_, hr.inv.inj, fun id1 T1 cs1 hL1 => ?_, fun id1 kt vt es hL1 => ?_⟩
    · obtain ⟨o, ho, hrep⟩ := hr.inv.ow _ _ _ _ hb
      refine ⟨o, ho, ?_⟩
      by_cases hi : id1 = id
      · subst hi
        unfold BlockRep at hrep ⊢
        simp only [hL] at hrep
        simp only [List.getElem?_set_self hlt]
        obtain ⟨h1, arr, h2, h3, h4⟩ := hrep
        refine ⟨h1, arr, h2, by simpa using h3, fun k x hx => ?_⟩
        by_cases hjk : j = k
        · subst hjk
          have hjl := (List.getElem?_eq_some_iff.1 hj).1
          simp [hjl] at hx
          subst hx
          obtain ⟨v, a1, a2, a3⟩ := h4 j _ hj
          refine ⟨v, a1, a2, ?_⟩
          cases a3
          exact .sl _ _ _ 0 0 0 (fun _ _ => undef) rfl (Nat.le_refl _) (by simp) (by simp) (by simp) (by simp)
        · rw [List.getElem?_set_ne hjk] at hx
          obtain ⟨v, a1, a2, a3⟩ := h4 k x hx
          exact ⟨v, a1, a2, a3.mono hE⟩
      · exact hrep.upd hE (List.getElem?_set_ne (fun e => hi e.symm))
    · by_cases hi2 : id = id1
      · subst hi2; exact hr.inv.box _ _ _ hL
      · rw [List.getElem?_set_ne hi2] at hL1; exact hr.inv.box _ _ _ hL1
    · by_cases hi2 : id = id1
      · subst hi2; simp [hlt] at hL1
      · rw [List.getElem?_set_ne hi2] at hL1; exact hr.inv.map _ _ _ _ hL1
  have hr' := hr.mono hE hI
  refine wp_mono (h γ a w hr') ?_
  rintro e a' w' ⟨γ', s', h1, h2, h3, h4⟩
  exact ⟨γ', s', h1, hE.trans h2, h3, h4⟩

theorem RunL.callp_ex {P : Program} {k : Oper → Knd} {ops : Array Oper} {K : AV → List AObj → St → Prop} {Z : AV → List AObj → Prop} {o : Oper} {rest : List Oper} {s : St} {f : FuncId} {args : Array Operand} {ats : Array TypeId} {r : AV} {xs : List AV}
    (hg : guardA ops s o = some true) (ho : o.op = .call { callee := .value (.func f), args := args, argTypes := ats }) (hf : okFn P f = true)
    (h : Ct P f xs [] r []) (hp : pureL xs = true) (hx : args.toList.map s.ev = xs) (hk : ∃ q L', R P k ops rest (s.put o.dst r) (K q L') ∧ Z q L') : ∃ q L', RunL P k ops (o :: rest) s (K q L') ∧ Z q L' := by
  obtain ⟨q, L', h1, h2⟩ := hk
  exact ⟨q, L', .callp hg ho hf h hp hx h1, h2⟩
theorem AWp.nilS_ex {P : Program} {c : Code} {Kq : AV → List AObj → Exit → St → Prop} {Z : AV → List AObj → Prop} {s : St} (id j : Nat) {T0 : TypeId} {cs : List AV} (hL : s.L[id]? = some (.box T0 cs)) (hj : cs[j]? = some (.lit (.slice none 0 0)))
    (h : ∃ r L', AWp P c (Kq r L') ⟨s.t, s.L.set id (.box T0 (cs.set j (.sl false [])))⟩ ∧ Z r L') : ∃ r L', AWp P c (Kq r L') s ∧ Z r L' := by
  obtain ⟨r, L', h1, h2⟩ := h
  exact ⟨r, L', AWp.nilS id j hL hj h1, h2⟩

end Go.Proofs.Ytphmkhaboghagaa.K
/-
  Lists of whole numbers: their sizes, their copies, compared, marked, found again.
-/
namespace Go.Proofs.Ytphmkhaboghagaa
open Go K Od
set_option linter.unusedSimpArgs false
set_option linter.unusedVariables false
set_option maxHeartbeats 1600000
set_option maxRecDepth 8000

theorem i64_id {x : Int} (h1 : -9223372036854775808 ≤ x) (h2 : x < 9223372036854775808) : IntKind.i64.wrap x = x := w64_id h1 (by omega)

/-- The room that is left behind a list. -/
def szN (n : Nat) (l : Int) : Int := if l - n < 0 then -1 else l - n
theorem szIntS_ok (l : List Int) (k : Int) (hl : l.length ≤ 9223372036854775807) (h0 : 0 ≤ k) (h1 : k ≤ 1048576) : Ct Try.prog 75 [.sl false (ints l), .int .i64 k] [] (.int .i64 (szN l.length k)) [] := by
  have hw : IntKind.i64.wrap (k - (l.length : Int)) = k - l.length := i64_id (by omega) (by omega)
  refine Ct.by_ hmix [] Try.func75 rfl ?_
  simp only [run0, run1, run2, run3, run4, run5, run6, run7, run8, run9, run10, run11, run12, run13, run14, run15, run16, run17, run18, run19, run20, run21, run22, reduceCtorEq, Nat.reduceEqDiff, Nat.reduceAdd, Nat.reduceSub, Nat.reduceLeDiff, indexAddrA, indexRefA, appendA, strA, Nat.reduceMul, Nat.zero_mul, Nat.reduceMod, Int.reduceEq, Int.reduceLT, Int.reduceLE, Nat.reduceLT, Nat.lt_irrefl, Nat.reduceBEq, tys0, tys1, tys2, tys3, tys4, tys5, tys6, tys7, tys8, tys9, tys10, tys11, tys12, tys13, tys14, tys15, tys16, tys17, tys18, Try.ntmps75, Try.results75, hw, List.length_map]
  by_cases h2 : k - (l.length : Int) < 0
  · simp only [run0, run1, run2, run3, run4, run5, run6, run7, run8, run9, run10, run11, run12, run13, run14, run15, run16, run17, run18, run19, run20, run21, run22, reduceCtorEq, Nat.reduceEqDiff, Nat.reduceAdd, Nat.reduceSub, Nat.reduceLeDiff, indexAddrA, indexRefA, appendA, strA, Nat.reduceMul, Nat.zero_mul, Nat.reduceMod, Int.reduceEq, Int.reduceLT, Int.reduceLE, Nat.reduceLT, Nat.lt_irrefl, Nat.reduceBEq, tys0, tys1, tys2, tys3, tys4, tys5, tys6, tys7, tys8, tys9, tys10, tys11, tys12, tys13, tys14, tys15, tys16, tys17, tys18, Try.ntmps75, Try.results75, h2]
    exact Fin.eq (by simp [szN, h2]) rfl
  · simp only [run0, run1, run2, run3, run4, run5, run6, run7, run8, run9, run10, run11, run12, run13, run14, run15, run16, run17, run18, run19, run20, run21, run22, reduceCtorEq, Nat.reduceEqDiff, Nat.reduceAdd, Nat.reduceSub, Nat.reduceLeDiff, indexAddrA, indexRefA, appendA, strA, Nat.reduceMul, Nat.zero_mul, Nat.reduceMod, Int.reduceEq, Int.reduceLT, Int.reduceLE, Nat.reduceLT, Nat.lt_irrefl, Nat.reduceBEq, tys0, tys1, tys2, tys3, tys4, tys5, tys6, tys7, tys8, tys9, tys10, tys11, tys12, tys13, tys14, tys15, tys16, tys17, tys18, Try.ntmps75, Try.results75, h2]
    exact Fin.eq (by simp [szN, h2]) rfl

/-- A row of whole numbers, and zeros behind it. -/
abbrev intsZ (d : List Int) (n : Nat) : List AV := ints d ++ List.replicate n (.int .i64 0)
theorem intsZ_noOwn (d : List Int) (n : Nat) : noOwn (intsZ d n) = true := by
  refine List.all_eq_true.2 fun e he => ?_
  rcases List.mem_append.1 he with he | he
  · exact List.all_eq_true.1 (ints_noOwn d) e he
  · rw [(List.mem_replicate.1 he).2]; rfl
theorem Vw_intR {L : List AObj} {id g n : Nat} {T : TypeId} {es : List AV} {l : List Int} {o : Bool} (hL : L[id]? = some (.vec T 1 g es)) (he : es = ints l) (hn : n = l.length) : Vw L (.ref id [] g n) (.sl o (ints l)) := by
  subst he hn
  have := Vw.refPur (o := o) hL (n := l.length) (by simp) (fun e he c hc => by
    obtain ⟨y, _, rfl⟩ := List.mem_map.1 he
    simp only [AV.cells, List.mem_cons, List.not_mem_nil, or_false] at hc
    subst hc
    exact ⟨.int _ _, fun xs h => by cases h⟩)
  rwa [List.take_of_length_le (by simp)] at this

/-- A copy as a row of the call's own. -/
theorem toIntS_own (l : List Int) (hl : l.length ≤ 1048576) : Ct Try.prog 78 [.sl false (ints l)] [] (.ref 0 [] 0 l.length) [.vec 3 1 0 (ints l)] := by
  have b0 : (l.length : Int) ≤ 137438953472 := by omega
  have b1 : (l.length : Int) ≤ 17592186044416 := by omega
  refine Ct.by_ hmix [] Try.func78 rfl ?_
  simp only [run0, run1, run2, run3, run4, run5, run6, run7, run8, run9, run10, run11, run12, run13, run14, run15, run16, run17, run18, run19, run20, run21, run22, reduceCtorEq, Nat.reduceEqDiff, Nat.reduceAdd, Nat.reduceSub, Nat.reduceLeDiff, indexAddrA, indexRefA, appendA, strA, Nat.reduceMul, Nat.zero_mul, Nat.reduceMod, Int.reduceEq, Int.reduceLT, Int.reduceLE, Nat.reduceLT, Nat.lt_irrefl, Nat.reduceBEq, tys0, tys1, tys2, tys3, tys4, tys5, tys6, tys7, tys8, tys9, tys10, tys11, tys12, tys13, tys14, tys15, tys16, tys17, tys18, Try.ntmps78, Try.results78, b0, b1, List.length_map, Int.natCast_nonneg, Int.le_refl, Int.toNat_natCast]
  refine AWp.loop_inv (ι := List Int × List Int) (fun p => ⟨[.sl false (ints l), .junk, .junk, .ref 0 [] 0 l.length, .int .i64 p.1.length, .junk, .junk, .junk, .junk, .junk, .junk, .junk, .junk, .junk, .junk, .junk, .junk, .junk, .junk, .junk, .junk, .junk], [.vec 3 1 0 (intsZ p.1 p.2.length)]⟩)
    (fun p => l = p.1 ++ p.2) (fun p => p.2.length) ([], l) rfl ⟨by simp only [List.length_nil, Int.natCast_zero]; repeat constructor, rfl⟩ ?_
  rintro ⟨d, r⟩ ha
  refine W.sound hmix (E := []) ?_
  simp only at ha
  have hda : d.length + r.length = l.length := by rw [ha, List.length_append]
  cases r with
  | nil =>
    have e1 : ¬ ((d.length : Int) < (l.length : Int)) := by simp at hda; omega
    simp only [run0, run1, run2, run3, run4, run5, run6, run7, run8, run9, run10, run11, run12, run13, run14, run15, run16, run17, run18, run19, run20, run21, run22, reduceCtorEq, Nat.reduceEqDiff, Nat.reduceAdd, Nat.reduceSub, Nat.reduceLeDiff, indexAddrA, indexRefA, appendA, strA, Nat.reduceMul, Nat.zero_mul, Nat.reduceMod, Int.reduceEq, Int.reduceLT, Int.reduceLE, Nat.reduceLT, Nat.lt_irrefl, Nat.reduceBEq, tys0, tys1, tys2, tys3, tys4, tys5, tys6, tys7, tys8, tys9, tys10, tys11, tys12, tys13, tys14, tys15, tys16, tys17, tys18, Try.ntmps78, Try.results78, e1, List.length_map]
    have hd : d = l := by rw [ha, List.append_nil]
    subst hd
    exact Fin.own (by simp) rfl
  | cons e r =>
    simp only [List.length_cons] at hda
    have e1 : (d.length : Int) < (l.length : Int) := by omega
    have e2 : (ints l)[d.length]? = some (.int .i64 e) := by rw [ha]; exact ints_get d r e
    have e5 : IntKind.i64.wrap ((d.length : Int) + 1) = ((d ++ [e]).length : Int) := by rw [i64_id (by omega) (by omega)]; simp
    have hle : (ints d).length = d.length := by simp
    have e6 : (intsZ d (r.length + 1))[d.length]? = some (.int .i64 0) := by simp [intsZ, List.replicate_succ]
    have e7 : noOwn (intsZ d (r.length + 1)) = true := intsZ_noOwn d (r.length + 1)
    have e8 : (intsZ d (r.length + 1)).set d.length (.int .i64 e) = intsZ (d ++ [e]) r.length := by
      unfold intsZ
      rw [List.set_append_right _ _ (by simp)]; simp [List.replicate_succ]
    simp only [run0, run1, run2, run3, run4, run5, run6, run7, run8, run9, run10, run11, run12, run13, run14, run15, run16, run17, run18, run19, run20, run21, run22, reduceCtorEq, Nat.reduceEqDiff, Nat.reduceAdd, Nat.reduceSub, Nat.reduceLeDiff, indexAddrA, indexRefA, appendA, strA, Nat.reduceMul, Nat.zero_mul, Nat.reduceMod, Int.reduceEq, Int.reduceLT, Int.reduceLE, Nat.reduceLT, Nat.lt_irrefl, Nat.reduceBEq, tys0, tys1, tys2, tys3, tys4, tys5, tys6, tys7, tys8, tys9, tys10, tys11, tys12, tys13, tys14, tys15, tys16, tys17, tys18, Try.ntmps78, Try.results78, List.length_map, e1, e2, e5, e6, e7, e8, Int.toNat_natCast, Int.natCast_nonneg]
    exact ⟨(d ++ [e], r), by simp [ha], by simp, by simp only [List.length_append, List.length_cons, List.length_nil]; repeat constructor, rfl⟩
theorem toIntS_ok (l : List Int) (hl : l.length ≤ 1048576) : Ct Try.prog 78 [.sl false (ints l)] [] (.sl false (ints l)) [] := (toIntS_own l hl).toV (Vw_intR rfl rfl rfl)

theorem eqIntS_ok (l : List Int) (hl : l.length ≤ 1048576) : Ct Try.prog 82 [.sl false (ints l), .sl false (ints l)] [] (.bool true) [] := by
  refine Ct.by_ hmix [] Try.func82 rfl ?_
  simp only [run0, run1, run2, run3, run4, run5, run6, run7, run8, run9, run10, run11, run12, run13, run14, run15, run16, run17, run18, run19, run20, run21, run22, reduceCtorEq, Nat.reduceEqDiff, Nat.reduceAdd, Nat.reduceSub, Nat.reduceLeDiff, indexAddrA, indexRefA, appendA, strA, Nat.reduceMul, Nat.zero_mul, Nat.reduceMod, Int.reduceEq, Int.reduceLT, Int.reduceLE, Nat.reduceLT, Nat.lt_irrefl, Nat.reduceBEq, tys0, tys1, tys2, tys3, tys4, tys5, tys6, tys7, tys8, tys9, tys10, tys11, tys12, tys13, tys14, tys15, tys16, tys17, tys18, Try.ntmps82, Try.results82, bne_self_eq_false, List.length_map]
  refine AWp.loop_inv (ι := List Int × List Int) (fun p => ⟨[.sl false (ints l), .sl false (ints l), .junk, .junk, .bool false, .int .i64 p.1.length, .junk, .junk, .junk, .junk, .junk, .junk, .junk, .junk, .junk, .junk, .junk, .junk, .junk, .junk, .junk, .junk, .junk, .junk, .junk, .junk], []⟩)
    (fun p => l = p.1 ++ p.2) (fun p => p.2.length) ([], l) rfl ⟨by simp only [List.length_nil, Int.natCast_zero]; repeat constructor, rfl⟩ ?_
  rintro ⟨d, r⟩ ha
  refine W.sound hmix (E := []) ?_
  simp only at ha
  have hda : d.length + r.length = l.length := by rw [ha, List.length_append]
  cases r with
  | nil =>
    have e1 : ¬ ((d.length : Int) < (l.length : Int)) := by simp at hda; omega
    simp only [run0, run1, run2, run3, run4, run5, run6, run7, run8, run9, run10, run11, run12, run13, run14, run15, run16, run17, run18, run19, run20, run21, run22, reduceCtorEq, Nat.reduceEqDiff, Nat.reduceAdd, Nat.reduceSub, Nat.reduceLeDiff, indexAddrA, indexRefA, appendA, strA, Nat.reduceMul, Nat.zero_mul, Nat.reduceMod, Int.reduceEq, Int.reduceLT, Int.reduceLE, Nat.reduceLT, Nat.lt_irrefl, Nat.reduceBEq, tys0, tys1, tys2, tys3, tys4, tys5, tys6, tys7, tys8, tys9, tys10, tys11, tys12, tys13, tys14, tys15, tys16, tys17, tys18, Try.ntmps82, Try.results82, e1, List.length_map]
    exact Fin.eq rfl rfl
  | cons e r =>
    simp only [List.length_cons] at hda
    have e1 : (d.length : Int) < (l.length : Int) := by omega
    have e2 : (ints l)[d.length]? = some (.int .i64 e) := by rw [ha]; exact ints_get d r e
    have e5 : IntKind.i64.wrap ((d.length : Int) + 1) = ((d ++ [e]).length : Int) := by rw [i64_id (by omega) (by omega)]; simp
    simp only [run0, run1, run2, run3, run4, run5, run6, run7, run8, run9, run10, run11, run12, run13, run14, run15, run16, run17, run18, run19, run20, run21, run22, reduceCtorEq, Nat.reduceEqDiff, Nat.reduceAdd, Nat.reduceSub, Nat.reduceLeDiff, indexAddrA, indexRefA, appendA, strA, Nat.reduceMul, Nat.zero_mul, Nat.reduceMod, Int.reduceEq, Int.reduceLT, Int.reduceLE, Nat.reduceLT, Nat.lt_irrefl, Nat.reduceBEq, tys0, tys1, tys2, tys3, tys4, tys5, tys6, tys7, tys8, tys9, tys10, tys11, tys12, tys13, tys14, tys15, tys16, tys17, tys18, Try.ntmps82, Try.results82, List.length_map, e1, e2, Int.toNat_natCast, Int.natCast_nonneg, bne_self_eq_false]
    refine ⟨by kernel_rfl, ?_⟩
    simp only [run0, run1, run2, run3, run4, run5, run6, run7, run8, run9, run10, run11, run12, run13, run14, run15, run16, run17, run18, run19, run20, run21, run22, reduceCtorEq, Nat.reduceEqDiff, Nat.reduceAdd, Nat.reduceSub, Nat.reduceLeDiff, indexAddrA, indexRefA, appendA, strA, Nat.reduceMul, Nat.zero_mul, Nat.reduceMod, Int.reduceEq, Int.reduceLT, Int.reduceLE, Nat.reduceLT, Nat.lt_irrefl, Nat.reduceBEq, tys0, tys1, tys2, tys3, tys4, tys5, tys6, tys7, tys8, tys9, tys10, tys11, tys12, tys13, tys14, tys15, tys16, tys17, tys18, Try.ntmps82, Try.results82, e5]
    exact ⟨(d ++ [e], r), by simp [ha], by simp, by simp only [List.length_append, List.length_cons, List.length_nil]; repeat constructor⟩

/-- The marks from 'k' on. -/
def mkI : List Int → Int → List Int
  | [], _ => []
  | _ :: r, k => k :: mkI r (k + 1)
theorem mkI_len : ∀ (l : List Int) (k : Int), (mkI l k).length = l.length
  | [], _ => rfl
  | e :: r, k => by simp [mkI, mkI_len r]
theorem mkI_app : ∀ (d r : List Int) (k : Int), mkI (d ++ r) k = mkI d k ++ mkI r (k + d.length)
  | [], r, k => by simp [mkI]
  | e :: d, r, k => by
    simp only [mkI, List.cons_append, mkI_app d r, List.length_cons]
    rw [show k + 1 + (d.length : Int) = k + ((d.length + 1 : Nat) : Int) by omega]
theorem heldIntS_ok (l : List Int) (k : Int) (hl : l.length ≤ 1048576) (h0 : 0 ≤ k) (hk : k ≤ 4611686018427387904) : Ct Try.prog 87 [.sl false (ints (mkI l k)), .int .i64 k] [] (.int .i64 (k + l.length)) [] := by
  have hml := mkI_len l k
  refine Ct.by_ hmix [] Try.func87 rfl ?_
  simp only [run0, run1, run2, run3, run4, run5, run6, run7, run8, run9, run10, run11, run12, run13, run14, run15, run16, run17, run18, run19, run20, run21, run22, reduceCtorEq, Nat.reduceEqDiff, Nat.reduceAdd, Nat.reduceSub, Nat.reduceLeDiff, indexAddrA, indexRefA, appendA, strA, Nat.reduceMul, Nat.zero_mul, Nat.reduceMod, Int.reduceEq, Int.reduceLT, Int.reduceLE, Nat.reduceLT, Nat.lt_irrefl, Nat.reduceBEq, tys0, tys1, tys2, tys3, tys4, tys5, tys6, tys7, tys8, tys9, tys10, tys11, tys12, tys13, tys14, tys15, tys16, tys17, tys18, Try.ntmps87, Try.results87, hml, List.length_map]
  refine AWp.loop_inv (ι := List Int × List Int) (fun p => ⟨[.sl false (ints (mkI l k)), .int .i64 (k + p.1.length), .junk, .junk, .int .i64 0, .int .i64 p.1.length, .junk, .junk, .junk, .junk, .junk, .junk, .junk, .junk, .junk, .junk, .junk, .junk, .junk, .junk, .junk], []⟩)
    (fun p => l = p.1 ++ p.2) (fun p => p.2.length) ([], l) rfl ⟨by simp only [List.length_nil, Int.natCast_zero, Int.add_zero]; repeat constructor, rfl⟩ ?_
  rintro ⟨d, r⟩ ha
  refine W.sound hmix (E := []) ?_
  simp only at ha
  have hda : d.length + r.length = l.length := by rw [ha, List.length_append]
  cases r with
  | nil =>
    have e1 : ¬ ((d.length : Int) < (l.length : Int)) := by simp at hda; omega
    simp only [run0, run1, run2, run3, run4, run5, run6, run7, run8, run9, run10, run11, run12, run13, run14, run15, run16, run17, run18, run19, run20, run21, run22, reduceCtorEq, Nat.reduceEqDiff, Nat.reduceAdd, Nat.reduceSub, Nat.reduceLeDiff, indexAddrA, indexRefA, appendA, strA, Nat.reduceMul, Nat.zero_mul, Nat.reduceMod, Int.reduceEq, Int.reduceLT, Int.reduceLE, Nat.reduceLT, Nat.lt_irrefl, Nat.reduceBEq, tys0, tys1, tys2, tys3, tys4, tys5, tys6, tys7, tys8, tys9, tys10, tys11, tys12, tys13, tys14, tys15, tys16, tys17, tys18, Try.ntmps87, Try.results87, e1, hml, List.length_map]
    refine Fin.eq ?_ rfl
    rw [ha]; simp
  | cons e r =>
    simp only [List.length_cons] at hda
    have e1 : (d.length : Int) < (l.length : Int) := by omega
    have e2 : (ints (mkI l k))[d.length]? = some (.int .i64 (k + d.length)) := by
      rw [ha, mkI_app, mkI, ← mkI_len d k]; exact ints_get _ _ _
    have e5 : IntKind.i64.wrap ((d.length : Int) + 1) = ((d ++ [e]).length : Int) := by rw [i64_id (by omega) (by omega)]; simp
    have e7 : IntKind.i64.wrap (k + (d.length : Int) + 1) = k + ((d ++ [e]).length : Int) := by
      rw [i64_id (by omega) (by omega)]; simp; omega
    simp only [run0, run1, run2, run3, run4, run5, run6, run7, run8, run9, run10, run11, run12, run13, run14, run15, run16, run17, run18, run19, run20, run21, run22, reduceCtorEq, Nat.reduceEqDiff, Nat.reduceAdd, Nat.reduceSub, Nat.reduceLeDiff, indexAddrA, indexRefA, appendA, strA, Nat.reduceMul, Nat.zero_mul, Nat.reduceMod, Int.reduceEq, Int.reduceLT, Int.reduceLE, Nat.reduceLT, Nat.lt_irrefl, Nat.reduceBEq, tys0, tys1, tys2, tys3, tys4, tys5, tys6, tys7, tys8, tys9, tys10, tys11, tys12, tys13, tys14, tys15, tys16, tys17, tys18, Try.ntmps87, Try.results87, e1, e2, hml, List.length_map, Int.toNat_natCast, Int.natCast_nonneg, bne_self_eq_false, e5, e7]
    exact ⟨(d ++ [e], r), by simp [ha], by simp, by simp only [List.length_append, List.length_cons, List.length_nil]; repeat constructor⟩
theorem markIntS_ok (l : List Int) (id g : Nat) (L0 : List AObj) (k : Int) (hL : L0[id]? = some (.vec 3 1 g (ints l))) (hl : l.length ≤ 1048576) (h0 : 0 ≤ k) (hk : k ≤ 4611686018427387904) :
    Ct Try.prog 86 [.ref id [] g l.length, .int .i64 k] L0 (.int .i64 (k + l.length)) (L0.set id (.vec 3 1 g (ints (mkI l k)))) := by
  have hid := (List.getElem?_eq_some_iff.1 hL).1
  have hget : ∀ X, (L0.set id X)[id]? = some X := fun X => List.getElem?_set_self hid
  have hsame : L0 = L0.set id (.vec 3 1 g (ints l)) := by
    apply List.ext_getElem?
    intro i
    by_cases hi : id = i
    · subst hi; rw [hget, hL]
    · rw [List.getElem?_set_ne hi]
  refine Ct.by_ hmix [] Try.func86 rfl ?_
  simp only [run0, run1, run2, run3, run4, run5, run6, run7, run8, run9, run10, run11, run12, run13, run14, run15, run16, run17, run18, run19, run20, run21, run22, reduceCtorEq, Nat.reduceEqDiff, Nat.reduceAdd, Nat.reduceSub, Nat.reduceLeDiff, indexAddrA, indexRefA, appendA, strA, Nat.reduceMul, Nat.zero_mul, Nat.reduceMod, Int.reduceEq, Int.reduceLT, Int.reduceLE, Nat.reduceLT, Nat.lt_irrefl, Nat.reduceBEq, tys0, tys1, tys2, tys3, tys4, tys5, tys6, tys7, tys8, tys9, tys10, tys11, tys12, tys13, tys14, tys15, tys16, tys17, tys18, Try.ntmps86, Try.results86]
  refine AWp.loop_inv (ι := List Int × List Int) (fun p => ⟨[.ref id [] g l.length, .int .i64 (k + p.1.length), .junk, .junk, .int .i64 0, .int .i64 p.1.length, .junk, .junk, .junk, .junk, .junk, .junk, .junk, .junk, .junk, .junk, .junk, .junk, .junk], L0.set id (.vec 3 1 g (ints (mkI p.1 k) ++ ints p.2))⟩)
    (fun p => l = p.1 ++ p.2) (fun p => p.2.length) ([], l) rfl ⟨by simp only [List.length_nil, Int.natCast_zero, Int.add_zero]; repeat constructor, by simpa [mkI] using hsame⟩ ?_
  rintro ⟨d, r⟩ ha
  refine W.sound hmix (E := []) ?_
  simp only at ha
  have hda : d.length + r.length = l.length := by rw [ha, List.length_append]
  have hml := mkI_len d k
  cases r with
  | nil =>
    have e1 : ¬ ((d.length : Int) < (l.length : Int)) := by simp at hda; omega
    simp only [run0, run1, run2, run3, run4, run5, run6, run7, run8, run9, run10, run11, run12, run13, run14, run15, run16, run17, run18, run19, run20, run21, run22, reduceCtorEq, Nat.reduceEqDiff, Nat.reduceAdd, Nat.reduceSub, Nat.reduceLeDiff, indexAddrA, indexRefA, appendA, strA, Nat.reduceMul, Nat.zero_mul, Nat.reduceMod, Int.reduceEq, Int.reduceLT, Int.reduceLE, Nat.reduceLT, Nat.lt_irrefl, Nat.reduceBEq, tys0, tys1, tys2, tys3, tys4, tys5, tys6, tys7, tys8, tys9, tys10, tys11, tys12, tys13, tys14, tys15, tys16, tys17, tys18, Try.ntmps86, Try.results86, e1, hget]
    have hd : d = l := by rw [ha, List.append_nil]
    subst hd
    exact Fin.own (by simp) rfl
  | cons e r =>
    simp only [List.length_cons] at hda
    have e1 : (d.length : Int) < (l.length : Int) := by omega
    have e2 : (ints (mkI d k) ++ AV.int .i64 e :: ints r)[d.length]? = some (.int .i64 e) := by rw [← hml]; simp
    have e3 : noOwn (ints (mkI d k) ++ AV.int .i64 e :: ints r) = true := by
      have := ints_noOwn (mkI d k ++ e :: r)
      simpa using this
    have e4 : (ints (mkI d k) ++ AV.int .i64 e :: ints r).set d.length (.int .i64 (k + d.length)) = ints (mkI d k) ++ AV.int .i64 (k + d.length) :: ints r := by rw [← hml]; simp
    have e5 : IntKind.i64.wrap ((d.length : Int) + 1) = ((d ++ [e]).length : Int) := by rw [i64_id (by omega) (by omega)]; simp
    have e7 : IntKind.i64.wrap (k + (d.length : Int) + 1) = k + ((d ++ [e]).length : Int) := by
      rw [i64_id (by omega) (by omega)]; simp; omega
    simp only [run0, run1, run2, run3, run4, run5, run6, run7, run8, run9, run10, run11, run12, run13, run14, run15, run16, run17, run18, run19, run20, run21, run22, reduceCtorEq, Nat.reduceEqDiff, Nat.reduceAdd, Nat.reduceSub, Nat.reduceLeDiff, indexAddrA, indexRefA, appendA, strA, Nat.reduceMul, Nat.zero_mul, Nat.reduceMod, Int.reduceEq, Int.reduceLT, Int.reduceLE, Nat.reduceLT, Nat.lt_irrefl, Nat.reduceBEq, tys0, tys1, tys2, tys3, tys4, tys5, tys6, tys7, tys8, tys9, tys10, tys11, tys12, tys13, tys14, tys15, tys16, tys17, tys18, Try.ntmps86, Try.results86, List.map_cons, e1, hget, e2, e3, e4, e5, e7, List.set_set, Int.toNat_natCast, Int.natCast_nonneg, setE]
    exact ⟨(d ++ [e], r), by simp [ha], by simp, by simp only [List.length_append, List.length_cons, List.length_nil]; repeat constructor, by simp [mkI_app, mkI]⟩

end Go.Proofs.Ytphmkhaboghagaa
/-
  Hydras: the ordinals of nodes by both; which hydras have the same: the law.
-/
namespace Go.Proofs.Ytphmkhaboghagaa
open Go K Od
set_option linter.unusedSimpArgs false
set_option linter.unusedVariables false
set_option maxHeartbeats 1600000
set_option maxRecDepth 8000

theorem fo_split (f d r : Fo) (h : f = d.app r) : f.len = d.len + r.len ∧ f.sz = d.sz + r.sz := by subst h; exact ⟨Fo.len_app _ _, Fo.sz_app _ _⟩
structure OrS where
  d : Fo
  r : Fo
  X : List AObj

theorem ordinal_ok (f : Fo) (n : Int) (hs : f.sz ≤ 40) : Ct Try.prog 81 [.rptr (.agg [.int .i64 n, .sl false (Fo.els f)]) 0] [] (av (ordFo .nil f)) [] := by
  have hfl := len_sz f
  refine Ct.by_ hmix [ 8000000] Try.func81 rfl ?_
  simp only [run0, run1, run2, run3, run4, run5, run6, run7, run8, run9, run10, run11, run12, run13, run14, run15, run16, run17, run18, run19, run20, run21, run22, reduceCtorEq, Nat.reduceEqDiff, Nat.reduceAdd, Nat.reduceSub, Nat.reduceLeDiff, indexAddrA, indexRefA, appendA, strA, Nat.reduceMul, Nat.zero_mul, Nat.reduceMod, Int.reduceEq, Int.reduceLT, Int.reduceLE, Nat.reduceLT, Nat.lt_irrefl, Nat.reduceBEq, tys0, tys1, tys2, tys3, tys4, tys5, tys6, tys7, tys8, tys9, tys10, tys11, tys12, tys13, tys14, tys15, tys16, tys17, tys18, Try.ntmps81, Try.results81, Fo.els_length]
  refine AWp.nilS 1 0 rfl rfl ?_
  refine AWp.loop_inv (ι := OrS) (fun p => ⟨[.rptr (.agg [.int .i64 n, .sl false (Fo.els f)]) 0, .junk, .ptr 0 0, .ptr 1 0, .junk, .junk, .junk, .junk, .junk, .junk, .sl false (Fo.els f), .int .i64 f.len, .int .i64 p.d.len, .junk, .junk, .junk, .junk, .junk, .junk, .junk, .junk, .junk, .junk],
      .box 24 [nilV] :: .box 24 [.sl false (elems (ordFo .nil p.d))] :: p.X⟩)
    (fun p => f = p.d.app p.r) (fun p => p.r.len) ⟨.nil, f, []⟩ rfl ⟨by simp only [Fo.len, Int.natCast_zero]; repeat constructor, rfl⟩ ?_
  rintro ⟨d, r, X⟩ ha
  refine W.sound hmix (E := [8000000]) ?_
  simp only at ha
  obtain ⟨hl, hz⟩ := fo_split f d r ha
  cases r with
  | nil =>
    have e1 : ¬ ((d.len : Int) < (f.len : Int)) := by simp [Fo.len] at hl; omega
    have hd : d = f := by rw [ha]; clear ha hl hz e1; induction d with
      | nil => rfl
      | cons n a b _ ih => simp only [Fo.app]; rw [← ih]
    subst hd
    simp only [run0, run1, run2, run3, run4, run5, run6, run7, run8, run9, run10, run11, run12, run13, run14, run15, run16, run17, run18, run19, run20, run21, run22, reduceCtorEq, Nat.reduceEqDiff, Nat.reduceAdd, Nat.reduceSub, Nat.reduceLeDiff, indexAddrA, indexRefA, appendA, strA, Nat.reduceMul, Nat.zero_mul, Nat.reduceMod, Int.reduceEq, Int.reduceLT, Int.reduceLE, Nat.reduceLT, Nat.lt_irrefl, Nat.reduceBEq, tys0, tys1, tys2, tys3, tys4, tys5, tys6, tys7, tys8, tys9, tys10, tys11, tys12, tys13, tys14, tys15, tys16, tys17, tys18, Try.ntmps81, Try.results81, e1]
    exact Fin.eq rfl (by simp only [pureB, pureL, elems_pure, Bool.and_self])
  | cons k ch r =>
    simp only [Fo.len, Fo.sz] at hl hz
    have e1 : (d.len : Int) < (f.len : Int) := by omega
    have e2 : (Fo.els f)[d.len]? = some (.rptr (.agg [.int .i64 k, .sl false (Fo.els ch)]) 0) := by rw [ha]; exact els_at d k ch r
    have e5 : IntKind.i64.wrap ((d.len : Int) + 1) = ((d.app (.cons k ch .nil)).len : Int) := by
      rw [i64_id (by omega) (by omega), Fo.len_app]; rfl
    have hsd := ordFo_sz d .nil
    have hsc := ordFo_sz ch .nil
    simp only [Od.sz] at hsd hsc
    have hpd := ordFo_pos d .nil 0 (by omega) (by omega) trivial
    have hpc := ordFo_pos ch .nil 0 (by omega) (by omega) trivial
    have hdl := len_sz d
    have hcl := len_sz ch
    have hcr := pos_rng (by omega) hpc
    have hrec := ordinal_ok ch k (by omega)
    have hns := naturalSum_ok (ordFo .nil d) (powT (ordFo .nil ch)) (by omega) (by simp only [powT, Od.sz]; omega) (m := 1000000) (by omega) (pos_bnd (by omega) (by omega) (pos_mono (m' := 1000000) (by omega) hpd)) ⟨hcr, by omega, by omega, by omega, trivial⟩
    rw [show powT (ordFo .nil ch) = .cons (ordFo .nil ch) 1 .nil from rfl, merge_meet] at hns
    simp only [run0, run1, run2, run3, run4, run5, run6, run7, run8, run9, run10, run11, run12, run13, run14, run15, run16, run17, run18, run19, run20, run21, run22, reduceCtorEq, Nat.reduceEqDiff, Nat.reduceAdd, Nat.reduceSub, Nat.reduceLeDiff, indexAddrA, indexRefA, appendA, strA, Nat.reduceMul, Nat.zero_mul, Nat.reduceMod, Int.reduceEq, Int.reduceLT, Int.reduceLE, Nat.reduceLT, Nat.lt_irrefl, Nat.reduceBEq, tys0, tys1, tys2, tys3, tys4, tys5, tys6, tys7, tys8, tys9, tys10, tys11, tys12, tys13, tys14, tys15, tys16, tys17, tys18, Try.ntmps81, Try.results81, e1, e2, Int.toNat_natCast, Int.natCast_nonneg]
    refine ⟨[0, 1, 2, 3, 4, 5], by kernel_rfl, ?_⟩
    simp only [run0, run1, run2, run3, run4, run5, run6, run7, run8, run9, run10, run11, run12, run13, run14, run15, run16, run17, run18, run19, run20, run21, run22, reduceCtorEq, Nat.reduceEqDiff, Nat.reduceAdd, Nat.reduceSub, Nat.reduceLeDiff, indexAddrA, indexRefA, appendA, strA, Nat.reduceMul, Nat.zero_mul, Nat.reduceMod, Int.reduceEq, Int.reduceLT, Int.reduceLE, Nat.reduceLT, Nat.lt_irrefl, Nat.reduceBEq, tys0, tys1, tys2, tys3, tys4, tys5, tys6, tys7, tys8, tys9, tys10, tys11, tys12, tys13, tys14, tys15, tys16, tys17, tys18, Try.ntmps81, Try.results81]
    refine RunL.callp rfl rfl ok_f81 hrec (by simp only [pureL, pureB, Fo.els_pure, Bool.and_self, Bool.and_true, Bool.true_and]) rfl ?_
    simp only [run0, run1, run2, run3, run4, run5, run6, run7, run8, run9, run10, run11, run12, run13, run14, run15, run16, run17, run18, run19, run20, run21, run22, reduceCtorEq, Nat.reduceEqDiff, Nat.reduceAdd, Nat.reduceSub, Nat.reduceLeDiff, indexAddrA, indexRefA, appendA, strA, Nat.reduceMul, Nat.zero_mul, Nat.reduceMod, Int.reduceEq, Int.reduceLT, Int.reduceLE, Nat.reduceLT, Nat.lt_irrefl, Nat.reduceBEq, tys0, tys1, tys2, tys3, tys4, tys5, tys6, tys7, tys8, tys9, tys10, tys11, tys12, tys13, tys14, tys15, tys16, tys17, tys18, Try.ntmps81, Try.results81]
    refine RunL.callp rfl rfl ok_f114 (power_ok _) (by first | rfl | simp only [pureL, pureB, Bool.and_self, Bool.and_true, Bool.true_and, Od.elems_pure, Od.pay_pure, Od.av_pure]) rfl ?_
    simp only [run0, run1, run2, run3, run4, run5, run6, run7, run8, run9, run10, run11, run12, run13, run14, run15, run16, run17, run18, run19, run20, run21, run22, reduceCtorEq, Nat.reduceEqDiff, Nat.reduceAdd, Nat.reduceSub, Nat.reduceLeDiff, indexAddrA, indexRefA, appendA, strA, Nat.reduceMul, Nat.zero_mul, Nat.reduceMod, Int.reduceEq, Int.reduceLT, Int.reduceLE, Nat.reduceLT, Nat.lt_irrefl, Nat.reduceBEq, tys0, tys1, tys2, tys3, tys4, tys5, tys6, tys7, tys8, tys9, tys10, tys11, tys12, tys13, tys14, tys15, tys16, tys17, tys18, Try.ntmps81, Try.results81]
    refine RunL.callp rfl rfl ok_f113 (hns) (by first | rfl | simp only [pureL, pureB, Bool.and_self, Bool.and_true, Bool.true_and, Od.elems_pure, Od.pay_pure, Od.av_pure]) rfl ?_
    simp only [run0, run1, run2, run3, run4, run5, run6, run7, run8, run9, run10, run11, run12, run13, run14, run15, run16, run17, run18, run19, run20, run21, run22, reduceCtorEq, Nat.reduceEqDiff, Nat.reduceAdd, Nat.reduceSub, Nat.reduceLeDiff, indexAddrA, indexRefA, appendA, strA, Nat.reduceMul, Nat.zero_mul, Nat.reduceMod, Int.reduceEq, Int.reduceLT, Int.reduceLE, Nat.reduceLT, Nat.lt_irrefl, Nat.reduceBEq, tys0, tys1, tys2, tys3, tys4, tys5, tys6, tys7, tys8, tys9, tys10, tys11, tys12, tys13, tys14, tys15, tys16, tys17, tys18, Try.ntmps81, Try.results81, av, e5]
    refine ⟨⟨d.app (.cons k ch .nil), r, X⟩, by rw [ha, Fo.app_assoc]; rfl, by simp [Fo.len], by repeat constructor, ?_⟩
    rw [ordFo_app]; rfl
termination_by f.sz
decreasing_by all_goals (subst ha; simp only [Fo.sz_app, Fo.sz]; omega)

/-! ### the reference -/
theorem kidsL_take (P : List Int) (j n : Nat) : (kidsL P j) = ((List.range P.length).filter fun c => P[c]? == some (j : Int)) := rfl
def kidsTo (P : List Int) (j n : Nat) : List Int := ((List.range n).filter fun c => P[c]? == some (j : Int)).map Int.ofNat
theorem kidsTo_succ (P : List Int) (j n : Nat) (x : Int) (h : P[n]? = some x) : kidsTo P j (n + 1) = kidsTo P j n ++ (if x = (j : Int) then [(n : Int)] else []) := by
  unfold kidsTo
  rw [List.range_succ, List.filter_append, List.map_append]
  congr 1
  by_cases hx : x = (j : Int)
  · rw [if_pos hx]; simp [h, hx]
  · rw [if_neg hx]
    simp [h, hx]
theorem kidsTo_len (P : List Int) (j n : Nat) : (kidsTo P j n).length ≤ n := by
  have := List.length_filter_le (fun c => P[c]? == some (j : Int)) (List.range n)
  unfold kidsTo
  simp at this ⊢
  exact this
theorem deChildren_ok (P : List Int) (j : Nat) (hP : P.length ≤ 1048576) : Ct Try.prog 110 [.agg [.sl false (ints P)], .int .i64 j] [] (.sl false (ints (kidsTo P j P.length))) [] := by
  refine Ct.by_ hmix [] Try.func110 rfl ?_
  simp only [run0, run1, run2, run3, run4, run5, run6, run7, run8, run9, run10, run11, run12, run13, run14, run15, run16, run17, run18, run19, run20, run21, run22, reduceCtorEq, Nat.reduceEqDiff, Nat.reduceAdd, Nat.reduceSub, Nat.reduceLeDiff, indexAddrA, indexRefA, appendA, strA, Nat.reduceMul, Nat.zero_mul, Nat.reduceMod, Int.reduceEq, Int.reduceLT, Int.reduceLE, Nat.reduceLT, Nat.lt_irrefl, Nat.reduceBEq, tys0, tys1, tys2, tys3, tys4, tys5, tys6, tys7, tys8, tys9, tys10, tys11, tys12, tys13, tys14, tys15, tys16, tys17, tys18, Try.ntmps110, Try.results110, List.length_map]
  refine AWp.nil 5 3 1 rfl ?_
  refine AWp.loop_inv (ι := Nat) (fun n => ⟨[.agg [.sl false (ints P)], .int .i64 j, .ptr 0 0, .junk, nilV, .ref 1 [] (kidsTo P j n).length (kidsTo P j n).length, .junk, .junk, .junk, .sl false (ints P), .int .i64 P.length, .int .i64 n, .junk, .junk, .junk, .junk, .junk, .junk, .junk, .junk, .junk, .junk, .junk, .junk, .junk], [.box 60 [.sl false (ints P)], .vec 3 1 (kidsTo P j n).length (ints (kidsTo P j n))]⟩)
    (fun n => n ≤ P.length) (fun n => P.length - n) 0 (Nat.zero_le _) ⟨by simp only [Int.natCast_zero]; repeat constructor, rfl⟩ ?_
  intro n hn
  refine W.sound hmix (E := []) ?_
  by_cases hlt : n < P.length
  · have e1 : (n : Int) < (P.length : Int) := by omega
    have hx := List.getElem?_eq_getElem hlt
    generalize P[n] = x at hx
    have e2 : (ints P)[n]? = some (.int .i64 x) := by simp [hx]
    have e5 : IntKind.i64.wrap ((n : Int) + 1) = ((n + 1 : Nat) : Int) := by rw [i64_id (by omega) (by omega)]; simp
    have hk := kidsTo_len P j n
    have hs := kidsTo_succ P j n x hx
    have f3 : (kidsTo P j n).length + 1 ≤ 137438953472 := by omega
    have f4 := ints_noOwn (kidsTo P j n)
    by_cases hxj : x = (j : Int)
    · have e3 : (x == (j : Int)) = true := by simp [hxj]
      rw [if_pos hxj] at hs
      simp only [run0, run1, run2, run3, run4, run5, run6, run7, run8, run9, run10, run11, run12, run13, run14, run15, run16, run17, run18, run19, run20, run21, run22, reduceCtorEq, Nat.reduceEqDiff, Nat.reduceAdd, Nat.reduceSub, Nat.reduceLeDiff, indexAddrA, indexRefA, appendA, strA, Nat.reduceMul, Nat.zero_mul, Nat.reduceMod, Int.reduceEq, Int.reduceLT, Int.reduceLE, Nat.reduceLT, Nat.lt_irrefl, Nat.reduceBEq, tys0, tys1, tys2, tys3, tys4, tys5, tys6, tys7, tys8, tys9, tys10, tys11, tys12, tys13, tys14, tys15, tys16, tys17, tys18, Try.ntmps110, Try.results110, List.length_map, e1, e2, e3, e5, f3, f4, Int.toNat_natCast, Int.natCast_nonneg]
      exact ⟨n + 1, by omega, by omega, by rw [hs]; simp only [List.length_append, List.length_cons, List.length_nil]; repeat constructor, by rw [hs]; simp⟩
    · have e3 : (x == (j : Int)) = false := by simp [hxj]
      rw [if_neg hxj, List.append_nil] at hs
      simp only [run0, run1, run2, run3, run4, run5, run6, run7, run8, run9, run10, run11, run12, run13, run14, run15, run16, run17, run18, run19, run20, run21, run22, reduceCtorEq, Nat.reduceEqDiff, Nat.reduceAdd, Nat.reduceSub, Nat.reduceLeDiff, indexAddrA, indexRefA, appendA, strA, Nat.reduceMul, Nat.zero_mul, Nat.reduceMod, Int.reduceEq, Int.reduceLT, Int.reduceLE, Nat.reduceLT, Nat.lt_irrefl, Nat.reduceBEq, tys0, tys1, tys2, tys3, tys4, tys5, tys6, tys7, tys8, tys9, tys10, tys11, tys12, tys13, tys14, tys15, tys16, tys17, tys18, Try.ntmps110, Try.results110, List.length_map, e1, e2, e3, e5, f3, f4, Int.toNat_natCast, Int.natCast_nonneg]
      exact ⟨n + 1, by omega, by omega, by rw [hs]; repeat constructor, by rw [hs]⟩
  · have e1 : ¬ (n : Int) < (P.length : Int) := by omega
    obtain rfl : n = P.length := by omega
    simp only [run0, run1, run2, run3, run4, run5, run6, run7, run8, run9, run10, run11, run12, run13, run14, run15, run16, run17, run18, run19, run20, run21, run22, reduceCtorEq, Nat.reduceEqDiff, Nat.reduceAdd, Nat.reduceSub, Nat.reduceLeDiff, indexAddrA, indexRefA, appendA, strA, Nat.reduceMul, Nat.zero_mul, Nat.reduceMod, Int.reduceEq, Int.reduceLT, Int.reduceLE, Nat.reduceLT, Nat.lt_irrefl, Nat.reduceBEq, tys0, tys1, tys2, tys3, tys4, tys5, tys6, tys7, tys8, tys9, tys10, tys11, tys12, tys13, tys14, tys15, tys16, tys17, tys18, Try.ntmps110, Try.results110, e1]
    exact Fin.value (Vw_intR rfl rfl rfl)

theorem foL_app (f : Nat → Fo) : ∀ a b : List Nat, foL f (a ++ b) = (foL f a).app (foL f b)
  | [], b => rfl
  | c :: a, b => by simp [foL, Fo.app, foL_app f a b]
structure DoS where
  d : List Nat
  r : List Nat
  X : List AObj
theorem deOrdinal_ok (P : List Int) (hp : ParOk P) (hP : P.length ≤ 40) (n j : Nat) (h1 : P.length ≤ j + n) (hj : j < P.length) : Ct Try.prog 77 [.agg [.sl false (ints P)], .int .i64 j] [] (av (ordFo .nil (fo P P.length j))) [] := by
  have hdeep : fo P P.length j = foL (fo P P.length) (kidsL P j) := by
    rw [fo_deep hp P.length j P.length (P.length + 1) (by omega) (by omega) (by omega)]; rfl
  have hsz := fo_small hp P.length j
  have hkl : (kidsTo P j P.length).length = (kidsL P j).length := by simp [kidsTo, kidsL]
  have hkn := kidsTo_len P j P.length
  have hk : kidsTo P j P.length = (kidsL P j).map Int.ofNat := rfl
  rw [hdeep] at hsz ⊢
  generalize hK : kidsL P j = K at *
  refine Ct.by_ hmix [ 8000000] Try.func77 rfl ?_
  simp only [run0, run1, run2, run3, run4, run5, run6, run7, run8, run9, run10, run11, run12, run13, run14, run15, run16, run17, run18, run19, run20, run21, run22, reduceCtorEq, Nat.reduceEqDiff, Nat.reduceAdd, Nat.reduceSub, Nat.reduceLeDiff, indexAddrA, indexRefA, appendA, strA, Nat.reduceMul, Nat.zero_mul, Nat.reduceMod, Int.reduceEq, Int.reduceLT, Int.reduceLE, Nat.reduceLT, Nat.lt_irrefl, Nat.reduceBEq, tys0, tys1, tys2, tys3, tys4, tys5, tys6, tys7, tys8, tys9, tys10, tys11, tys12, tys13, tys14, tys15, tys16, tys17, tys18, Try.ntmps77, Try.results77]
  refine RunL.callp rfl rfl ok_f110 (deChildren_ok P j (by omega)) (by simp only [pureL, pureB, ints_pure, Bool.and_self, Bool.and_true, Bool.true_and]) rfl ?_
  simp only [run0, run1, run2, run3, run4, run5, run6, run7, run8, run9, run10, run11, run12, run13, run14, run15, run16, run17, run18, run19, run20, run21, run22, reduceCtorEq, Nat.reduceEqDiff, Nat.reduceAdd, Nat.reduceSub, Nat.reduceLeDiff, indexAddrA, indexRefA, appendA, strA, Nat.reduceMul, Nat.zero_mul, Nat.reduceMod, Int.reduceEq, Int.reduceLT, Int.reduceLE, Nat.reduceLT, Nat.lt_irrefl, Nat.reduceBEq, tys0, tys1, tys2, tys3, tys4, tys5, tys6, tys7, tys8, tys9, tys10, tys11, tys12, tys13, tys14, tys15, tys16, tys17, tys18, Try.ntmps77, Try.results77, List.length_map, hkl, hk]
  refine AWp.nilS 2 0 rfl rfl ?_
  refine AWp.loop_inv (ι := DoS) (fun p => ⟨[.agg [.sl false (ints P)], .int .i64 j, .ptr 0 0, .junk, .ptr 1 0, .ptr 2 0, .junk, .junk, .junk, .junk, .junk, .sl false (ints (K.map Int.ofNat)), .int .i64 K.length, .int .i64 p.d.length, .junk, .junk, .junk, .junk, .junk, .junk, .junk, .junk, .junk, .junk, .junk],
      .box 60 [.sl false (ints P)] :: .box 24 [nilV] :: .box 24 [.sl false (elems (ordFo .nil (foL (fo P P.length) p.d)))] :: p.X⟩)
    (fun p => K = p.d ++ p.r) (fun p => p.r.length) ⟨[], K, []⟩ rfl ⟨by simp only [List.length_nil, Int.natCast_zero]; repeat constructor, rfl⟩ ?_
  rintro ⟨d, r, X⟩ ha
  refine W.sound hmix (E := [8000000]) ?_
  simp only at ha
  have hda : d.length + r.length = K.length := by rw [ha, List.length_append]
  cases r with
  | nil =>
    have e1 : ¬ ((d.length : Int) < (K.length : Int)) := by simp at hda; omega
    rw [List.append_nil] at ha
    subst ha
    simp only [run0, run1, run2, run3, run4, run5, run6, run7, run8, run9, run10, run11, run12, run13, run14, run15, run16, run17, run18, run19, run20, run21, run22, reduceCtorEq, Nat.reduceEqDiff, Nat.reduceAdd, Nat.reduceSub, Nat.reduceLeDiff, indexAddrA, indexRefA, appendA, strA, Nat.reduceMul, Nat.zero_mul, Nat.reduceMod, Int.reduceEq, Int.reduceLT, Int.reduceLE, Nat.reduceLT, Nat.lt_irrefl, Nat.reduceBEq, tys0, tys1, tys2, tys3, tys4, tys5, tys6, tys7, tys8, tys9, tys10, tys11, tys12, tys13, tys14, tys15, tys16, tys17, tys18, Try.ntmps77, Try.results77, e1]
    exact Fin.eq rfl (by simp only [pureB, pureL, elems_pure, Bool.and_self])
  | cons c r =>
    simp only [List.length_cons] at hda
    have e1 : (d.length : Int) < (K.length : Int) := by omega
    have e2 : (ints (K.map Int.ofNat))[d.length]? = some (.int .i64 (c : Int)) := by rw [ha]; simp
    have e5 : IntKind.i64.wrap ((d.length : Int) + 1) = ((d ++ [c]).length : Int) := by rw [i64_id (by omega) (by omega)]; simp
    have hcm : c ∈ kidsL P j := by rw [hK, ha]; simp
    obtain ⟨c1, c2⟩ := kidsL_gt hp hcm
    have hz : (foL (fo P P.length) K).sz = (foL (fo P P.length) d).sz + ((fo P P.length c).sz + (foL (fo P P.length) r).sz + 1) := by
      rw [ha, foL_app, Fo.sz_app]; rfl
    rw [hz] at hsz
    have hsd := ordFo_sz (foL (fo P P.length) d) .nil
    have hsc := ordFo_sz (fo P P.length c) .nil
    simp only [Od.sz] at hsd hsc
    have hpd := ordFo_pos (foL (fo P P.length) d) .nil 0 (by omega) (by omega) trivial
    have hpc := ordFo_pos (fo P P.length c) .nil 0 (by omega) (by omega) trivial
    have hdl := len_sz (foL (fo P P.length) d)
    have hcl := len_sz (fo P P.length c)
    have hcr := pos_rng (by omega) hpc
    cases n with
    | zero => omega
    | succ n =>
      have hrec := deOrdinal_ok P hp hP n c (by omega) c2
      have hms := odMeet_ok (ordFo .nil (foL (fo P P.length) d)) (ordFo .nil (fo P P.length c)) 1 (by omega) (m := 1000000) (by omega) (pos_bnd (by omega) (by omega) (pos_mono (m' := 1000000) (by omega) hpd)) ⟨hcr, by omega, by omega, by omega, trivial⟩
      simp only [run0, run1, run2, run3, run4, run5, run6, run7, run8, run9, run10, run11, run12, run13, run14, run15, run16, run17, run18, run19, run20, run21, run22, reduceCtorEq, Nat.reduceEqDiff, Nat.reduceAdd, Nat.reduceSub, Nat.reduceLeDiff, indexAddrA, indexRefA, appendA, strA, Nat.reduceMul, Nat.zero_mul, Nat.reduceMod, Int.reduceEq, Int.reduceLT, Int.reduceLE, Nat.reduceLT, Nat.lt_irrefl, Nat.reduceBEq, tys0, tys1, tys2, tys3, tys4, tys5, tys6, tys7, tys8, tys9, tys10, tys11, tys12, tys13, tys14, tys15, tys16, tys17, tys18, Try.ntmps77, Try.results77, e1, e2, Int.toNat_natCast, Int.natCast_nonneg]
      refine ⟨[0, 1, 2, 3, 4, 5, 6], by kernel_rfl, ?_⟩
      simp only [run0, run1, run2, run3, run4, run5, run6, run7, run8, run9, run10, run11, run12, run13, run14, run15, run16, run17, run18, run19, run20, run21, run22, reduceCtorEq, Nat.reduceEqDiff, Nat.reduceAdd, Nat.reduceSub, Nat.reduceLeDiff, indexAddrA, indexRefA, appendA, strA, Nat.reduceMul, Nat.zero_mul, Nat.reduceMod, Int.reduceEq, Int.reduceLT, Int.reduceLE, Nat.reduceLT, Nat.lt_irrefl, Nat.reduceBEq, tys0, tys1, tys2, tys3, tys4, tys5, tys6, tys7, tys8, tys9, tys10, tys11, tys12, tys13, tys14, tys15, tys16, tys17, tys18, Try.ntmps77, Try.results77]
      refine RunL.callp rfl rfl ok_f77 hrec (by simp only [pureL, pureB, ints_pure, Bool.and_self, Bool.and_true, Bool.true_and]) rfl ?_
      simp only [run0, run1, run2, run3, run4, run5, run6, run7, run8, run9, run10, run11, run12, run13, run14, run15, run16, run17, run18, run19, run20, run21, run22, reduceCtorEq, Nat.reduceEqDiff, Nat.reduceAdd, Nat.reduceSub, Nat.reduceLeDiff, indexAddrA, indexRefA, appendA, strA, Nat.reduceMul, Nat.zero_mul, Nat.reduceMod, Int.reduceEq, Int.reduceLT, Int.reduceLE, Nat.reduceLT, Nat.lt_irrefl, Nat.reduceBEq, tys0, tys1, tys2, tys3, tys4, tys5, tys6, tys7, tys8, tys9, tys10, tys11, tys12, tys13, tys14, tys15, tys16, tys17, tys18, Try.ntmps77, Try.results77, av]
      refine RunL.callp rfl rfl ok_f111 (hms) (by first | rfl | simp only [pureL, pureB, Bool.and_self, Bool.and_true, Bool.true_and, Od.elems_pure, Od.pay_pure, Od.av_pure]) rfl ?_
      simp only [run0, run1, run2, run3, run4, run5, run6, run7, run8, run9, run10, run11, run12, run13, run14, run15, run16, run17, run18, run19, run20, run21, run22, reduceCtorEq, Nat.reduceEqDiff, Nat.reduceAdd, Nat.reduceSub, Nat.reduceLeDiff, indexAddrA, indexRefA, appendA, strA, Nat.reduceMul, Nat.zero_mul, Nat.reduceMod, Int.reduceEq, Int.reduceLT, Int.reduceLE, Nat.reduceLT, Nat.lt_irrefl, Nat.reduceBEq, tys0, tys1, tys2, tys3, tys4, tys5, tys6, tys7, tys8, tys9, tys10, tys11, tys12, tys13, tys14, tys15, tys16, tys17, tys18, Try.ntmps77, Try.results77, av, e5]
      refine ⟨⟨d ++ [c], r, X⟩, by rw [ha]; simp, by simp, by simp only [List.length_append, List.length_cons, List.length_nil]; repeat constructor, ?_⟩
      rw [foL_app, ordFo_app]; rfl
termination_by n

end Go.Proofs.Ytphmkhaboghagaa
/-
  Lists of whole numbers that come in.
-/
namespace Go.Proofs.Ytphmkhaboghagaa
open Go K
set_option linter.unusedSimpArgs false
set_option linter.unusedVariables false

theorem ints_in : ∀ es : List AV, (∀ x ∈ es, IsOf Try.prog 3 x) → ∃ l : List Int, es = ints l
  | [], _ => ⟨[], rfl⟩
  | x :: es, hes => by
    obtain ⟨l, rfl⟩ := ints_in es fun y hy => hes y (List.mem_cons_of_mem _ hy)
    obtain ⟨_, h⟩ := (hes x (List.mem_cons_self ..)).one ty_a3
    obtain ⟨n, e, _⟩ := h.int Try.underlying3
    simp at e
    subst e
    exact ⟨n :: l, rfl⟩
theorem szN_spec (n : Nat) (k : Int) : (0 ≤ k - n ∧ szN n k = k - n) ∨ (k - n < 0 ∧ szN n k = -1) := by
  unfold szN
  by_cases h : k - n < 0
  · exact .inr ⟨h, if_pos h⟩
  · exact .inl ⟨by omega, if_neg h⟩
theorem mx_len : maxLen = 9223372036854775807 := by decide

end Go.Proofs.Ytphmkhaboghagaa
/-
  Hydras: their sizes, their copies; the law of which have the same ordinal.
-/
namespace Go.Proofs.Ytphmkhaboghagaa
open Go K Od
set_option linter.unusedSimpArgs false
set_option linter.unusedVariables false
set_option maxHeartbeats 1600000
set_option maxRecDepth 8000

def hyA (P : List Int) : AV := .agg [.sl false (ints P)]
theorem hyA_pure (P : List Int) : pureB (hyA P) = true := by simp only [hyA, pureB, pureL, ints_pure, Bool.and_self]
theorem laws_isHy {x : AV} (h : IsOf Try.prog 57 x) : ∃ P : List Int, x = hyA P ∧ P.length ≤ 9223372036854775807 := by
  obtain ⟨n, cs, rfl, hl, h⟩ := h.agg ty_a57
  rw [ty_c57] at hl
  match cs, hl with
  | [y], _ =>
    obtain ⟨m, h0⟩ := h.field ty_f57_0
    rw [ty_c55] at h0
    simp only [List.drop_zero, List.take_succ_cons, List.take_zero] at h0
    obtain ⟨es, e0, hel, hes⟩ := h0.slice Try.underlying55
    simp only [List.cons.injEq, and_true] at e0
    subst e0
    obtain ⟨l, rfl⟩ := ints_in es hes
    rw [mx_len] at hel
    exact ⟨l, rfl, by simpa using hel⟩
theorem szHydra_ok (P : List Int) (k : Int) (hl : P.length ≤ 9223372036854775807) (h0 : 0 ≤ k) (h1 : k ≤ 1048576) : Ct Try.prog 34 [hyA P, .int .i64 k] [] (.int .i64 (szN P.length k)) [] := by
  refine Ct.by_ hmix [] Try.func34 rfl ?_
  simp only [run0, run1, run2, run3, run4, run5, run6, run7, run8, run9, run10, run11, run12, run13, run14, run15, run16, run17, run18, run19, run20, run21, run22, reduceCtorEq, Nat.reduceEqDiff, Nat.reduceAdd, Nat.reduceSub, Nat.reduceLeDiff, indexAddrA, indexRefA, appendA, strA, Nat.reduceMul, Nat.zero_mul, Nat.reduceMod, Int.reduceEq, Int.reduceLT, Int.reduceLE, Nat.reduceLT, Nat.lt_irrefl, Nat.reduceBEq, tys0, tys1, tys2, tys3, tys4, tys5, tys6, tys7, tys8, tys9, tys10, tys11, tys12, tys13, tys14, tys15, tys16, tys17, tys18, Try.ntmps34, Try.results34, hyA]
  refine RunL.callp rfl rfl ok_f75 (szIntS_ok P k hl h0 h1) (by simp only [pureL, pureB, ints_pure, Bool.and_self, Bool.and_true, Bool.true_and]) rfl ?_
  rcases szN_spec P.length k with ⟨h2, h3⟩ | ⟨h2, h3⟩
  · have e : ¬ szN P.length k < 0 := by omega
    simp only [run0, run1, run2, run3, run4, run5, run6, run7, run8, run9, run10, run11, run12, run13, run14, run15, run16, run17, run18, run19, run20, run21, run22, reduceCtorEq, Nat.reduceEqDiff, Nat.reduceAdd, Nat.reduceSub, Nat.reduceLeDiff, indexAddrA, indexRefA, appendA, strA, Nat.reduceMul, Nat.zero_mul, Nat.reduceMod, Int.reduceEq, Int.reduceLT, Int.reduceLE, Nat.reduceLT, Nat.lt_irrefl, Nat.reduceBEq, tys0, tys1, tys2, tys3, tys4, tys5, tys6, tys7, tys8, tys9, tys10, tys11, tys12, tys13, tys14, tys15, tys16, tys17, tys18, Try.ntmps34, Try.results34, e]
    exact Fin.eq rfl rfl
  · have e : szN P.length k < 0 := by omega
    simp only [run0, run1, run2, run3, run4, run5, run6, run7, run8, run9, run10, run11, run12, run13, run14, run15, run16, run17, run18, run19, run20, run21, run22, reduceCtorEq, Nat.reduceEqDiff, Nat.reduceAdd, Nat.reduceSub, Nat.reduceLeDiff, indexAddrA, indexRefA, appendA, strA, Nat.reduceMul, Nat.zero_mul, Nat.reduceMod, Int.reduceEq, Int.reduceLT, Int.reduceLE, Nat.reduceLT, Nat.lt_irrefl, Nat.reduceBEq, tys0, tys1, tys2, tys3, tys4, tys5, tys6, tys7, tys8, tys9, tys10, tys11, tys12, tys13, tys14, tys15, tys16, tys17, tys18, Try.ntmps34, Try.results34, e]
    exact Fin.eq (by rw [h3]) rfl
theorem toHydra_ok (P : List Int) (hl : P.length ≤ 1048576) : Ct Try.prog 36 [hyA P] [] (hyA P) [] := by
  refine Ct.by_ hmix [] Try.func36 rfl ?_
  simp only [run0, run1, run2, run3, run4, run5, run6, run7, run8, run9, run10, run11, run12, run13, run14, run15, run16, run17, run18, run19, run20, run21, run22, reduceCtorEq, Nat.reduceEqDiff, Nat.reduceAdd, Nat.reduceSub, Nat.reduceLeDiff, indexAddrA, indexRefA, appendA, strA, Nat.reduceMul, Nat.zero_mul, Nat.reduceMod, Int.reduceEq, Int.reduceLT, Int.reduceLE, Nat.reduceLT, Nat.lt_irrefl, Nat.reduceBEq, tys0, tys1, tys2, tys3, tys4, tys5, tys6, tys7, tys8, tys9, tys10, tys11, tys12, tys13, tys14, tys15, tys16, tys17, tys18, Try.ntmps36, Try.results36, hyA]
  refine RunL.callp rfl rfl ok_f78 (toIntS_ok P hl) (by simp only [pureL, pureB, ints_pure, Bool.and_self, Bool.and_true, Bool.true_and]) rfl ?_
  simp only [run0, run1, run2, run3, run4, run5, run6, run7, run8, run9, run10, run11, run12, run13, run14, run15, run16, run17, run18, run19, run20, run21, run22, reduceCtorEq, Nat.reduceEqDiff, Nat.reduceAdd, Nat.reduceSub, Nat.reduceLeDiff, indexAddrA, indexRefA, appendA, strA, Nat.reduceMul, Nat.zero_mul, Nat.reduceMod, Int.reduceEq, Int.reduceLT, Int.reduceLE, Nat.reduceLT, Nat.lt_irrefl, Nat.reduceBEq, tys0, tys1, tys2, tys3, tys4, tys5, tys6, tys7, tys8, tys9, tys10, tys11, tys12, tys13, tys14, tys15, tys16, tys17, tys18, Try.ntmps36, Try.results36]
  exact Fin.eq rfl (by simp only [pureB, pureL, ints_pure, Bool.and_self, Bool.and_true, Bool.true_and])
theorem eqHydra_ok (P : List Int) (hl : P.length ≤ 1048576) : Ct Try.prog 38 [hyA P, hyA P] [] (.bool true) [] := by
  refine Ct.by_ hmix [] Try.func38 rfl ?_
  simp only [run0, run1, run2, run3, run4, run5, run6, run7, run8, run9, run10, run11, run12, run13, run14, run15, run16, run17, run18, run19, run20, run21, run22, reduceCtorEq, Nat.reduceEqDiff, Nat.reduceAdd, Nat.reduceSub, Nat.reduceLeDiff, indexAddrA, indexRefA, appendA, strA, Nat.reduceMul, Nat.zero_mul, Nat.reduceMod, Int.reduceEq, Int.reduceLT, Int.reduceLE, Nat.reduceLT, Nat.lt_irrefl, Nat.reduceBEq, tys0, tys1, tys2, tys3, tys4, tys5, tys6, tys7, tys8, tys9, tys10, tys11, tys12, tys13, tys14, tys15, tys16, tys17, tys18, Try.ntmps38, Try.results38, hyA]
  refine RunL.callp rfl rfl ok_f82 (eqIntS_ok P hl) (by simp only [pureL, pureB, ints_pure, Bool.and_self, Bool.and_true, Bool.true_and]) rfl ?_
  simp only [run0, run1, run2, run3, run4, run5, run6, run7, run8, run9, run10, run11, run12, run13, run14, run15, run16, run17, run18, run19, run20, run21, run22, reduceCtorEq, Nat.reduceEqDiff, Nat.reduceAdd, Nat.reduceSub, Nat.reduceLeDiff, indexAddrA, indexRefA, appendA, strA, Nat.reduceMul, Nat.zero_mul, Nat.reduceMod, Int.reduceEq, Int.reduceLT, Int.reduceLE, Nat.reduceLT, Nat.lt_irrefl, Nat.reduceBEq, tys0, tys1, tys2, tys3, tys4, tys5, tys6, tys7, tys8, tys9, tys10, tys11, tys12, tys13, tys14, tys15, tys16, tys17, tys18, Try.ntmps38, Try.results38]
  exact Fin.eq rfl rfl

def ordH (P : List Int) : Od := ordFo .nil (fo P P.length 0)
def sameB (P Q : List Int) : Bool := hydB P && hydB Q && (cmpT (ordH P) (ordH Q) == 0)
theorem hyd_len {P : List Int} (h : hydB P = true) : 1 ≤ P.length := by
  cases P with
  | nil => simp [hydB] at h
  | cons p r => simp
theorem ordH_sz {P : List Int} (h : hydB P = true) : (ordH P).sz ≤ 40 ∧ rng (ordH P) ∧ (fo P P.length 0).sz ≤ 40 := by
  obtain ⟨h1, h2⟩ := hydB_par h
  have h3 := fo_small h1 P.length 0
  have h4 := ordFo_sz (fo P P.length 0) .nil
  have h5 := ordFo_pos (fo P P.length 0) .nil 0 (by omega) (by omega) trivial
  have h6 := len_sz (fo P P.length 0)
  simp only [Od.sz] at h4
  exact ⟨by unfold ordH; omega, pos_rng (by omega) h5, by omega⟩
theorem nodeV0 (P : List Int) (h : hydB P = true) : ((List.range P.length).map (nodeV P))[0]? = some (.rptr (.agg [.int .i64 0, .sl false (Fo.els (fo P P.length 0))]) 0) := by
  have := hyd_len h
  rw [List.getElem?_map, List.getElem?_range (by omega)]
  rfl
theorem nodes_pure (P : List Int) : ∀ l : List Nat, pureL (l.map (nodeV P)) = true
  | [] => rfl
  | j :: l => by simp only [List.map_cons, nodeV, pureL, pureB, Fo.els_pure, nodes_pure P l, Bool.and_self, Bool.and_true, Bool.true_and]

theorem implSame_ok (P Q : List Int) (hP : P.length ≤ 1048576) (hQ : Q.length ≤ 1048576) : Ct Try.prog 37 [hyA P, hyA Q] [] (.tup [.bool (sameB P Q), .bool (hydB P && hydB Q)]) [] := by
  have pP := hyA_pure P
  have pQ := hyA_pure Q
  simp only [hyA] at pP pQ
  refine Ct.by_ hmix [] Try.func37 rfl ?_
  simp only [run0, run1, run2, run3, run4, run5, run6, run7, run8, run9, run10, run11, run12, run13, run14, run15, run16, run17, run18, run19, run20, run21, run22, reduceCtorEq, Nat.reduceEqDiff, Nat.reduceAdd, Nat.reduceSub, Nat.reduceLeDiff, indexAddrA, indexRefA, appendA, strA, Nat.reduceMul, Nat.zero_mul, Nat.reduceMod, Int.reduceEq, Int.reduceLT, Int.reduceLE, Nat.reduceLT, Nat.lt_irrefl, Nat.reduceBEq, tys0, tys1, tys2, tys3, tys4, tys5, tys6, tys7, tys8, tys9, tys10, tys11, tys12, tys13, tys14, tys15, tys16, tys17, tys18, Try.ntmps37, Try.results37, hyA]
  refine RunL.callp rfl rfl ok_f79 (implHydra_ok P hP) (by simp only [pureL, pP, Bool.and_self]) rfl ?_
  cases h1 : hydB P
  · simp only [run0, run1, run2, run3, run4, run5, run6, run7, run8, run9, run10, run11, run12, run13, run14, run15, run16, run17, run18, run19, run20, run21, run22, reduceCtorEq, Nat.reduceEqDiff, Nat.reduceAdd, Nat.reduceSub, Nat.reduceLeDiff, indexAddrA, indexRefA, appendA, strA, Nat.reduceMul, Nat.zero_mul, Nat.reduceMod, Int.reduceEq, Int.reduceLT, Int.reduceLE, Nat.reduceLT, Nat.lt_irrefl, Nat.reduceBEq, tys0, tys1, tys2, tys3, tys4, tys5, tys6, tys7, tys8, tys9, tys10, tys11, tys12, tys13, tys14, tys15, tys16, tys17, tys18, Try.ntmps37, Try.results37]
    exact Fin.eq (by simp [sameB, h1]) rfl
  simp only [run0, run1, run2, run3, run4, run5, run6, run7, run8, run9, run10, run11, run12, run13, run14, run15, run16, run17, run18, run19, run20, run21, run22, reduceCtorEq, Nat.reduceEqDiff, Nat.reduceAdd, Nat.reduceSub, Nat.reduceLeDiff, indexAddrA, indexRefA, appendA, strA, Nat.reduceMul, Nat.zero_mul, Nat.reduceMod, Int.reduceEq, Int.reduceLT, Int.reduceLE, Nat.reduceLT, Nat.lt_irrefl, Nat.reduceBEq, tys0, tys1, tys2, tys3, tys4, tys5, tys6, tys7, tys8, tys9, tys10, tys11, tys12, tys13, tys14, tys15, tys16, tys17, tys18, Try.ntmps37, Try.results37]
  refine RunL.callp rfl rfl ok_f79 (implHydra_ok Q hQ) (by simp only [pureL, pQ, Bool.and_self]) rfl ?_
  cases h2 : hydB Q
  · simp only [run0, run1, run2, run3, run4, run5, run6, run7, run8, run9, run10, run11, run12, run13, run14, run15, run16, run17, run18, run19, run20, run21, run22, reduceCtorEq, Nat.reduceEqDiff, Nat.reduceAdd, Nat.reduceSub, Nat.reduceLeDiff, indexAddrA, indexRefA, appendA, strA, Nat.reduceMul, Nat.zero_mul, Nat.reduceMod, Int.reduceEq, Int.reduceLT, Int.reduceLE, Nat.reduceLT, Nat.lt_irrefl, Nat.reduceBEq, tys0, tys1, tys2, tys3, tys4, tys5, tys6, tys7, tys8, tys9, tys10, tys11, tys12, tys13, tys14, tys15, tys16, tys17, tys18, Try.ntmps37, Try.results37]
    exact Fin.eq (by simp [sameB, h2]) rfl
  have n1 := nodeV0 P h1
  have n2 := nodeV0 Q h2
  obtain ⟨a1, a2, a3⟩ := ordH_sz h1
  obtain ⟨b1, b2, b3⟩ := ordH_sz h2
  simp only [run0, run1, run2, run3, run4, run5, run6, run7, run8, run9, run10, run11, run12, run13, run14, run15, run16, run17, run18, run19, run20, run21, run22, reduceCtorEq, Nat.reduceEqDiff, Nat.reduceAdd, Nat.reduceSub, Nat.reduceLeDiff, indexAddrA, indexRefA, appendA, strA, Nat.reduceMul, Nat.zero_mul, Nat.reduceMod, Int.reduceEq, Int.reduceLT, Int.reduceLE, Nat.reduceLT, Nat.lt_irrefl, Nat.reduceBEq, tys0, tys1, tys2, tys3, tys4, tys5, tys6, tys7, tys8, tys9, tys10, tys11, tys12, tys13, tys14, tys15, tys16, tys17, tys18, Try.ntmps37, Try.results37]
  refine ⟨by kernel_rfl, ?_⟩
  refine RunL.callp rfl rfl ok_f80 (treeOf_ok P h1) (by simp only [pureL, pP, Bool.and_self]) rfl ?_
  simp only [run0, run1, run2, run3, run4, run5, run6, run7, run8, run9, run10, run11, run12, run13, run14, run15, run16, run17, run18, run19, run20, run21, run22, reduceCtorEq, Nat.reduceEqDiff, Nat.reduceAdd, Nat.reduceSub, Nat.reduceLeDiff, indexAddrA, indexRefA, appendA, strA, Nat.reduceMul, Nat.zero_mul, Nat.reduceMod, Int.reduceEq, Int.reduceLT, Int.reduceLE, Nat.reduceLT, Nat.lt_irrefl, Nat.reduceBEq, tys0, tys1, tys2, tys3, tys4, tys5, tys6, tys7, tys8, tys9, tys10, tys11, tys12, tys13, tys14, tys15, tys16, tys17, tys18, Try.ntmps37, Try.results37, n1, Int.toNat_zero, Int.le_refl]
  refine RunL.callp rfl rfl ok_f81 (ordinal_ok _ 0 a3) (by simp only [pureL, pureB, Fo.els_pure, Bool.and_self, Bool.and_true, Bool.true_and]) rfl ?_
  simp only [run0, run1, run2, run3, run4, run5, run6, run7, run8, run9, run10, run11, run12, run13, run14, run15, run16, run17, run18, run19, run20, run21, run22, reduceCtorEq, Nat.reduceEqDiff, Nat.reduceAdd, Nat.reduceSub, Nat.reduceLeDiff, indexAddrA, indexRefA, appendA, strA, Nat.reduceMul, Nat.zero_mul, Nat.reduceMod, Int.reduceEq, Int.reduceLT, Int.reduceLE, Nat.reduceLT, Nat.lt_irrefl, Nat.reduceBEq, tys0, tys1, tys2, tys3, tys4, tys5, tys6, tys7, tys8, tys9, tys10, tys11, tys12, tys13, tys14, tys15, tys16, tys17, tys18, Try.ntmps37, Try.results37]
  refine RunL.callp rfl rfl ok_f80 (treeOf_ok Q h2) (by simp only [pureL, pQ, Bool.and_self]) rfl ?_
  simp only [run0, run1, run2, run3, run4, run5, run6, run7, run8, run9, run10, run11, run12, run13, run14, run15, run16, run17, run18, run19, run20, run21, run22, reduceCtorEq, Nat.reduceEqDiff, Nat.reduceAdd, Nat.reduceSub, Nat.reduceLeDiff, indexAddrA, indexRefA, appendA, strA, Nat.reduceMul, Nat.zero_mul, Nat.reduceMod, Int.reduceEq, Int.reduceLT, Int.reduceLE, Nat.reduceLT, Nat.lt_irrefl, Nat.reduceBEq, tys0, tys1, tys2, tys3, tys4, tys5, tys6, tys7, tys8, tys9, tys10, tys11, tys12, tys13, tys14, tys15, tys16, tys17, tys18, Try.ntmps37, Try.results37, n2, Int.toNat_zero, Int.le_refl]
  refine RunL.callp rfl rfl ok_f81 (ordinal_ok _ 0 b3) (by simp only [pureL, pureB, Fo.els_pure, Bool.and_self, Bool.and_true, Bool.true_and]) rfl ?_
  simp only [run0, run1, run2, run3, run4, run5, run6, run7, run8, run9, run10, run11, run12, run13, run14, run15, run16, run17, run18, run19, run20, run21, run22, reduceCtorEq, Nat.reduceEqDiff, Nat.reduceAdd, Nat.reduceSub, Nat.reduceLeDiff, indexAddrA, indexRefA, appendA, strA, Nat.reduceMul, Nat.zero_mul, Nat.reduceMod, Int.reduceEq, Int.reduceLT, Int.reduceLE, Nat.reduceLT, Nat.lt_irrefl, Nat.reduceBEq, tys0, tys1, tys2, tys3, tys4, tys5, tys6, tys7, tys8, tys9, tys10, tys11, tys12, tys13, tys14, tys15, tys16, tys17, tys18, Try.ntmps37, Try.results37]
  refine RunL.callp rfl rfl ok_f71 (cmp_ok (ordH P) (ordH Q) (by omega) (by omega)) (by first | rfl | simp only [pureL, pureB, Bool.and_self, Bool.and_true, Bool.true_and, Od.elems_pure, Od.pay_pure, Od.av_pure]) rfl ?_
  simp only [run0, run1, run2, run3, run4, run5, run6, run7, run8, run9, run10, run11, run12, run13, run14, run15, run16, run17, run18, run19, run20, run21, run22, reduceCtorEq, Nat.reduceEqDiff, Nat.reduceAdd, Nat.reduceSub, Nat.reduceLeDiff, indexAddrA, indexRefA, appendA, strA, Nat.reduceMul, Nat.zero_mul, Nat.reduceMod, Int.reduceEq, Int.reduceLT, Int.reduceLE, Nat.reduceLT, Nat.lt_irrefl, Nat.reduceBEq, tys0, tys1, tys2, tys3, tys4, tys5, tys6, tys7, tys8, tys9, tys10, tys11, tys12, tys13, tys14, tys15, tys16, tys17, tys18, Try.ntmps37, Try.results37]
  exact Fin.eq (by simp [sameB, h1, h2]) rfl

theorem specSame_ok (P Q : List Int) (hP : P.length ≤ 1048576) (hQ : Q.length ≤ 1048576) : Ct Try.prog 35 [hyA P, hyA Q] [] (.tup [.bool (sameB P Q), .bool (hydB P && hydB Q)]) [] := by
  have pP := hyA_pure P
  have pQ := hyA_pure Q
  simp only [hyA] at pP pQ
  refine Ct.by_ hmix [] Try.func35 rfl ?_
  simp only [run0, run1, run2, run3, run4, run5, run6, run7, run8, run9, run10, run11, run12, run13, run14, run15, run16, run17, run18, run19, run20, run21, run22, reduceCtorEq, Nat.reduceEqDiff, Nat.reduceAdd, Nat.reduceSub, Nat.reduceLeDiff, indexAddrA, indexRefA, appendA, strA, Nat.reduceMul, Nat.zero_mul, Nat.reduceMod, Int.reduceEq, Int.reduceLT, Int.reduceLE, Nat.reduceLT, Nat.lt_irrefl, Nat.reduceBEq, tys0, tys1, tys2, tys3, tys4, tys5, tys6, tys7, tys8, tys9, tys10, tys11, tys12, tys13, tys14, tys15, tys16, tys17, tys18, Try.ntmps35, Try.results35, hyA]
  refine RunL.callp rfl rfl ok_f76 (specHydra_ok P hP) (by simp only [pureL, pP, Bool.and_self]) rfl ?_
  cases h1 : hydB P
  · simp only [run0, run1, run2, run3, run4, run5, run6, run7, run8, run9, run10, run11, run12, run13, run14, run15, run16, run17, run18, run19, run20, run21, run22, reduceCtorEq, Nat.reduceEqDiff, Nat.reduceAdd, Nat.reduceSub, Nat.reduceLeDiff, indexAddrA, indexRefA, appendA, strA, Nat.reduceMul, Nat.zero_mul, Nat.reduceMod, Int.reduceEq, Int.reduceLT, Int.reduceLE, Nat.reduceLT, Nat.lt_irrefl, Nat.reduceBEq, tys0, tys1, tys2, tys3, tys4, tys5, tys6, tys7, tys8, tys9, tys10, tys11, tys12, tys13, tys14, tys15, tys16, tys17, tys18, Try.ntmps35, Try.results35]
    exact Fin.eq (by simp [sameB, h1]) rfl
  simp only [run0, run1, run2, run3, run4, run5, run6, run7, run8, run9, run10, run11, run12, run13, run14, run15, run16, run17, run18, run19, run20, run21, run22, reduceCtorEq, Nat.reduceEqDiff, Nat.reduceAdd, Nat.reduceSub, Nat.reduceLeDiff, indexAddrA, indexRefA, appendA, strA, Nat.reduceMul, Nat.zero_mul, Nat.reduceMod, Int.reduceEq, Int.reduceLT, Int.reduceLE, Nat.reduceLT, Nat.lt_irrefl, Nat.reduceBEq, tys0, tys1, tys2, tys3, tys4, tys5, tys6, tys7, tys8, tys9, tys10, tys11, tys12, tys13, tys14, tys15, tys16, tys17, tys18, Try.ntmps35, Try.results35]
  refine RunL.callp rfl rfl ok_f76 (specHydra_ok Q hQ) (by simp only [pureL, pQ, Bool.and_self]) rfl ?_
  cases h2 : hydB Q
  · simp only [run0, run1, run2, run3, run4, run5, run6, run7, run8, run9, run10, run11, run12, run13, run14, run15, run16, run17, run18, run19, run20, run21, run22, reduceCtorEq, Nat.reduceEqDiff, Nat.reduceAdd, Nat.reduceSub, Nat.reduceLeDiff, indexAddrA, indexRefA, appendA, strA, Nat.reduceMul, Nat.zero_mul, Nat.reduceMod, Int.reduceEq, Int.reduceLT, Int.reduceLE, Nat.reduceLT, Nat.lt_irrefl, Nat.reduceBEq, tys0, tys1, tys2, tys3, tys4, tys5, tys6, tys7, tys8, tys9, tys10, tys11, tys12, tys13, tys14, tys15, tys16, tys17, tys18, Try.ntmps35, Try.results35]
    exact Fin.eq (by simp [sameB, h2]) rfl
  obtain ⟨a1, a2, a3⟩ := ordH_sz h1
  obtain ⟨b1, b2, b3⟩ := ordH_sz h2
  have l1 := hyd_len h1
  have l2 := hyd_len h2
  simp only [run0, run1, run2, run3, run4, run5, run6, run7, run8, run9, run10, run11, run12, run13, run14, run15, run16, run17, run18, run19, run20, run21, run22, reduceCtorEq, Nat.reduceEqDiff, Nat.reduceAdd, Nat.reduceSub, Nat.reduceLeDiff, indexAddrA, indexRefA, appendA, strA, Nat.reduceMul, Nat.zero_mul, Nat.reduceMod, Int.reduceEq, Int.reduceLT, Int.reduceLE, Nat.reduceLT, Nat.lt_irrefl, Nat.reduceBEq, tys0, tys1, tys2, tys3, tys4, tys5, tys6, tys7, tys8, tys9, tys10, tys11, tys12, tys13, tys14, tys15, tys16, tys17, tys18, Try.ntmps35, Try.results35]
  refine ⟨by kernel_rfl, ?_⟩
  refine RunL.callp rfl rfl ok_f77 (deOrdinal_ok P (hydB_par h1).1 (hydB_par h1).2 P.length 0 (by omega) (by omega)) (by simp only [pureL, pureB, ints_pure, Bool.and_self]) rfl ?_
  simp only [run0, run1, run2, run3, run4, run5, run6, run7, run8, run9, run10, run11, run12, run13, run14, run15, run16, run17, run18, run19, run20, run21, run22, reduceCtorEq, Nat.reduceEqDiff, Nat.reduceAdd, Nat.reduceSub, Nat.reduceLeDiff, indexAddrA, indexRefA, appendA, strA, Nat.reduceMul, Nat.zero_mul, Nat.reduceMod, Int.reduceEq, Int.reduceLT, Int.reduceLE, Nat.reduceLT, Nat.lt_irrefl, Nat.reduceBEq, tys0, tys1, tys2, tys3, tys4, tys5, tys6, tys7, tys8, tys9, tys10, tys11, tys12, tys13, tys14, tys15, tys16, tys17, tys18, Try.ntmps35, Try.results35]
  refine RunL.callp rfl rfl ok_f77 (deOrdinal_ok Q (hydB_par h2).1 (hydB_par h2).2 Q.length 0 (by omega) (by omega)) (by simp only [pureL, pureB, ints_pure, Bool.and_self]) rfl ?_
  simp only [run0, run1, run2, run3, run4, run5, run6, run7, run8, run9, run10, run11, run12, run13, run14, run15, run16, run17, run18, run19, run20, run21, run22, reduceCtorEq, Nat.reduceEqDiff, Nat.reduceAdd, Nat.reduceSub, Nat.reduceLeDiff, indexAddrA, indexRefA, appendA, strA, Nat.reduceMul, Nat.zero_mul, Nat.reduceMod, Int.reduceEq, Int.reduceLT, Int.reduceLE, Nat.reduceLT, Nat.lt_irrefl, Nat.reduceBEq, tys0, tys1, tys2, tys3, tys4, tys5, tys6, tys7, tys8, tys9, tys10, tys11, tys12, tys13, tys14, tys15, tys16, tys17, tys18, Try.ntmps35, Try.results35]
  refine RunL.callp rfl rfl ok_f68 (odCmp_ok (ordH P) (ordH Q) (by omega) (by omega) a2 b2) (by first | rfl | simp only [pureL, pureB, Bool.and_self, Bool.and_true, Bool.true_and, Od.elems_pure, Od.pay_pure, Od.av_pure]) rfl ?_
  simp only [run0, run1, run2, run3, run4, run5, run6, run7, run8, run9, run10, run11, run12, run13, run14, run15, run16, run17, run18, run19, run20, run21, run22, reduceCtorEq, Nat.reduceEqDiff, Nat.reduceAdd, Nat.reduceSub, Nat.reduceLeDiff, indexAddrA, indexRefA, appendA, strA, Nat.reduceMul, Nat.zero_mul, Nat.reduceMod, Int.reduceEq, Int.reduceLT, Int.reduceLE, Nat.reduceLT, Nat.lt_irrefl, Nat.reduceBEq, tys0, tys1, tys2, tys3, tys4, tys5, tys6, tys7, tys8, tys9, tys10, tys11, tys12, tys13, tys14, tys15, tys16, tys17, tys18, Try.ntmps35, Try.results35]
  exact Fin.eq (by simp [sameB, h1, h2]) rfl

theorem FnExactSameHydra_ok {a0 a1 : AV} (h0 : IsOf Try.prog 57 a0) (h1 : IsOf Try.prog 57 a1) : Ct Try.prog 8 [a0, a1] [] (.bool true) [] := by
  obtain ⟨P, rfl, hP⟩ := laws_isHy h0
  obtain ⟨Q, rfl, hQ⟩ := laws_isHy h1
  have pP := hyA_pure P
  have pQ := hyA_pure Q
  refine Ct.by_ hmix [] Try.func8 rfl ?_
  simp only [run0, run1, run2, run3, run4, run5, run6, run7, run8, run9, run10, run11, run12, run13, run14, run15, run16, run17, run18, run19, run20, run21, run22, reduceCtorEq, Nat.reduceEqDiff, Nat.reduceAdd, Nat.reduceSub, Nat.reduceLeDiff, indexAddrA, indexRefA, appendA, strA, Nat.reduceMul, Nat.zero_mul, Nat.reduceMod, Int.reduceEq, Int.reduceLT, Int.reduceLE, Nat.reduceLT, Nat.lt_irrefl, Nat.reduceBEq, tys0, tys1, tys2, tys3, tys4, tys5, tys6, tys7, tys8, tys9, tys10, tys11, tys12, tys13, tys14, tys15, tys16, tys17, tys18, Try.ntmps8, Try.results8, hyA]
  refine RunL.callp rfl rfl ok_f34 (szHydra_ok P 1048576 hP (by omega) (by omega)) (by simp only [pureL, pureB, pP, Bool.and_self]) rfl ?_
  rcases szN_spec P.length 1048576 with ⟨g1, g2⟩ | ⟨g1, g2⟩
  case inr =>
    have e1 : szN P.length 1048576 < 0 := by omega
    simp only [run0, run1, run2, run3, run4, run5, run6, run7, run8, run9, run10, run11, run12, run13, run14, run15, run16, run17, run18, run19, run20, run21, run22, reduceCtorEq, Nat.reduceEqDiff, Nat.reduceAdd, Nat.reduceSub, Nat.reduceLeDiff, indexAddrA, indexRefA, appendA, strA, Nat.reduceMul, Nat.zero_mul, Nat.reduceMod, Int.reduceEq, Int.reduceLT, Int.reduceLE, Nat.reduceLT, Nat.lt_irrefl, Nat.reduceBEq, tys0, tys1, tys2, tys3, tys4, tys5, tys6, tys7, tys8, tys9, tys10, tys11, tys12, tys13, tys14, tys15, tys16, tys17, tys18, Try.ntmps8, Try.results8, e1]
    exact Fin.eq rfl rfl
  have e1 : ¬ szN P.length 1048576 < 0 := by omega
  simp only [run0, run1, run2, run3, run4, run5, run6, run7, run8, run9, run10, run11, run12, run13, run14, run15, run16, run17, run18, run19, run20, run21, run22, reduceCtorEq, Nat.reduceEqDiff, Nat.reduceAdd, Nat.reduceSub, Nat.reduceLeDiff, indexAddrA, indexRefA, appendA, strA, Nat.reduceMul, Nat.zero_mul, Nat.reduceMod, Int.reduceEq, Int.reduceLT, Int.reduceLE, Nat.reduceLT, Nat.lt_irrefl, Nat.reduceBEq, tys0, tys1, tys2, tys3, tys4, tys5, tys6, tys7, tys8, tys9, tys10, tys11, tys12, tys13, tys14, tys15, tys16, tys17, tys18, Try.ntmps8, Try.results8, e1]
  refine RunL.callp rfl rfl ok_f34 (szHydra_ok Q (szN P.length 1048576) hQ (by omega) (by omega)) (by simp only [pureL, pureB, pQ, Bool.and_self]) rfl ?_
  rcases szN_spec Q.length (szN P.length 1048576) with ⟨k1, k2⟩ | ⟨k1, k2⟩
  case inr =>
    have e2 : szN Q.length (szN P.length 1048576) < 0 := by omega
    simp only [run0, run1, run2, run3, run4, run5, run6, run7, run8, run9, run10, run11, run12, run13, run14, run15, run16, run17, run18, run19, run20, run21, run22, reduceCtorEq, Nat.reduceEqDiff, Nat.reduceAdd, Nat.reduceSub, Nat.reduceLeDiff, indexAddrA, indexRefA, appendA, strA, Nat.reduceMul, Nat.zero_mul, Nat.reduceMod, Int.reduceEq, Int.reduceLT, Int.reduceLE, Nat.reduceLT, Nat.lt_irrefl, Nat.reduceBEq, tys0, tys1, tys2, tys3, tys4, tys5, tys6, tys7, tys8, tys9, tys10, tys11, tys12, tys13, tys14, tys15, tys16, tys17, tys18, Try.ntmps8, Try.results8, e2]
    exact Fin.eq rfl rfl
  have e2 : ¬ szN Q.length (szN P.length 1048576) < 0 := by omega
  have lP : P.length ≤ 1048576 := by omega
  have lQ : Q.length ≤ 1048576 := by omega
  simp only [run0, run1, run2, run3, run4, run5, run6, run7, run8, run9, run10, run11, run12, run13, run14, run15, run16, run17, run18, run19, run20, run21, run22, reduceCtorEq, Nat.reduceEqDiff, Nat.reduceAdd, Nat.reduceSub, Nat.reduceLeDiff, indexAddrA, indexRefA, appendA, strA, Nat.reduceMul, Nat.zero_mul, Nat.reduceMod, Int.reduceEq, Int.reduceLT, Int.reduceLE, Nat.reduceLT, Nat.lt_irrefl, Nat.reduceBEq, tys0, tys1, tys2, tys3, tys4, tys5, tys6, tys7, tys8, tys9, tys10, tys11, tys12, tys13, tys14, tys15, tys16, tys17, tys18, Try.ntmps8, Try.results8, e2]
  refine ⟨by kernel_rfl, ?_⟩
  refine RunL.callp rfl rfl ok_f36 (toHydra_ok P lP) (by simp only [pureL, pureB, pP, Bool.and_self]) rfl ?_
  simp only [run0, run1, run2, run3, run4, run5, run6, run7, run8, run9, run10, run11, run12, run13, run14, run15, run16, run17, run18, run19, run20, run21, run22, reduceCtorEq, Nat.reduceEqDiff, Nat.reduceAdd, Nat.reduceSub, Nat.reduceLeDiff, indexAddrA, indexRefA, appendA, strA, Nat.reduceMul, Nat.zero_mul, Nat.reduceMod, Int.reduceEq, Int.reduceLT, Int.reduceLE, Nat.reduceLT, Nat.lt_irrefl, Nat.reduceBEq, tys0, tys1, tys2, tys3, tys4, tys5, tys6, tys7, tys8, tys9, tys10, tys11, tys12, tys13, tys14, tys15, tys16, tys17, tys18, Try.ntmps8, Try.results8, hyA]
  refine RunL.callp rfl rfl ok_f36 (toHydra_ok Q lQ) (by simp only [pureL, pureB, pQ, Bool.and_self]) rfl ?_
  simp only [run0, run1, run2, run3, run4, run5, run6, run7, run8, run9, run10, run11, run12, run13, run14, run15, run16, run17, run18, run19, run20, run21, run22, reduceCtorEq, Nat.reduceEqDiff, Nat.reduceAdd, Nat.reduceSub, Nat.reduceLeDiff, indexAddrA, indexRefA, appendA, strA, Nat.reduceMul, Nat.zero_mul, Nat.reduceMod, Int.reduceEq, Int.reduceLT, Int.reduceLE, Nat.reduceLT, Nat.lt_irrefl, Nat.reduceBEq, tys0, tys1, tys2, tys3, tys4, tys5, tys6, tys7, tys8, tys9, tys10, tys11, tys12, tys13, tys14, tys15, tys16, tys17, tys18, Try.ntmps8, Try.results8, hyA]
  refine RunL.callp rfl rfl ok_f35 (specSame_ok P Q lP lQ) (by simp only [pureL, pP, pQ, Bool.and_self]) rfl ?_
  simp only [run0, run1, run2, run3, run4, run5, run6, run7, run8, run9, run10, run11, run12, run13, run14, run15, run16, run17, run18, run19, run20, run21, run22, reduceCtorEq, Nat.reduceEqDiff, Nat.reduceAdd, Nat.reduceSub, Nat.reduceLeDiff, indexAddrA, indexRefA, appendA, strA, Nat.reduceMul, Nat.zero_mul, Nat.reduceMod, Int.reduceEq, Int.reduceLT, Int.reduceLE, Nat.reduceLT, Nat.lt_irrefl, Nat.reduceBEq, tys0, tys1, tys2, tys3, tys4, tys5, tys6, tys7, tys8, tys9, tys10, tys11, tys12, tys13, tys14, tys15, tys16, tys17, tys18, Try.ntmps8, Try.results8, hyA]
  refine RunL.callp rfl rfl ok_f36 (toHydra_ok P lP) (by simp only [pureL, pureB, pP, Bool.and_self]) rfl ?_
  simp only [run0, run1, run2, run3, run4, run5, run6, run7, run8, run9, run10, run11, run12, run13, run14, run15, run16, run17, run18, run19, run20, run21, run22, reduceCtorEq, Nat.reduceEqDiff, Nat.reduceAdd, Nat.reduceSub, Nat.reduceLeDiff, indexAddrA, indexRefA, appendA, strA, Nat.reduceMul, Nat.zero_mul, Nat.reduceMod, Int.reduceEq, Int.reduceLT, Int.reduceLE, Nat.reduceLT, Nat.lt_irrefl, Nat.reduceBEq, tys0, tys1, tys2, tys3, tys4, tys5, tys6, tys7, tys8, tys9, tys10, tys11, tys12, tys13, tys14, tys15, tys16, tys17, tys18, Try.ntmps8, Try.results8, hyA]
  refine RunL.callp rfl rfl ok_f36 (toHydra_ok Q lQ) (by simp only [pureL, pureB, pQ, Bool.and_self]) rfl ?_
  simp only [run0, run1, run2, run3, run4, run5, run6, run7, run8, run9, run10, run11, run12, run13, run14, run15, run16, run17, run18, run19, run20, run21, run22, reduceCtorEq, Nat.reduceEqDiff, Nat.reduceAdd, Nat.reduceSub, Nat.reduceLeDiff, indexAddrA, indexRefA, appendA, strA, Nat.reduceMul, Nat.zero_mul, Nat.reduceMod, Int.reduceEq, Int.reduceLT, Int.reduceLE, Nat.reduceLT, Nat.lt_irrefl, Nat.reduceBEq, tys0, tys1, tys2, tys3, tys4, tys5, tys6, tys7, tys8, tys9, tys10, tys11, tys12, tys13, tys14, tys15, tys16, tys17, tys18, Try.ntmps8, Try.results8, hyA]
  refine RunL.callp rfl rfl ok_f37 (implSame_ok P Q lP lQ) (by simp only [pureL, pP, pQ, Bool.and_self]) rfl ?_
  simp only [run0, run1, run2, run3, run4, run5, run6, run7, run8, run9, run10, run11, run12, run13, run14, run15, run16, run17, run18, run19, run20, run21, run22, reduceCtorEq, Nat.reduceEqDiff, Nat.reduceAdd, Nat.reduceSub, Nat.reduceLeDiff, indexAddrA, indexRefA, appendA, strA, Nat.reduceMul, Nat.zero_mul, Nat.reduceMod, Int.reduceEq, Int.reduceLT, Int.reduceLE, Nat.reduceLT, Nat.lt_irrefl, Nat.reduceBEq, tys0, tys1, tys2, tys3, tys4, tys5, tys6, tys7, tys8, tys9, tys10, tys11, tys12, tys13, tys14, tys15, tys16, tys17, tys18, Try.ntmps8, Try.results8, hyA, bne_self_eq_false]
  refine ⟨by kernel_rfl, ?_⟩
  refine RunL.callp rfl rfl ok_f36 (toHydra_ok P lP) (by simp only [pureL, pureB, pP, Bool.and_self]) rfl ?_
  simp only [run0, run1, run2, run3, run4, run5, run6, run7, run8, run9, run10, run11, run12, run13, run14, run15, run16, run17, run18, run19, run20, run21, run22, reduceCtorEq, Nat.reduceEqDiff, Nat.reduceAdd, Nat.reduceSub, Nat.reduceLeDiff, indexAddrA, indexRefA, appendA, strA, Nat.reduceMul, Nat.zero_mul, Nat.reduceMod, Int.reduceEq, Int.reduceLT, Int.reduceLE, Nat.reduceLT, Nat.lt_irrefl, Nat.reduceBEq, tys0, tys1, tys2, tys3, tys4, tys5, tys6, tys7, tys8, tys9, tys10, tys11, tys12, tys13, tys14, tys15, tys16, tys17, tys18, Try.ntmps8, Try.results8, hyA]
  refine RunL.callp rfl rfl ok_f38 (eqHydra_ok P lP) (by simp only [pureL, pP, pQ, Bool.and_self]) rfl ?_
  simp only [run0, run1, run2, run3, run4, run5, run6, run7, run8, run9, run10, run11, run12, run13, run14, run15, run16, run17, run18, run19, run20, run21, run22, reduceCtorEq, Nat.reduceEqDiff, Nat.reduceAdd, Nat.reduceSub, Nat.reduceLeDiff, indexAddrA, indexRefA, appendA, strA, Nat.reduceMul, Nat.zero_mul, Nat.reduceMod, Int.reduceEq, Int.reduceLT, Int.reduceLE, Nat.reduceLT, Nat.lt_irrefl, Nat.reduceBEq, tys0, tys1, tys2, tys3, tys4, tys5, tys6, tys7, tys8, tys9, tys10, tys11, tys12, tys13, tys14, tys15, tys16, tys17, tys18, Try.ntmps8, Try.results8, hyA]
  refine ⟨by kernel_rfl, ?_⟩
  refine RunL.callp rfl rfl ok_f36 (toHydra_ok Q lQ) (by simp only [pureL, pureB, pQ, Bool.and_self]) rfl ?_
  simp only [run0, run1, run2, run3, run4, run5, run6, run7, run8, run9, run10, run11, run12, run13, run14, run15, run16, run17, run18, run19, run20, run21, run22, reduceCtorEq, Nat.reduceEqDiff, Nat.reduceAdd, Nat.reduceSub, Nat.reduceLeDiff, indexAddrA, indexRefA, appendA, strA, Nat.reduceMul, Nat.zero_mul, Nat.reduceMod, Int.reduceEq, Int.reduceLT, Int.reduceLE, Nat.reduceLT, Nat.lt_irrefl, Nat.reduceBEq, tys0, tys1, tys2, tys3, tys4, tys5, tys6, tys7, tys8, tys9, tys10, tys11, tys12, tys13, tys14, tys15, tys16, tys17, tys18, Try.ntmps8, Try.results8, hyA]
  refine RunL.callp rfl rfl ok_f38 (eqHydra_ok Q lQ) (by simp only [pureL, pP, pQ, Bool.and_self]) rfl ?_
  simp only [run0, run1, run2, run3, run4, run5, run6, run7, run8, run9, run10, run11, run12, run13, run14, run15, run16, run17, run18, run19, run20, run21, run22, reduceCtorEq, Nat.reduceEqDiff, Nat.reduceAdd, Nat.reduceSub, Nat.reduceLeDiff, indexAddrA, indexRefA, appendA, strA, Nat.reduceMul, Nat.zero_mul, Nat.reduceMod, Int.reduceEq, Int.reduceLT, Int.reduceLE, Nat.reduceLT, Nat.lt_irrefl, Nat.reduceBEq, tys0, tys1, tys2, tys3, tys4, tys5, tys6, tys7, tys8, tys9, tys10, tys11, tys12, tys13, tys14, tys15, tys16, tys17, tys18, Try.ntmps8, Try.results8]
  exact Fin.eq rfl rfl

end Go.Proofs.Ytphmkhaboghagaa
