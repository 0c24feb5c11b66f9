/-
  Texts joined in one: K22, K23, K24, K25, K26, K27, K28, O3, O4, O5, HG, G14, G15, C4, C5, C6, C7, DO1, DO2, C1.
-/
import Derived.Test.YtphmkhaboghagaaMDescenC
import Derived.Maps.Keyed
import Derived.WideKeyPair
import Derived.ChangeMaps5
/-
  A logic of values for Go's functions (part 22): maps of the call's own, with plain keys and plain elements.
-/
namespace Go.Proofs.Ytphmkhaboghagaa.K
set_option linter.unusedVariables false
set_option linter.unusedSimpArgs false
open Go Go.RowKit
open Go.Maps (Keyed)
open Go.ChangeMaps (setBlock heap_setBlock_same heap_setBlock_other)

/-- Values that are told by themselves. -/
def plain1 : AV → Bool
  | .int _ _ => true
  | .bool _ => true
  | .str _ => true
  | _ => false
def val1 : AV → Value
  | .int k n => .int k n
  | .bool b => .bool b
  | .str s => .string s
  | _ => undef
def plainK : AV → Bool
  | .agg cs => cs.all plain1
  | x => plain1 x
def valK : AV → Value
  | .agg cs => .agg (cs.map val1).toArray
  | x => val1 x
theorem val1_of {γ : Nat → Gh} {L : List AObj} {x : AV} {v : Value} (h : RV γ L x v) (hp : plain1 x = true) : v = val1 x := by
  cases h <;> first | rfl | (simp [plain1] at hp; done)
theorem rv_val1 {γ : Nat → Gh} {L : List AObj} {x : AV} (hp : plain1 x = true) : RV γ L x (val1 x) := by
  cases x <;> first | exact .int _ _ | exact .bool _ | exact .str _ | (simp [plain1] at hp; done)
theorem one_val1 {x : AV} (hp : plain1 x = true) : (val1 x).oneCell' = true := by
  cases x <;> first | rfl | (simp [plain1] at hp; done)
theorem valK_of {γ : Nat → Gh} {L : List AObj} {x : AV} {v : Value} (h : RV γ L x v) (hp : plainK x = true) : v = valK x := by
  cases h with
  | agg cs vs hn h1 h =>
    simp only [plainK, List.all_eq_true] at hp
    simp only [valK, Value.agg.injEq]
    apply Array.ext
    · simp [hn]
    · intro i h1 h2
      have hi : i < cs.length := by omega
      have := val1_of (h i cs[i] (by simp [hi])) (hp _ (List.getElem_mem _))
      simp only [Array.getD, h1, dite_true] at this
      simpa using this
  | int k n => rfl
  | bool b => rfl
  | str s => rfl
  | _ => simp [plainK, plain1] at hp
theorem rv_valK {γ : Nat → Gh} {L : List AObj} {x : AV} (hp : plainK x = true) : RV γ L x (valK x) := by
  cases x with
  | agg cs =>
    simp only [plainK, List.all_eq_true] at hp
    refine .agg _ _ (by simp) (fun v hv => ?_) (fun i x hx => ?_)
    · simp only [List.mem_toArray, List.mem_map] at hv
      obtain ⟨y, hy, rfl⟩ := hv
      exact one_val1 (hp y hy)
    · have hi := (List.getElem?_eq_some_iff.1 hx).1
      have e : (cs.map val1).toArray.getD i undef = val1 x := by
        rw [Array.getD_eq_getD_getElem?]; simp [hx]
      rw [e]
      exact rv_val1 (hp _ (List.mem_of_getElem? hx))
  | int k n => exact .int _ _
  | bool b => exact .bool _
  | str s => exact .str _
  | _ => simp [plainK, plain1] at hp

section
variable {κ ν : Type}
def entE (ek : κ → AV) (ev : ν → AV) (p : κ × ν) : AV × AV := (ek p.1, ev p.2)
def mapO (kt vt : TypeId) (ek : κ → AV) (ev : ν → AV) (m : List (κ × ν)) : AObj := .map kt vt (m.map (entE ek ev))

/-- How keys and elements of a map's type are told; 'z' is the element type's zero value. -/
structure MapT (P : Program) (kt vt : TypeId) (ek : κ → AV) (ev : ν → AV) (z : ν) : Prop where
  keyed : Keyed P kt
  pk : ∀ k, plainK (ek k) = true
  pv : ∀ v, plainK (ev v) = true
  one : ∀ v, (valK (ev v)).oneCell' = true
  inj : ∀ a b, valK (ek a) = valK (ek b) → a = b
  zero : zeroOf P vt = some (valK (ev z))

structure MapOk (P : Program) (kt : TypeId) (ek : κ → AV) (m : List (κ × ν)) : Prop where
  nd : (m.map Prod.fst).Nodup
  wf : ∀ k ∈ m.map Prod.fst, (keyOf P kt (valK (ek k))).isSome = true
theorem MapOk.nil {P : Program} {kt : TypeId} {ek : κ → AV} : MapOk P kt ek ([] : List (κ × ν)) := ⟨by simp, by simp⟩
variable {P : Program} {kt vt : TypeId} {ek : κ → AV} {ev : ν → AV} {z : ν}
theorem rep_ent (B : MapT P kt vt ek ev z) {m : List (κ × ν)} {arr : Array MapEntry} {clock : Nat} (h : MapRep (m.map (entE ek ev)) arr clock) (i : Nat) (e : MapEntry) (he : arr.toList[i]? = some e) :
    ∃ p, m[i]? = some p ∧ e.key = valK (ek p.1) ∧ e.val = valK (ev p.2) := by
  obtain ⟨h1, h2, h3⟩ := h
  have hi : i < arr.size := by simpa using (List.getElem?_eq_some_iff.1 he).1
  simp only [List.length_map] at h1
  have hm : m[i]? = some m[i] := List.getElem?_eq_getElem (by omega)
  obtain ⟨x, hx, k1, k2⟩ := h2 i (entE ek ev m[i]) (by simp [hm])
  rw [← Array.getElem?_toList, he] at hx
  cases hx
  exact ⟨m[i], hm, valK_of k1 (B.pk _), valK_of k2 (B.pv _)⟩

theorem find_run (B : MapT P kt vt ek ev z) {m : List (κ × ν)} {arr : Array MapEntry} {clock : Nat} (h : MapRep (m.map (entE ek ev)) arr clock) (M : MapOk P kt ek m) {x : κ} (hx : (keyOf P kt (valK (ek x))).isSome = true) (w : World) :
    ((Instr.findKey kt (valK (ek x)) arr.toList).run P w = .ok none w ∧ x ∉ m.map Prod.fst) ∨
    ∃ (j : Nat) (p : κ × ν) (e : MapEntry), (Instr.findKey kt (valK (ek x)) arr.toList).run P w = .ok (some (j, e.val)) w ∧ m[j]? = some p ∧ arr.toList[j]? = some e ∧ p.1 = x ∧ e.val = valK (ev p.2) ∧ e.key = valK (ek x) := by
  obtain ⟨lx, hlx⟩ := Option.isSome_iff_exists.1 hx
  have hall : ∀ e ∈ arr.toList, ∃ l, keyOf P kt e.key = some l := by
    intro e he
    obtain ⟨i, hi, rfl⟩ := List.getElem_of_mem he
    obtain ⟨p, hp, k1, _⟩ := rep_ent B h i _ (List.getElem?_eq_getElem hi)
    rw [k1]
    exact Option.isSome_iff_exists.1 (M.wf p.1 (List.mem_map.2 ⟨p, List.mem_of_getElem? hp, rfl⟩))
  rcases B.keyed.find w hlx arr.toList hall with ⟨h1, h2⟩ | ⟨j, e, h1, h2, h3⟩
  · refine .inl ⟨h1, fun hm => ?_⟩
    obtain ⟨p, hp, hpx⟩ := List.mem_map.1 hm
    obtain ⟨i, hi, hpi⟩ := List.getElem_of_mem hp
    have hia : i < arr.toList.length := by have := h.1; simp at this ⊢; omega
    obtain ⟨q, hq, k1, _⟩ := rep_ent B h i _ (List.getElem?_eq_getElem hia)
    rw [List.getElem?_eq_getElem hi] at hq
    cases hq
    exact h2 _ (List.getElem_mem hia) (by rw [k1, hpi, hpx])
  · obtain ⟨p, hp, k1, k2⟩ := rep_ent B h j e h2
    exact .inr ⟨j, p, e, h1, hp, h2, B.inj _ _ (by rw [← k1, h3]), k2, h3⟩

end

section
variable {κ ν : Type} [DecidableEq κ]
/-- What is known of a key. -/
def getM : List (κ × ν) → κ → Option ν
  | [], _ => none
  | (k, v) :: r, x => if k = x then some v else getM r x
/-- An element laid under a key. -/
def putM : List (κ × ν) → κ → ν → List (κ × ν)
  | [], x, y => [(x, y)]
  | (k, v) :: r, x, y => if k = x then (k, y) :: r else (k, v) :: putM r x y
theorem getM_putM (m : List (κ × ν)) (x : κ) (y : ν) (z : κ) : getM (putM m x y) z = if x = z then some y else getM m z := by
  induction m with
  | nil => simp [putM, getM]
  | cons p r ih =>
    obtain ⟨k, v⟩ := p
    simp only [putM]
    by_cases h : k = x
    · subst h
      rw [if_pos rfl]
      simp only [getM]
      by_cases hz : k = z
      · simp [hz]
      · simp [hz]
    · rw [if_neg h]
      simp only [getM, ih]
      by_cases hz : k = z
      · subst hz
        have : x ≠ k := fun e => h e.symm
        simp [this]
      · simp [hz]
theorem getM_none {m : List (κ × ν)} {x : κ} (h : x ∉ m.map Prod.fst) : getM m x = none := by
  induction m with
  | nil => rfl
  | cons p r ih =>
    simp only [List.map_cons, List.mem_cons, not_or] at h
    have hne : ¬ p.1 = x := fun e => h.1 e.symm
    simp only [getM, if_neg hne]
    exact ih h.2
theorem getM_at {m : List (κ × ν)} (hn : (m.map Prod.fst).Nodup) {j : Nat} {p : κ × ν} (h : m[j]? = some p) : getM m p.1 = some p.2 := by
  induction m generalizing j with
  | nil => simp at h
  | cons q r ih =>
    simp only [List.map_cons, List.nodup_cons] at hn
    cases j with
    | zero => simp at h; subst h; simp [getM]
    | succ j =>
      simp at h
      have hm : p.1 ∈ r.map Prod.fst := List.mem_map.2 ⟨p, List.mem_of_getElem? h, rfl⟩
      simp only [getM]
      rw [if_neg (fun e => hn.1 (by rw [e]; exact hm))]
      exact ih hn.2 h
theorem putM_new {m : List (κ × ν)} {x : κ} {y : ν} (h : x ∉ m.map Prod.fst) : putM m x y = m ++ [(x, y)] := by
  induction m with
  | nil => rfl
  | cons p r ih =>
    simp only [List.map_cons, List.mem_cons, not_or] at h
    have hne : ¬ p.1 = x := fun e => h.1 e.symm
    simp only [putM, if_neg hne, ih h.2, List.cons_append]
theorem putM_at {m : List (κ × ν)} (hn : (m.map Prod.fst).Nodup) {j : Nat} {p : κ × ν} {y : ν} (h : m[j]? = some p) : putM m p.1 y = m.set j (p.1, y) := by
  induction m generalizing j with
  | nil => simp at h
  | cons q r ih =>
    simp only [List.map_cons, List.nodup_cons] at hn
    cases j with
    | zero => simp at h; subst h; simp [putM]
    | succ j =>
      simp at h
      have hm : p.1 ∈ r.map Prod.fst := List.mem_map.2 ⟨p, List.mem_of_getElem? h, rfl⟩
      simp only [putM]
      rw [if_neg (fun e => hn.1 (by rw [e]; exact hm)), ih hn.2 h, List.set_cons_succ]
theorem putM_keys (m : List (κ × ν)) (x : κ) (y : ν) (z : κ) : z ∈ (putM m x y).map Prod.fst ↔ z = x ∨ z ∈ m.map Prod.fst := by
  induction m with
  | nil => simp [putM]
  | cons p r ih =>
    simp only [putM]
    by_cases h : p.1 = x
    · rw [if_pos h]; simp [h]
    · rw [if_neg h]
      simp only [List.map_cons, List.mem_cons, ih]
      constructor <;> rintro (h | h | h) <;> simp [h]
theorem putM_nodup {m : List (κ × ν)} (hn : (m.map Prod.fst).Nodup) (x : κ) (y : ν) : ((putM m x y).map Prod.fst).Nodup := by
  induction m with
  | nil => simp [putM]
  | cons p r ih =>
    simp only [List.map_cons, List.nodup_cons] at hn
    simp only [putM]
    by_cases h : p.1 = x
    · rw [if_pos h]; simpa using hn
    · rw [if_neg h]
      simp only [List.map_cons, List.nodup_cons]
      refine ⟨fun hm => ?_, ih hn.2⟩
      rcases (putM_keys r x y p.1).1 hm with e | e
      · exact h e
      · exact hn.1 e

theorem MapOk.put {P : Program} {kt : TypeId} {ek : κ → AV} {m : List (κ × ν)} (h : MapOk P kt ek m) {x : κ} (hx : (keyOf P kt (valK (ek x))).isSome = true) (y : ν) : MapOk P kt ek (putM m x y) :=
  ⟨putM_nodup h.nd x y, fun k hk => by
    rcases (putM_keys m x y k).1 hk with rfl | e
    · exact hx
    · exact h.wf k e⟩

variable {P : Program} {kt vt : TypeId} {ek : κ → AV} {ev : ν → AV} {z : ν}

def lookR (ev : ν → AV) (z : ν) (ok : Bool) (r : Option ν) : AV := if ok then .tup [ev (r.getD z), .bool r.isSome] else ev (r.getD z)

theorem zero_run {T : TypeId} {v : Value} (hz : zeroOf P T = some v) (w : World) : (zeroValue T).run P w = .ok v w := by
  unfold zeroOf at hz
  obtain ⟨i, hi, hz⟩ := Option.bind_eq_some_iff.1 hz
  simp [zeroValue, typeInfo, hi, hz]

theorem look_run (B : MapT P kt vt ek ev z) {m : List (κ × ν)} {arr : Array MapEntry} {clock : Nat} (h : MapRep (m.map (entE ek ev)) arr clock) (M : MapOk P kt ek m) {x : κ} (hx : (keyOf P kt (valK (ek x))).isSome = true)
    {w : World} {b : Nat} (hb : w.heap[b]? = some (.map arr clock)) {t : TypeId} (ht : P.underlying t = some (.map kt vt)) (ok : Bool) :
    ∃ v, (Instr.lookup t (.map (some b)) (valK (ek x)) ok).run P w = .ok v w ∧ ∀ γ L, RV γ L (lookR ev z ok (getM m x)) v := by
  obtain ⟨lx, hlx⟩ := Option.isSome_iff_exists.1 hx
  have two : ∀ (y : ν) (f : Bool) γ L, RV γ L (.tup [ev y, .bool f]) (.tuple #[valK (ev y), .bool f]) := fun y f γ L =>
    .tup _ _ rfl (fun i x hx => by
      match i, hx with
      | 0, hx => simp at hx; subst hx; exact rv_valK (B.pv _)
      | 1, hx => simp at hx; subst hx; exact .bool _
      | i + 2, hx => simp at hx)
  rcases find_run B h M hx w with ⟨h1, h2⟩ | ⟨j, p, e, h1, h2, h3, rfl, h4, h5⟩
  · rw [getM_none h2]
    refine ⟨if ok then .tuple #[valK (ev z), .bool false] else valK (ev z), by simp [Instr.lookup, run_underlying ht, MapKept.run_getObj_map hb, B.keyed.check w _ hlx, h1, zero_run B.zero, Result.andThen], fun γ L => ?_⟩
    cases ok
    · exact rv_valK (B.pv _)
    · exact two z false γ L
  · rw [getM_at M.nd h2]
    refine ⟨if ok then .tuple #[valK (ev p.2), .bool true] else valK (ev p.2), by simp [Instr.lookup, run_underlying ht, MapKept.run_getObj_map hb, B.keyed.check w _ hlx, h1, h4, Result.andThen], fun γ L => ?_⟩
    cases ok
    · exact rv_valK (B.pv _)
    · exact two p.2 true γ L

theorem put_run (B : MapT P kt vt ek ev z) {m : List (κ × ν)} {arr : Array MapEntry} {clock : Nat} (h : MapRep (m.map (entE ek ev)) arr clock) (M : MapOk P kt ek m) {x : κ} (hx : (keyOf P kt (valK (ek x))).isSome = true)
    {w : World} {b : Nat} (hb : w.heap[b]? = some (.map arr clock)) {t : TypeId} (ht : P.underlying t = some (.map kt vt)) (y : ν) :
    ∃ arr' clock', (Instr.mapUpdate t (.map (some b)) (valK (ek x)) (valK (ev y))).run P w = .ok () (setBlock w b (.map arr' clock')) ∧ MapRep ((putM m x y).map (entE ek ev)) arr' clock' := by
  obtain ⟨lx, hlx⟩ := Option.isSome_iff_exists.1 hx
  obtain ⟨r1, r2, r3⟩ := h
  simp only [List.length_map] at r1
  rcases find_run B ⟨by simpa using r1, r2, r3⟩ M hx w with ⟨h1, h2⟩ | ⟨j, p, e, h1, h2, h3, rfl, h4, h5⟩
  · refine ⟨arr.push ⟨valK (ek x), valK (ev y), clock⟩, clock + 1, by simp [Instr.mapUpdate, run_underlying ht, MapKept.run_getObj_map hb, B.keyed.check w _ hlx, h1, MapKept.run_setObj_map _ hb, Result.andThen, setBlock], ?_⟩
    rw [putM_new h2]
    refine ⟨by simp [r1], fun i e he => ?_, fun q hq => ?_⟩
    · rw [List.map_append] at he
      by_cases hi : i < m.length
      · rw [List.getElem?_append_left (by simpa using hi)] at he
        obtain ⟨q, hq, k1, k2⟩ := r2 i e he
        exact ⟨q, by rw [Array.getElem?_push_lt (by omega)]; rw [← hq, Array.getElem?_eq_getElem (by omega)], k1, k2⟩
      · have hi2 : i = m.length := by
          have := (List.getElem?_eq_some_iff.1 he).1
          simp at this; omega
        subst hi2
        rw [List.getElem?_append_right (by simp)] at he
        simp at he
        subst he
        exact ⟨⟨valK (ek x), valK (ev y), clock⟩, by rw [← r1]; simp, rv_valK (B.pk x), rv_valK (B.pv y)⟩
    · rcases Array.mem_push.1 hq with hq | rfl
      · have := r3 q hq; omega
      · exact Nat.lt_succ_self _
  · have hj : arr[j]? = some e := by rw [← Array.getElem?_toList]; exact h3
    have hjl := (Array.getElem?_eq_some_iff.1 hj).1
    have hstay := B.keyed.stays w hlx
    refine ⟨arr.modify j (fun e' => { e' with key := valK (ek p.1), val := valK (ev y) }), clock, by simp [Instr.mapUpdate, run_underlying ht, MapKept.run_getObj_map hb, B.keyed.check w _ hlx, h1, hj, h5, hstay, MapKept.run_setObj_map _ hb, Result.andThen, setBlock], ?_⟩
    rw [putM_at M.nd h2]
    refine ⟨by simp [r1], fun i q hq => ?_, fun q hq => ?_⟩
    · rw [List.map_set] at hq
      by_cases hi : j = i
      · subst hi
        rw [List.getElem?_set_self (by simp; omega)] at hq
        cases hq
        refine ⟨{ e with key := valK (ek p.1), val := valK (ev y) }, ?_, rv_valK (B.pk _), rv_valK (B.pv _)⟩
        rw [Array.getElem?_modify, hj]; simp
      · rw [List.getElem?_set_ne hi] at hq
        obtain ⟨q', hq', k1, k2⟩ := r2 i q hq
        refine ⟨q', ?_, k1, k2⟩
        rw [Array.getElem?_modify, hq', if_neg hi]
    · obtain ⟨i, hi, rfl⟩ := Array.getElem_of_mem hq
      simp only [Array.size_modify] at hi
      rw [Array.getElem_modify]
      have := r3 _ (Array.getElem_mem (xs := arr) (i := i) hi)
      split <;> exact this

/-- Looking a key up in a map of the call's own. -/
theorem look_sound (B : MapT P kt vt ek ev z) {o : Oper} {s : St} {t : TypeId} {xm xi : Operand} {ok : Bool} {id : Nat} {m : List (κ × ν)} {x : κ} (ho : o.op = .lookup t xm xi ok) (hm : s.ev xm = .map id) (hi : s.ev xi = ek x)
    (hL : s.L[id]? = some (mapO kt vt ek ev m)) (ht : P.underlying t = some (.map kt vt)) (M : MapOk P kt ek m) (hx : (keyOf P kt (valK (ek x))).isSome = true) : OpS P o s (s.put o.dst (lookR ev z ok (getM m x))) := by
  refine OpS.pure fun γ a w hr => ?_
  have h1 := hr.ev xm
  have h2 := hr.ev xi
  rw [hm] at h1
  rw [hi] at h2
  generalize hvm : a.eval xm = vm at h1
  have e2 := valK_of h2 (B.pk x)
  cases h1 with
  | map _ b c kt' vt' es hL' hb =>
    obtain ⟨ob, hob, hrep⟩ := hr.inv.ow _ _ _ _ hb
    unfold BlockRep at hrep
    rw [hL] at hrep
    obtain ⟨_, arr, clock, rfl, hrep⟩ := hrep
    obtain ⟨v, hv, hrv⟩ := look_run B hrep M hx hob ht ok
    exact ⟨v, by simp [execOp, ho, hvm, e2, hv], hrv _ _⟩

/-- Laying an element under a key. -/
theorem put_sound (B : MapT P kt vt ek ev z) {o : Oper} {s : St} {t : TypeId} {xm xi xv : Operand} {id : Nat} {m : List (κ × ν)} {x : κ} {y : ν} (ho : o.op = .mapUpdate t xm xi xv) (hm : s.ev xm = .map id) (hi : s.ev xi = ek x) (hv : s.ev xv = ev y)
    (hL : s.L[id]? = some (mapO kt vt ek ev m)) (ht : P.underlying t = some (.map kt vt)) (M : MapOk P kt ek m) (hx : (keyOf P kt (valK (ek x))).isSome = true) : OpS P o s ({ s with L := s.L.set id (mapO kt vt ek ev (putM m x y)) }.put o.dst .junk) := by
  intro γ a w K Q hr hK
  refine .inl ?_
  have h1 := hr.ev xm
  have h2 := hr.ev xi
  have h3 := hr.ev xv
  rw [hm] at h1
  rw [hi] at h2
  rw [hv] at h3
  generalize hvm : a.eval xm = vm at h1
  have e2 := valK_of h2 (B.pk x)
  have e3 := valK_of h3 (B.pv y)
  cases h1 with
  | map _ b c kt' vt' es hL' hb =>
    obtain ⟨ob, hob, hrep⟩ := hr.inv.ow _ _ _ _ hb
    unfold BlockRep at hrep
    rw [hL] at hrep
    obtain ⟨_, arr, clock, rfl, hrep⟩ := hrep
    obtain ⟨arr', clock', hrun, hrep'⟩ := put_run B hrep M hx hob ht y
    have hlt := (List.getElem?_eq_some_iff.1 hL).1
    obtain ⟨E, hI, hS⟩ := hr.inv.write (x' := mapO kt vt ek ev (putM m x y)) (w' := setBlock w b (.map arr' clock')) (o' := .map arr' clock') hb hL ⟨rfl, rfl⟩
      ⟨fun _ _ h => (by cases h), fun _ _ _ _ => ⟨_, _, _, rfl⟩⟩ (fun k hk => heap_setBlock_other hob _ hk) (heap_setBlock_same hob _) (by simp [setBlock]) rfl rfl rfl
      (fun E => by
        unfold BlockRep
        rw [List.getElem?_set_self hlt]
        exact ⟨rfl, _, _, rfl, hrep'⟩)
      (fun E b2 p2 c2 o2 hne hb2 hr2 => by
        exfalso
        unfold BlockRep at hr2
        simp only [hL, mapO] at hr2
        obtain ⟨rfl, _⟩ := hr2
        exact hne (hr.inv.inj _ _ _ _ _ _ hb2 hb))
    unfold Oper.wp execOp
    rw [ho]
    simp only [hvm, e2, e3, Sem.run_bind, hrun, Result.andThen_ok, Sem.run_pure]
    refine hK _ _ _ ((hr.mono E hI).put o.dst (.junk _)) (by rw [St.put_L]; exact E) hS

/-- A new map. -/
theorem make_sound_map {o : Oper} {s : St} {t : TypeId} (kt vt : TypeId) (ho : o.op = .makeMap t none) : OpS P o s ({ s with L := s.L ++ [AObj.map kt vt []] }.put o.dst (.map s.L.length)) := by
  intro γ a w K Q hr hK
  refine .inl ?_
  have hA := hr.inv.allocObj (.map #[] 0) (AObj.map kt vt []) 0 (fun E => by
    unfold BlockRep
    simp only [List.getElem?_append_right (Nat.le_refl _), Nat.sub_self, List.getElem?_cons_zero]
    exact ⟨trivial, _, _, rfl, by simp, by simp, by simp⟩)
  obtain ⟨E, hI, hS⟩ := hA
  unfold Oper.wp execOp
  rw [ho]
  have hrun : (Instr.makeMap t none).run P w = .ok (.map (some w.heap.size)) (w.alloc (.map #[] 0)) := rfl
  simp only [Option.map_none, Sem.run_bind, hrun, Result.andThen_ok, Sem.run_pure]
  refine hK _ _ _ ((hr.mono E hI).put o.dst (.map _ w.heap.size 0 kt vt [] ?_ ?_)) (by rw [St.put_L]; exact E) hS
  · simp
  · simp [newG]

theorem RunL.look (B : MapT P kt vt ek ev z) {k : Oper → Knd} {ops : Array Oper} {K : St → Prop} {o : Oper} {rest : List Oper} {s : St} {t : TypeId} {xm xi : Operand} {ok : Bool} {id : Nat} (m : List (κ × ν)) (x : κ)
    (hg : guardA ops s o = some true) (ho : o.op = .lookup t xm xi ok) (hm : s.ev xm = .map id) (hi : s.ev xi = ek x)
    (hL : s.L[id]? = some (mapO kt vt ek ev m)) (ht : P.underlying t = some (.map kt vt)) (M : MapOk P kt ek m) (hx : (keyOf P kt (valK (ek x))).isSome = true) (hkd : Knd.le .C (k o) = true)
    (hk : R P k ops rest (s.put o.dst (lookR ev z ok (getM m x))) K) : RunL P k ops (o :: rest) s K := by
  refine .op ⟨.C, lookR ev z ok (getM m x), s.L⟩ hkd ⟨⟨fun h _ => ⟨[], by simp⟩, fun h => (nomatch h)⟩, fun s1 ha hL1 => ⟨by rw [agree_guard ha]; exact hg, ?_⟩⟩ (R.sound hk)
  have hL1 : s1.L = s.L := hL1
  have e1 : s1.ev xm = .map id := by rw [agree_ev ha (by rw [ho]; simp [Op.operands]), hm]
  have e2 : s1.ev xi = ek x := by rw [agree_ev ha (by rw [ho]; simp [Op.operands]), hi]
  have := look_sound (P := P) (s := s1) B ho e1 e2 (by rw [hL1]; exact hL) ht M hx
  simp only [Sd.app]
  rw [← hL1]
  exact this

theorem RunL.put (B : MapT P kt vt ek ev z) {k : Oper → Knd} {ops : Array Oper} {K : St → Prop} {o : Oper} {rest : List Oper} {s : St} {t : TypeId} {xm xi xv : Operand} {id : Nat} (m : List (κ × ν)) (x : κ) (y : ν)
    (hg : guardA ops s o = some true) (ho : o.op = .mapUpdate t xm xi xv) (hm : s.ev xm = .map id) (hi : s.ev xi = ek x) (hv : s.ev xv = ev y)
    (hL : s.L[id]? = some (mapO kt vt ek ev m)) (ht : P.underlying t = some (.map kt vt)) (M : MapOk P kt ek m) (hx : (keyOf P kt (valK (ek x))).isSome = true) (hkd : Knd.le .C (k o) = true)
    (hk : R P k ops rest ({ s with L := s.L.set id (mapO kt vt ek ev (putM m x y)) }.put o.dst .junk) K) : RunL P k ops (o :: rest) s K := by
  have hal : isAlloc k o = false := by unfold isAlloc; rw [ho]
  refine .op ⟨.C, .junk, s.L.set id (mapO kt vt ek ev (putM m x y))⟩ hkd ⟨⟨fun h _ => (by rw [hal] at h; cases h), fun h => (nomatch h)⟩, fun s1 ha hL1 => ⟨by rw [agree_guard ha]; exact hg, ?_⟩⟩ (R.sound hk)
  have hL1 : s1.L = s.L := hL1
  have e1 : s1.ev xm = .map id := by rw [agree_ev ha (by rw [ho]; simp [Op.operands]), hm]
  have e2 : s1.ev xi = ek x := by rw [agree_ev ha (by rw [ho]; simp [Op.operands]), hi]
  have e3 : s1.ev xv = ev y := by rw [agree_ev ha (by rw [ho]; simp [Op.operands]), hv]
  have := put_sound (P := P) (s := s1) B ho e1 e2 e3 (by rw [hL1]; exact hL) ht M hx
  simp only [Sd.app]
  rw [← hL1]
  exact this

theorem RunL.newMap {k : Oper → Knd} {ops : Array Oper} {K : St → Prop} {o : Oper} {rest : List Oper} {s : St} {t : TypeId} (kt vt : TypeId)
    (hg : guardA ops s o = some true) (ho : o.op = .makeMap t none) (hkd : Knd.le .C (k o) = true)
    (hk : R P k ops rest ({ s with L := s.L ++ [AObj.map kt vt []] }.put o.dst (.map s.L.length)) K) : RunL P k ops (o :: rest) s K := by
  refine .op ⟨.C, .map s.L.length, s.L ++ [AObj.map kt vt []]⟩ hkd ⟨⟨fun h _ => ⟨_, rfl⟩, fun h => (nomatch h)⟩, fun s1 ha hL1 => ⟨by rw [agree_guard ha]; exact hg, ?_⟩⟩ (R.sound hk)
  have hL1 : s1.L = s.L := hL1
  have := make_sound_map (P := P) (s := s1) kt vt ho
  simp only [Sd.app]
  rw [← hL1]
  exact this
end

/-! ### keys that are pairs of whole numbers, or whole numbers -/
def ekP (p : Int × Int) : AV := .agg [.int .i64 p.1, .int .i64 p.2]
def ekI (q : IntKind) (n : Int) : AV := .int q n
theorem ekP_inj (a b : Int × Int) (h : valK (ekP a) = valK (ekP b)) : a = b := by
  obtain ⟨a1, a2⟩ := a
  obtain ⟨b1, b2⟩ := b
  simp [valK, ekP, val1] at h
  exact Prod.ext h.1 h.2
theorem ekI_inj (q : IntKind) (a b : Int) (h : valK (ekI q a) = valK (ekI q b)) : a = b := by
  simpa [valK, ekI, val1] using h
theorem mapT_pair {P : Program} {kt vt e : TypeId} (A : WideMaps.ArrKey P kt e 2) {ν : Type} {ev : ν → AV} {z : ν} (hv : ∀ v, plainK (ev v) = true) (ho : ∀ v, (valK (ev v)).oneCell' = true) (hz : zeroOf P vt = some (valK (ev z))) : MapT P kt vt ekP ev z :=
  ⟨Keyed.of_law A.law, fun _ => rfl, hv, ho, ekP_inj, hz⟩
theorem mapT_int {P : Program} {kt vt : TypeId} {q : IntKind} (hk : P.underlying kt = some (.int q)) {ν : Type} {ev : ν → AV} {z : ν} (hv : ∀ v, plainK (ev v) = true) (ho : ∀ v, (valK (ev v)).oneCell' = true) (hz : zeroOf P vt = some (valK (ev z))) : MapT P kt vt (ekI q) ev z :=
  ⟨Maps.int_keyed hk, fun _ => rfl, hv, ho, ekI_inj q, hz⟩
end Go.Proofs.Ytphmkhaboghagaa.K
/-
  A logic of values for Go's functions (part 23): a nil slice in a variable, told as a slice without elements.
-/
namespace Go.Proofs.Ytphmkhaboghagaa.K
set_option linter.unusedVariables false
set_option linter.unusedSimpArgs false
open Go Go.RowKit

theorem AWp.nilS {P : Program} {c : Code} {Q : Exit → St → Prop} {s : St} (id j : Nat) {T0 : TypeId} {cs : List AV} (hL : s.L[id]? = some (.box T0 cs)) (hj : cs[j]? = some (.lit (.slice none 0 0)))
    (h : AWp P c Q ⟨s.t, s.L.set id (.box T0 (cs.set j (.sl false [])))⟩) : AWp P c Q s := by
  intro ro γ a w hp hr
  have hlt := (List.getElem?_eq_some_iff.1 hL).1
  have hE : Ext γ s.L γ (s.L.set id (.box T0 (cs.set j (.sl false [])))) := .set hL ⟨rfl, by simp⟩
  have hI : Inv γ (s.L.set id (.box T0 (cs.set j (.sl false [])))) w := by
    refine ⟨hr.inv.ro, fun b id1 p c hb => ?_, hr.inv.inj, fun id1 T1 cs1 hL1 => ?_, fun id1 kt vt es hL1 => ?_⟩
    · obtain ⟨o, ho, hrep⟩ := hr.inv.ow _ _ _ _ hb
      refine ⟨o, ho, ?_⟩
      by_cases hi : id1 = id
      · subst hi
        unfold BlockRep at hrep ⊢
        simp only [hL] at hrep
        simp only [List.getElem?_set_self hlt]
        obtain ⟨h1, arr, h2, h3, h4⟩ := hrep
        refine ⟨h1, arr, h2, by simpa using h3, fun k x hx => ?_⟩
        by_cases hjk : j = k
        · subst hjk
          have hjl := (List.getElem?_eq_some_iff.1 hj).1
          simp [hjl] at hx
          subst hx
          obtain ⟨v, a1, a2, a3⟩ := h4 j _ hj
          refine ⟨v, a1, a2, ?_⟩
          cases a3
          exact .sl _ _ _ 0 0 0 (fun _ _ => undef) rfl (Nat.le_refl _) (by simp) (by simp) (by simp) (by simp)
        · rw [List.getElem?_set_ne hjk] at hx
          obtain ⟨v, a1, a2, a3⟩ := h4 k x hx
          exact ⟨v, a1, a2, a3.mono hE⟩
      · exact hrep.upd hE (List.getElem?_set_ne (fun e => hi e.symm))
    · by_cases hi2 : id = id1
      · subst hi2; exact hr.inv.box _ _ _ hL
      · rw [List.getElem?_set_ne hi2] at hL1; exact hr.inv.box _ _ _ hL1
    · by_cases hi2 : id = id1
      · subst hi2; simp [hlt] at hL1
      · rw [List.getElem?_set_ne hi2] at hL1; exact hr.inv.map _ _ _ _ hL1
  have hr' := hr.mono hE hI
  refine wpIn_mono (h ro γ a w hp hr') ?_
  rintro e a' w' ⟨γ', s', h1, h2, h3, h4⟩
  exact ⟨γ', s', h1, hE.trans h2, h3, h4⟩

theorem RunL.callp_ex {P : Program} {k : Oper → Knd} {ops : Array Oper} {K : AV → List AObj → St → Prop} {Z : AV → List AObj → Prop} {o : Oper} {rest : List Oper} {s : St} {f : FuncId} {args : Array Operand} {ats : Array TypeId} {r : AV} {xs : List AV}
    (hg : guardA ops s o = some true) (ho : o.op = .call { callee := .value (.func f), args := args, argTypes := ats }) (hf : okFn P f = true)
    (h : Ct P f xs [] r []) (hp : pureL xs = true) (hx : args.toList.map s.ev = xs) (hk : ∃ q L', R P k ops rest (s.put o.dst r) (K q L') ∧ Z q L') : ∃ q L', RunL P k ops (o :: rest) s (K q L') ∧ Z q L' := by
  obtain ⟨q, L', h1, h2⟩ := hk
  exact ⟨q, L', .callp hg ho hf h hp hx h1, h2⟩
theorem AWp.nilS_ex {P : Program} {c : Code} {Kq : AV → List AObj → Exit → St → Prop} {Z : AV → List AObj → Prop} {s : St} (id j : Nat) {T0 : TypeId} {cs : List AV} (hL : s.L[id]? = some (.box T0 cs)) (hj : cs[j]? = some (.lit (.slice none 0 0)))
    (h : ∃ r L', AWp P c (Kq r L') ⟨s.t, s.L.set id (.box T0 (cs.set j (.sl false [])))⟩ ∧ Z r L') : ∃ r L', AWp P c (Kq r L') s ∧ Z r L' := by
  obtain ⟨r, L', h1, h2⟩ := h
  exact ⟨r, L', AWp.nilS id j hL hj h1, h2⟩

end Go.Proofs.Ytphmkhaboghagaa.K
/-
  A logic of values for Go's functions (part 24): a call that is lent what the caller owns, and that only reads it: it may come before or behind other reading steps.
-/
namespace Go.Proofs.Ytphmkhaboghagaa.K
set_option linter.unusedVariables false
set_option linter.unusedSimpArgs false
open Go Go.RowKit

theorem RunL.lendB {P : Program} {k : Oper → Knd} {ops : Array Oper} {K : St → Prop} {o : Oper} {rest : List Oper} {s : St} {f : FuncId} {args : Array Operand} {ats : Array TypeId} {r : AV} {xs ys : List AV}
    (hg : guardA ops s o = some true) (ho : o.op = .call { callee := .value (.func f), args := args, argTypes := ats }) (hf : okFn P f = true) (hkd : Knd.le .B (k o) = true) (hW : ∀ i, isW k i = false ∧ rowsAt k i = false)
    (h : Ct P f ys [] r []) (hx : args.toList.map s.ev = xs) (hy : ∀ X, VwL (s.L ++ X) xs ys) (hr : flatB r = true) (hk : R P k ops rest (s.put o.dst r) K) : RunL P k ops (o :: rest) s K := by
  refine .op ⟨.B, r, []⟩ hkd ⟨⟨fun _ h => (nomatch h), fun h => (nomatch h)⟩, fun s1 ha hL => ⟨by rw [agree_guard ha]; exact hg, ?_⟩⟩ (R.sound hk)
  obtain ⟨L0, X, hX, hlen, hS⟩ := hL
  have e0 : L0 = s.L := by
    apply List.ext_getElem?
    intro i
    obtain ⟨w1, w2⟩ := hW i
    rcases hS i w1 with e | ⟨e, _⟩
    · exact e
    · rw [w2] at e; cases e
  subst e0
  have he : args.toList.map s1.ev = xs := by
    rw [← hx]
    exact map_congr_ev fun x hx => agree_ev ha (by rw [ho]; simp [Op.operands, Call.operands]; exact .inr (by simpa using hx))
  have hc : Ct P f (args.toList.map s1.ev) s1.L r s1.L := by
    rw [he, hX]
    exact Ct.lend h (hy X) hr
  have := call_sound (P := P) (s := s1) ho hf hc
  exact this

end Go.Proofs.Ytphmkhaboghagaa.K
/-
  An address of an array's element: the array lies in a variable of the call's own.
-/
namespace Go.Proofs.Ytphmkhaboghagaa.K
open Go Go.RowKit
set_option maxRecDepth 8000

theorem run_indexArr {P : Program} {t e : TypeId} {len : Nat} (w : World) (ht : P.underlying t = some (.array len e)) (hi : (P.info? e).isSome = true) (k : IntKind) (i : Int) (b off : Nat)
    (h0 : 0 ≤ i) (h1 : i < (len : Int)) :
    (Instr.indexAt t (.pointer (some ⟨b, off, none⟩)) (.int k i)).run P w = .ok (.pointer (some ⟨b, off + i.toNat * P.cellsOf e, none⟩)) w := by
  have hadd : (⟨b, off, none⟩ : Addr).add (i.toNat * P.cellsOf e) = ⟨b, off + i.toNat * P.cellsOf e, none⟩ := by unfold Addr.add; split <;> simp_all
  simp [Instr.indexAt, asIntOf, run_underlying ht, Instr.sureAddr, h0, h1, run_sizeOf w hi, hadd]
theorem indexArr_sound {P : Program} {o : Oper} {s : St} {t e : TypeId} {x i : Operand} {id off len : Nat} {ik : IntKind} {n : Int} (ho : o.op = .indexAddr t x i) (hx : s.ev x = .ptr id off) (hi : s.ev i = .int ik n)
    (ht : P.underlying t = some (.array len e)) (hsz : (P.info? e).isSome = true) (h0 : 0 ≤ n) (h1 : n < (len : Int)) : OpS P o s (s.put o.dst (.ptr id (off + n.toNat * P.cellsOf e))) := by
  refine OpS.pure fun γ a w hr => ?_
  have e1 := hr.ev x
  have e2 := hr.ev i
  rw [hx] at e1
  rw [hi] at e2
  unfold execOp
  rw [ho]
  generalize hu : a.eval x = u at e1
  generalize hv : a.eval i = v at e2
  cases e1 with
  | ptr _ _ b c T cs hL hb =>
    cases e2
    have := run_indexArr (P := P) w ht hsz ik n b off h0 h1
    exact ⟨_, by simp [hu, hv, this], .ptr _ _ _ _ _ _ hL hb⟩
/-- The address of an element of an own array. -/
theorem RunL.indexArr {P : Program} {k : Oper → Knd} {ops : Array Oper} {K : St → Prop} {o : Oper} {rest : List Oper} {s : St} {t e : TypeId} {x i : Operand} {id off len : Nat} {ik : IntKind} {n : Int}
    (hg : guardA ops s o = some true) (ho : o.op = .indexAddr t x i) (ht : P.underlying t = some (.array len e)) (hx : s.ev x = .ptr id off) (hi : s.ev i = .int ik n) (hsz : (P.info? e).isSome = true) (h0 : 0 ≤ n) (h1 : n < (len : Int))
    (h : R P k ops rest (s.put o.dst (.ptr id (off + n.toNat * P.cellsOf e))) K) : RunL P k ops (o :: rest) s K := by
  refine .op ⟨.A, .ptr id (off + n.toNat * P.cellsOf e), []⟩ rfl ⟨⟨fun _ h => (by cases h), fun h => (by cases h)⟩, fun s1 ha _ => ⟨by rw [agree_guard ha]; exact hg, ?_⟩⟩ (R.sound h)
  exact indexArr_sound ho (by rw [agree_ev ha (by rw [ho]; simp [Op.operands])]; exact hx) (by rw [agree_ev ha (by rw [ho]; simp [Op.operands])]; exact hi) ht hsz h0 h1
/-- A load that may look at a variable that results go to. -/
theorem RunL.loadX {P : Program} {k : Oper → Knd} {ops : Array Oper} {K : St → Prop} {o : Oper} {rest : List Oper} {s : St} {x : AV} (hg : guardA ops s o = some true) (hk : k o = .D) (hx : pureA P s o.op = some x)
    (h : R P k ops rest (s.put o.dst x) K) : RunL P k ops (o :: rest) s K := .loadD hg hk hx (R.sound h)

end Go.Proofs.Ytphmkhaboghagaa.K
/-
  Is a slice nil? (A slice without elements may be nil or not: both are told.)
-/
namespace Go.Proofs.Ytphmkhaboghagaa.K
set_option linter.unusedVariables false
set_option linter.unusedSimpArgs false
open Go Go.RowKit
set_option maxRecDepth 8000

theorem equalIn_nil {P : Program} {T e : TypeId} (w : World) (ht : P.underlying T = some (.slice e)) (d : Nat) (A : Option Addr) (n c : Nat) :
    (Op.equalIn (d + 1) T (.slice A n c) (.slice none 0 0)).run P w = .ok A.isNone w := by
  unfold Op.equalIn
  simp only [Sem.run_bind, run_underlying ht, Result.andThen_ok]
  cases A <;> simp
theorem run_isNil {P : Program} {T e : TypeId} (w : World) (ht : P.underlying T = some (.slice e)) (A : Option Addr) (n c : Nat) (ox oy : Operand) :
    (do eqGuard .eql T ox oy (.slice A n c) (.slice none 0 0); binOp .eql T (.slice A n c) (.slice none 0 0) : Sem Value).run P w = .ok (.bool A.isNone) w := by
  have hg : (eqGuard .eql T ox oy (.slice A n c) (.slice none 0 0)).run P w = .ok () w := by
    unfold eqGuard
    simp
  have he : Op.equal T (.slice A n c) (.slice none 0 0) = Op.equalIn Op.maxDepth T (.slice A n c) (.slice none 0 0) := rfl
  have h1 := equalIn_nil (P := P) w ht 9999 A n c
  have hd : Op.maxDepth = 9999 + 1 := rfl
  rw [hd] at he
  simp only [Sem.run_bind, hg, Result.andThen_ok, binOp]
  rw [he]
  generalize Op.equalIn (9999 + 1) T (.slice A n c) (.slice none 0 0) = m at *
  simp [h1]
theorem AWp.nilTest {P : Program} {id : Nat} {o1 o2 : Oper} {Q : Exit → St → Prop} {s : St} {x0 : Operand} {d1 d2 : Tmp} {T T2 e : TypeId} {own : Bool} {es : List AV}
    (h1 : o1.op = .move x0) (hd1 : o1.dst = some d1) (hg1 : o1.guard = none) (h2 : o2.op = .binOp .eql T (.tmp d1) (.const (.slice none 0 0)) T2) (hd2 : o2.dst = some d2) (hg2 : o2.guard = none)
    (ht : P.underlying T = some (.slice e)) (hx : s.ev x0 = .sl own es) (hlt : d1 < s.t.length) (hc : ∀ e ∈ es, e.cells ≠ [])
    (h : ∀ b, (es ≠ [] → b = false) → Q .normal ((s.put (some d1) (.sl own es)).put (some d2) (.bool b))) : AWp P (.region id #[o1, o2] false) Q s := by
  intro ro γ a w _ hr
  refine wpIn_region ?_
  have gA1 : guardA #[o1, o2] s o1 = some true := by unfold guardA; rw [hg1]
  have gA2 : ∀ s', guardA #[o1, o2] s' o2 = some true := fun s' => by unfold guardA; rw [hg2]
  have m1 : OpS P o1 s (s.put o1.dst (.sl own es)) := pureA_sound (by rw [h1]; simp only [pureA, hx])
  have hr2 : List.range (#[o1, o2] : Array Oper).size = [0, 1] := rfl
  rw [hr2]
  simp only [wpOpsIn, List.getElem?_toArray, List.getElem?_cons_zero, List.getElem?_cons_succ]
  rw [guardA_wanted hr gA1, if_pos rfl]
  refine m1.wpIn ro hr fun γ' a' w' hr' hE' hS' => ?_
  rw [guardA_wanted hr' (gA2 _), if_pos rfl]
  have hL : (s.put o1.dst (.sl own es)).L = s.L := St.put_L _ _ _
  have e1 := hr'.ev (.tmp d1)
  have hev : (s.put o1.dst (.sl own es)).ev (.tmp d1) = .sl own es := by
    rw [hd1]; simp [St.put, St.ev, hlt]
  rw [hev] at e1
  have key : ∃ b : Bool, (es ≠ [] → b = false) ∧ (execOp a'.eval o2).run P w' = .ok (.value (.bool b)) w' := by
    generalize hu : a'.eval (.tmp d1) = u at e1
    cases e1 with
    | sl _ _ A n c sz vals hn hc' hsz hq2 hq1 hq3 =>
      refine ⟨A.isNone, fun hne => ?_, ?_⟩
      · obtain ⟨z, zs, rfl⟩ := List.exists_cons_of_ne_nil hne
        obtain ⟨y, ys, hy⟩ := List.exists_cons_of_ne_nil (hc z (by simp))
        have := hq2 0 z 0 y rfl (by rw [hy]; rfl)
        obtain ⟨b, o, rfl⟩ := roCell_addr this
        rfl
      · unfold execOp
        rw [h2]
        have := run_isNil (P := P) w' ht A n c (.tmp d1) (.const (.slice none 0 0))
        have hc0 : a'.eval (.const (.slice none 0 0)) = .slice none 0 0 := rfl
        simp only [hu, hc0]
        simp only [Sem.run_bind] at this ⊢
        simp [this]
  obtain ⟨b, hb, hrun⟩ := key
  refine OpR.wpIn (.inl ?_) (fun c hc => by rw [h2] at hc; cases hc) ro
  unfold Oper.wp
  rw [hrun]
  refine ⟨γ', (s.put (some d1) (.sl own es)).put (some d2) (.bool b), ?_, ?_, hS', h b hb⟩
  · have := hr'.put o2.dst (RV.bool b)
    rw [hd1, hd2] at this
    rw [hd2]
    exact this
  · rw [St.put_L]
    rw [hd1] at hE'
    exact hE'

end Go.Proofs.Ytphmkhaboghagaa.K
/-
  Rows of the call's own that nobody writes any more are told as values from here on.
-/
namespace Go.Proofs.Ytphmkhaboghagaa.K
set_option linter.unusedVariables false
set_option linter.unusedSimpArgs false
open Go Go.RowKit

def frzM (D : List Nat) (γ : Nat → Gh) (w : World) : Nat → Gh := fun b =>
  match γ b with
  | .ow id p c => if id ∈ D then (match w.heap[b]? with | some o => .ro o | none => .out) else .ow id p c
  | x => x
theorem frzM_ro {D : List Nat} {γ : Nat → Gh} {w : World} : ∀ b o, γ b = .ro o → frzM D γ w b = .ro o := fun b o h => by simp [frzM, h]
def killS (D : List Nat) (L : List AObj) : List AObj := L.mapIdx fun i o => if i ∈ D then .dead else o
theorem killS_get (D : List Nat) (L : List AObj) (i : Nat) : (killS D L)[i]? = (L[i]?).map fun o => if i ∈ D then .dead else o := by
  simp [killS]
theorem killS_out {D : List Nat} {L : List AObj} {i : Nat} (h : i ∉ D) : (killS D L)[i]? = L[i]? := by
  rw [killS_get]; cases L[i]? <;> simp [h]
theorem killS_in {D : List Nat} {L : List AObj} {i : Nat} {o : AObj} (h : i ∈ D) (ho : L[i]? = some o) : (killS D L)[i]? = some .dead := by
  rw [killS_get, ho]; simp [h]
/-- 'x', told with what the call owns, is 'y' once the rows 'D' are not written any more. -/
def FrV (D : List Nat) (L : List AObj) (x y : AV) : Prop := ∀ γ w v, Inv γ L w → RV γ L x v → RV (frzM D γ w) (killS D L) y v
theorem FrV.pur {D : List Nat} {L : List AObj} {x : AV} (h : Pur x) : FrV D L x x := fun γ w v _ hv => h _ _ _ _ _ frzM_ro hv
theorem FrV.nil {D : List Nat} {L : List AObj} (o : Bool) : FrV D L (.lit (.slice none 0 0)) (.sl o []) := by
  intro γ w v hI hv
  cases hv
  exact .sl _ _ _ 0 0 0 (fun _ _ => undef) rfl (Nat.le_refl _) (by simp) (by simp) (by simp) (by simp)
theorem FrV.ptr {D : List Nat} {L : List AObj} {id off : Nat} {T : TypeId} {cs : List AV} (hD : id ∉ D) (hL : L[id]? = some (.box T cs)) : FrV D L (.ptr id off) (.ptr id off) := by
  intro γ w v hI hv
  cases hv with
  | ptr _ _ b c T' cs' hL' hb => exact .ptr _ _ b c T' cs' (by rw [killS_out hD]; exact hL') (by simp [frzM, hb, hD])
theorem FrV.ref {D : List Nat} {L : List AObj} {id g n : Nat} {p : Pth} {T : TypeId} {sz : Nat} {es es' ys : List AV} {o : Bool} (hD : id ∈ D) (hL : L[id]? = some (.vec T sz g es)) (hs : sub es p = some es') (hy : ys.length = n)
    (hall : ∀ (i : Nat) e y, es'[i]? = some e → ys[i]? = some y → y.cells.length = e.cells.length ∧ ∀ (j : Nat) c d, e.cells[j]? = some c → y.cells[j]? = some d → FrV D L (viewC id (p ++ [(i, j)]) g c) d) :
    FrV D L (.ref id p g n) (.sl o ys) := by
  intro γ w v hI hv
  cases hv with
  | ref _ _ _ _ _ hok ho =>
    obtain ⟨_, _, _, es2, hL2, hs2, hn, hv⟩ := hok.form (by simp [eptrNow, hL])
    rw [hL] at hL2; cases hL2
    rw [hs] at hs2; cases hs2
    rcases hv with ⟨rfl, rfl, rfl, _⟩ | ⟨b, c, rfl, hb⟩
    · have : ys = [] := List.eq_nil_of_length_eq_zero hy
      subst this
      exact .sl _ _ _ 0 0 0 (fun _ _ => undef) rfl (Nat.le_refl _) (by simp) (by simp) (by simp) (by simp)
    · obtain ⟨arr, s, T', harr, _, hasz, hlc, _, hrow⟩ := hI.rowCell hL hs hb
      have hsome : ∀ {i : Nat} {y : AV}, ys[i]? = some y → ∃ e, es'[i]? = some e := by
        intro i y hiy
        have := (List.getElem?_eq_some_iff.1 hiy).1
        exact ⟨es'[i]'(by omega), List.getElem?_eq_getElem (by omega)⟩
      have hcell : ∀ (i : Nat) y (j : Nat) d, ys[i]? = some y → y.cells[j]? = some d → ∃ u, arr[i * s + j]? = some u ∧ u.oneCell' = true ∧ RV (frzM D γ w) (killS D L) d u := by
        intro i y j d hiy hjd
        obtain ⟨e, he⟩ := hsome hiy
        obtain ⟨hlen, hcd⟩ := hall i e y he hiy
        have hj : j < e.cells.length := by rw [← hlen]; exact (List.getElem?_eq_some_iff.1 hjd).1
        have hc : e.cells[j]? = some e.cells[j] := List.getElem?_eq_getElem hj
        obtain ⟨u, h1, h2, h3⟩ := hrow.2 i e j _ he hc
        exact ⟨u, h1, h2, hcd j _ d hc hjd γ w u hI (RV.viewC hL hs he hc h2 h3)⟩
      refine .sl _ _ _ _ _ s (fun i j => arr.getD (i * s + j) undef) hy.symm (by omega) ?_ ?_ ?_ ?_
      · intro y hy'
        obtain ⟨i, hi, rfl⟩ := List.getElem_of_mem hy'
        have hiy : ys[i]? = some ys[i] := List.getElem?_eq_getElem hi
        obtain ⟨e, he⟩ := hsome hiy
        rw [(hall i e _ he hiy).1]
        exact hrow.1 e (List.mem_of_getElem? he)
      · intro i y j d hiy hjd
        obtain ⟨u, h1, _, _⟩ := hcell i y j d hiy hjd
        have hf : frzM D γ w b = .ro (.cells arr T' (0, 0)) := by simp [frzM, hb, harr, hD]
        simp only [roCell, hf, Nat.zero_add, h1]
        simp [Array.getD_eq_getD_getElem?, h1]
      · intro i y j d hiy hjd
        obtain ⟨u, h1, h2, _⟩ := hcell i y j d hiy hjd
        simpa [Array.getD_eq_getD_getElem?, h1] using h2
      · intro i y j d hiy hjd
        obtain ⟨u, h1, _, h3⟩ := hcell i y j d hiy hjd
        simpa [Array.getD_eq_getD_getElem?, h1] using h3


theorem AWp.freeze {P : Program} {c : Code} {Q : Exit → St → Prop} {s : St} (D : List Nat) {t' : List AV} (hlen : t'.length = s.t.length)
    (hT : ∀ (i : Nat) y, t'[i]? = some y → y = .junk ∨ ∃ x, s.t[i]? = some x ∧ FrV D s.L x y) (hv : ∀ id ∈ D, ∃ T sz g es, s.L[id]? = some (.vec T sz g es))
    (hL : ∀ id, id ∉ D → ∀ o, s.L[id]? = some o → o = .dead ∨ ∃ T cs, o = .box T cs ∧ ∀ x ∈ cs, Pur x) (h : AWp P c Q ⟨t', killS D s.L⟩) : AWp P c Q s := by
  intro ro γ a w hp hr
  have hI := hr.inv
  have h3 : ∀ {b id p c}, frzM D γ w b = .ow id p c → γ b = .ow id p c ∧ id ∉ D := by
    intro b id p c hb
    unfold frzM at hb
    split at hb
    · rename_i id' p' c' he
      split at hb
      · split at hb <;> cases hb
      · rename_i hd; cases hb; exact ⟨he, hd⟩
    · rename_i hne; exact absurd hb (hne _ _ _)
  have hk : ∀ {b id p c}, γ b = .ow id p c → id ∉ D → frzM D γ w b = .ow id p c := fun hb hd => by simp [frzM, hb, hd]
  have hI' : Inv (frzM D γ w) (killS D s.L) w := by
    refine ⟨fun b o hb => ?_, fun b id p c hb => ?_, fun b b' id p c c' hb hb' => hI.inj _ _ _ _ _ _ (h3 hb).1 (h3 hb').1, fun id T cs hq => ?_, fun id kt vt es hq => ?_⟩
    · unfold frzM at hb
      split at hb
      · split at hb
        · split at hb
          · rename_i o' ho'; cases hb; exact ho'
          · cases hb
        · cases hb
      · exact hI.ro b o hb
    · obtain ⟨hb0, hd⟩ := h3 hb
      obtain ⟨o, ho, hrep⟩ := hI.ow _ _ _ _ hb0
      refine ⟨o, ho, ?_⟩
      unfold BlockRep at hrep ⊢
      rw [killS_out hd]
      cases hq : s.L[id]? with
      | none => rw [hq] at hrep; exact hrep.elim
      | some ob =>
        rw [hq] at hrep
        rcases hL id hd ob hq with rfl | ⟨T, cs, rfl, hp⟩
        · exact hrep.elim
        · obtain ⟨q1, arr, q2, q3, q4⟩ := hrep
          refine ⟨q1, arr, q2, q3, fun j x hx => ?_⟩
          obtain ⟨v, v1, v2, v3⟩ := q4 j x hx
          exact ⟨v, v1, v2, hp x (List.mem_of_getElem? hx) _ _ _ _ _ frzM_ro v3⟩
    · by_cases hd : id ∈ D
      · obtain ⟨_, _, _, _, hz⟩ := hv id hd
        rw [killS_in hd hz] at hq; cases hq
      · rw [killS_out hd] at hq
        obtain ⟨b, c, hb⟩ := hI.box _ _ _ hq
        exact ⟨b, c, hk hb hd⟩
    · by_cases hd : id ∈ D
      · obtain ⟨_, _, _, _, hz⟩ := hv id hd
        rw [killS_in hd hz] at hq; cases hq
      · rw [killS_out hd] at hq
        obtain ⟨b, c, hb⟩ := hI.map _ _ _ _ hq
        exact ⟨b, c, hk hb hd⟩
  have hE : Ext γ s.L (frzM D γ w) (killS D s.L) := by
    refine ⟨frzM_ro, fun id o hq => ?_, fun b id p c hb => ?_, fun id T1 sz1 g1 es1 T' sz' es' hq hq' p e1 _ b c hb => (h3 hb).1⟩
    · by_cases hd : id ∈ D
      · obtain ⟨_, _, _, _, hz⟩ := hv id hd
        rw [hz] at hq; cases hq
        exact ⟨_, killS_in hd hz, trivial⟩
      · exact ⟨o, by rw [killS_out hd]; exact hq, OStep.refl o⟩
    · by_cases hd : id ∈ D
      · refine .inr fun o hq => ?_
        obtain ⟨_, _, _, _, hz⟩ := hv id hd
        rw [hz] at hq; cases hq
        exact ⟨_, _, _, _, rfl, fun T' sz' es' hq' => by rw [killS_in hd hz] at hq'; cases hq'⟩
      · exact .inl (hk hb hd)
  have hS : Stp γ w (frzM D γ w) w := ⟨rfl, rfl, rfl, Nat.le_refl _, frzM_ro, fun b _ hb => ⟨by simp [frzM, hb], rfl⟩⟩
  have hR : Rel (frzM D γ w) ⟨t', killS D s.L⟩ a w := ⟨hr.defers.mono frzM_ro, by rw [hr.size]; exact hlen.symm, fun i y hy => by
    rcases hT i y hy with rfl | ⟨x, hx, hxy⟩
    · exact .junk _
    · exact hxy γ w _ hI (hr.tmps i x hx), hI'⟩
  refine wpIn_mono (h ro _ a w hp hR) ?_
  rintro e a' w' ⟨γ2, s2, k1, k2, k3, k4⟩
  exact ⟨γ2, s2, k1, hE.trans k2, hS.trans k3, k4⟩

end Go.Proofs.Ytphmkhaboghagaa.K
/-
  A logic of values for Go's functions (part 28): a loop over a function whose rounds all go on.
-/
namespace Go.Proofs.Ytphmkhaboghagaa.K
set_option linter.unusedVariables false
set_option linter.unusedSimpArgs false
open Go Go.RowKit

mutual
/-- Values that hold no yield. -/
def noY : AV → Bool
  | .sl _ es => noYL es
  | .agg cs => noYL cs
  | .tup cs => noYL cs
  | .fn _ cs => noYL cs
  | .rptr c _ => noY c
  | .yld _ _ _ => false
  | _ => true
def noYL : List AV → Bool
  | [] => true
  | x :: xs => noY x && noYL xs
end
theorem noYL_mem {xs : List AV} : noYL xs = true ↔ ∀ x ∈ xs, noY x = true := by
  induction xs with
  | nil => simp [noYL]
  | cons x xs ih => simp [noYL, ih]
theorem noY_cells {x c : AV} (h : noY x = true) (hc : c ∈ x.cells) : noY c = true := by
  cases x <;> first
    | (simp only [AV.cells, List.mem_singleton] at hc; subst hc; exact h)
    | (simp only [AV.cells] at hc; simp only [noY] at h; exact noYL_mem.1 h c hc)
mutual
theorem noY_of : ∀ {x : AV}, pureB x = true → noY x = true
  | .int _ _, _ => rfl
  | .bool _, _ => rfl
  | .str _, _ => rfl
  | .lit _, _ => rfl
  | .junk, _ => rfl
  | .sl _ es, h => by simp only [pureB] at h; simp only [noY]; exact noYL_of h
  | .agg es, h => by simp only [pureB] at h; simp only [noY]; exact noYL_of h
  | .tup es, h => by simp only [pureB] at h; simp only [noY]; exact noYL_of h
  | .fn _ es, h => by simp only [pureB] at h; simp only [noY]; exact noYL_of h
  | .rptr c _, h => by simp only [pureB] at h; simp only [noY]; exact noY_of h
  | .ref .., _ => rfl
  | .ptr .., _ => rfl
  | .eptr .., _ => rfl
  | .map _, _ => rfl
  | .yld .., h => by simp [pureB] at h
theorem noYL_of : ∀ {xs : List AV}, pureL xs = true → noYL xs = true
  | [], _ => rfl
  | x :: xs, h => by
    simp only [pureL, Bool.and_eq_true] at h
    simp only [noYL, noY_of h.1, noYL_of h.2, Bool.and_self]
end
def noYO : AObj → Bool
  | .box _ cs => noYL cs
  | .vec _ _ _ es => noYL es
  | _ => true

theorem noYL_sub : ∀ (p : Pth) (es es' : List AV), noYL es = true → sub es p = some es' → noYL es' = true
  | [], es, es', h, hs => by simp [sub] at hs; subst hs; exact h
  | (i, j) :: p, es, es', h, hs => by
    simp only [sub] at hs
    cases he : es[i]? with
    | none => simp only [he] at hs; cases hs
    | some e =>
      simp only [he] at hs
      cases hc : e.cells[j]? with
      | none => simp only [hc] at hs; cases hs
      | some x =>
        simp only [hc] at hs
        have hx := noY_cells (noYL_mem.1 h e (List.mem_of_getElem? he)) (List.mem_of_getElem? hc)
        cases x with
        | sl own es2 =>
          cases own with
          | true => exact noYL_sub p es2 es' (by simpa [noY] using hx) hs
          | false => cases hs
        | _ => cases hs

/-- Two tellings of memory that agree but for a loop's record. -/
structure AgrY (γ γ' : Nat → Gh) : Prop where
  ro : ∀ b o, γ b = .ro o → (∀ r, o ≠ .loop r) → γ' b = .ro o
  ow : ∀ b id p c, γ' b = .ow id p c ↔ γ b = .ow id p c

theorem AgrY.roCell {γ γ' : Nat → Gh} (h : AgrY γ γ') {A : Option Addr} {k : Nat} {v : Value} (hr : roCell γ A k = some v) : K.roCell γ' A k = some v := by
  unfold K.roCell at *
  split at hr
  · rename_i b o
    split at hr
    · rename_i arr T fr hb
      simp only [h.ro _ _ hb (fun d e => by cases e)]
      exact hr
    · cases hr
  · cases hr

theorem AgrY.refOk {γ γ' : Nat → Gh} (A : AgrY γ γ') {L : List AObj} {id : Nat} {p : Pth} {g n : Nat} {v : Value} (h : RefOk γ L id p g n v) : RefOk γ' L id p g n v := by
  unfold RefOk at *
  split at h
  · obtain ⟨h1, h2⟩ := h
    refine ⟨h1, fun e => ?_⟩
    obtain ⟨es', he, hn, hv⟩ := h2 e
    refine ⟨es', he, hn, ?_⟩
    rcases hv with ⟨h1, h2, h3⟩ | ⟨b, c, h1, h2⟩
    · exact .inl ⟨h1, h2, fun b c hb => h3 b c ((A.ow _ _ _ _).1 hb)⟩
    · exact .inr ⟨b, c, h1, (A.ow _ _ _ _).2 h2⟩
  · exact h
  · exact h

theorem AgrY.eptrOk {γ γ' : Nat → Gh} (A : AgrY γ γ') {L : List AObj} {id : Nat} {p : Pth} {g i off : Nat} {v : Value} (h : EptrOk γ L id p g i off v) : EptrOk γ' L id p g i off v := by
  unfold EptrOk at *
  split at h
  · obtain ⟨h1, h2⟩ := h
    refine ⟨h1, fun e => ?_⟩
    obtain ⟨es', e1, b, c, sz, h3, h4, h5, h6, h7, h8⟩ := h2 e
    exact ⟨es', e1, b, c, sz, h3, h4, h5, h6, h7, (A.ow _ _ _ _).2 h8⟩
  · exact h
  · exact h

theorem RV.agrY {γ γ' : Nat → Gh} (A : AgrY γ γ') {L : List AObj} {x : AV} {v : Value} (h : RV γ L x v) : noY x = true → RV γ' L x v := by
  induction h with
  | int k n => intro _; exact .int k n
  | bool b => intro _; exact .bool b
  | str s => intro _; exact .str s
  | lit v h => intro _; exact .lit v h
  | sl own es A' n c sz vals hn hc hsz h2 h1 h3 ih =>
    intro hy
    simp only [noY] at hy
    exact .sl own es A' n c sz vals hn hc hsz (fun i e j x a b => A.roCell (h2 i e j x a b)) h1 fun i e j x a b => ih i e j x a b (noY_cells (noYL_mem.1 hy e (List.mem_of_getElem? a)) (List.mem_of_getElem? b))
  | agg cs vs hn h1 h ih => intro hy; simp only [noY] at hy; exact .agg cs vs hn h1 fun i x hx => ih i x hx (noYL_mem.1 hy x (List.mem_of_getElem? hx))
  | tup cs vs hn h ih => intro hy; simp only [noY] at hy; exact .tup cs vs hn fun i x hx => ih i x hx (noYL_mem.1 hy x (List.mem_of_getElem? hx))
  | ref id p g n v h h1 => intro _; exact .ref id p g n v (A.refOk h) h1
  | ptr id off b c T cs hL h => intro _; exact .ptr id off b c T cs hL ((A.ow _ _ _ _).2 h)
  | eptr id p g i off v h h1 => intro _; exact .eptr id p g i off v (A.eptrOk h) h1
  | rptr x off b o vals h2 h1 h3 ih => intro hy; simp only [noY] at hy; exact .rptr x off b o vals (fun j y a => A.roCell (h2 j y a)) h1 fun j y a => ih j y a (noY_cells hy (List.mem_of_getElem? a))
  | fn f cs vs hn h ih => intro hy; simp only [noY] at hy; exact .fn f cs vs hn fun i x hx => ih i x hx (noYL_mem.1 hy x (List.mem_of_getElem? hx))
  | map id b c kt vt es hL h => intro _; exact .map id b c kt vt es hL ((A.ow _ _ _ _).2 h)
  | yld l r ts h hts ih => intro hy; simp [noY] at hy
  | junk v => intro _; exact .junk v

theorem BlockRep.agrY {γ γ' : Nat → Gh} (A : AgrY γ γ') {L : List AObj} {o : Obj} {id : Nat} {p : Pth} {c : Nat} (hy : L.all noYO = true) (h : BlockRep γ L o id p c) : BlockRep γ' L o id p c := by
  unfold BlockRep at *
  split at h
  · rename_i T cs hL
    have hy := List.all_eq_true.1 hy _ (List.mem_of_getElem? hL)
    obtain ⟨h1, arr, h2, h3, h4⟩ := h
    refine ⟨h1, arr, h2, h3, fun j x hx => ?_⟩
    obtain ⟨v, a, b, c⟩ := h4 j x hx
    exact ⟨v, a, b, c.agrY A (noYL_mem.1 hy x (List.mem_of_getElem? hx))⟩
  · rename_i T sz g es hL
    have hy := List.all_eq_true.1 hy _ (List.mem_of_getElem? hL)
    obtain ⟨es', s, arr, T', h1, h2, h3, h4, h5, h6, h7⟩ := h
    have hy' := noYL_sub _ _ _ hy h1
    refine ⟨es', s, arr, T', h1, h2, h3, h4, h5, h6, h7.1, fun i e j x hi hj => ?_⟩
    obtain ⟨v, a, b, c⟩ := h7.2 i e j x hi hj
    refine ⟨v, a, b, ?_⟩
    have hx : noY x = true := noY_cells (noYL_mem.1 hy' e (List.mem_of_getElem? hi)) (List.mem_of_getElem? hj)
    unfold CV at *
    split at c
    · rcases c with ⟨h1, h2, h3⟩ | ⟨b, c, h1, h2⟩
      · exact .inl ⟨h1, h2, fun b c hb => h3 b c ((A.ow _ _ _ _).1 hb)⟩
      · exact .inr ⟨b, c, h1, (A.ow _ _ _ _).2 h2⟩
    · exact c.agrY A hx
  · exact h
  · exact h

theorem newG_same (γ : Nat → Gh) (n : Nat) (g : Gh) : newG γ n g n = g := by simp [newG]
theorem newG_other {γ : Nat → Gh} {n b : Nat} {g : Gh} (h : b ≠ n) : newG γ n g b = γ b := by simp [newG, h]

theorem agrY_hush {γ : Nat → Gh} {l : Nat} {r : Loop} (h : γ l = .ro (.loop r)) : AgrY γ (newG γ l .out) := by
  refine ⟨fun b o hb hn => ?_, fun b id p c => ?_⟩
  · have hne : b ≠ l := fun e => by rw [e, h] at hb; cases hb; exact hn _ rfl
    rw [newG_other hne]; exact hb
  · by_cases hne : b = l
    · subst hne; rw [newG_same, h]; exact ⟨fun h => (by cases h), fun h => (by cases h)⟩
    · rw [newG_other hne]

theorem agr_wake {γ : Nat → Gh} {l : Nat} {r : Loop} (h : γ l = .out) : Agr γ (newG γ l (.ro (.loop r))) := by
  refine ⟨fun b o hb hn => ?_, fun b id p c => ?_⟩
  · have hne : b ≠ l := fun e => by rw [e, h] at hb; cases hb
    rw [newG_other hne]; exact hb
  · by_cases hne : b = l
    · subst hne; rw [newG_same, h]; exact ⟨fun h => (by cases h), fun h => (by cases h)⟩
    · rw [newG_other hne]

theorem BlockRep.noLoop {γ : Nat → Gh} {L : List AObj} {o : Obj} {id : Nat} {p : Pth} {c : Nat} (h : BlockRep γ L o id p c) : ∀ x, o ≠ .loop x := by
  intro x e
  subst e
  unfold BlockRep at h
  split at h
  · obtain ⟨_, _, h, _⟩ := h; cases h
  · obtain ⟨_, _, _, _, _, h, _⟩ := h; cases h
  · obtain ⟨_, _, _, h, _⟩ := h; cases h
  · exact h

/-- The record is not looked at any more; it may turn. -/
theorem Inv.hush {γ : Nat → Gh} {L : List AObj} {w w' : World} {l : Nat} {r : Loop} (h : Inv γ L w) (hl : γ l = .ro (.loop r)) (hy : L.all noYO = true) (hw : ∀ b : Nat, b ≠ l → w'.heap[b]? = w.heap[b]?) :
    Inv (newG γ l .out) L w' := by
  have A := agrY_hush hl
  have ne : ∀ {b id p c}, γ b = .ow id p c → b ≠ l := fun hb e => by rw [e, hl] at hb; cases hb
  refine ⟨fun b o hb => ?_, fun b id p c hb => ?_, fun b b' id p c c' h1 h2 => h.inj b b' id p c c' ((A.ow _ _ _ _).1 h1) ((A.ow _ _ _ _).1 h2), fun id T cs hL => ?_, fun id kt vt es hL => ?_⟩
  · have hne : b ≠ l := fun e => by rw [e, newG_same] at hb; cases hb
    rw [newG_other hne] at hb
    rw [hw b hne]; exact h.ro b o hb
  · have hb := (A.ow _ _ _ _).1 hb
    obtain ⟨o, ho, hr⟩ := h.ow b id p c hb
    exact ⟨o, by rw [hw b (ne hb)]; exact ho, hr.agrY A hy⟩
  · obtain ⟨b, c, hb⟩ := h.box id T cs hL; exact ⟨b, c, (A.ow _ _ _ _).2 hb⟩
  · obtain ⟨b, c, hb⟩ := h.map id kt vt es hL; exact ⟨b, c, (A.ow _ _ _ _).2 hb⟩

/-- The record is known again. -/
theorem Inv.wake {γ : Nat → Gh} {L : List AObj} {w w' : World} {l : Nat} {r : Loop} (h : Inv γ L w) (hl : γ l = .out) (hw : ∀ b : Nat, b ≠ l → w'.heap[b]? = w.heap[b]?) (hr : w'.heap[l]? = some (.loop r)) :
    Inv (newG γ l (.ro (.loop r))) L w' := by
  have A : Agr γ (newG γ l (.ro (.loop r))) := agr_wake hl
  have ne : ∀ {b id p c}, γ b = .ow id p c → b ≠ l := fun hb e => by rw [e, hl] at hb; cases hb
  refine ⟨fun b o hb => ?_, fun b id p c hb => ?_, fun b b' id p c c' h1 h2 => h.inj b b' id p c c' ((A.ow _ _ _ _).1 h1) ((A.ow _ _ _ _).1 h2), fun id T cs hL => ?_, fun id kt vt es hL => ?_⟩
  · by_cases hne : b = l
    · subst hne; rw [newG_same] at hb; cases hb; exact hr
    · rw [newG_other hne] at hb
      rw [hw b hne]; exact h.ro b o hb
  · have hb := (A.ow _ _ _ _).1 hb
    obtain ⟨o, ho, hr⟩ := h.ow b id p c hb
    exact ⟨o, by rw [hw b (ne hb)]; exact ho, hr.agr A⟩
  · obtain ⟨b, c, hb⟩ := h.box id T cs hL; exact ⟨b, c, (A.ow _ _ _ _).2 hb⟩
  · obtain ⟨b, c, hb⟩ := h.map id kt vt es hL; exact ⟨b, c, (A.ow _ _ _ _).2 hb⟩

/-- A block that is not known turns. -/
theorem Inv.idle {γ : Nat → Gh} {L : List AObj} {w w' : World} {l : Nat} (h : Inv γ L w) (hl : γ l = .out) (hw : ∀ b : Nat, b ≠ l → w'.heap[b]? = w.heap[b]?) : Inv γ L w' := by
  refine ⟨fun b o hb => ?_, fun b id p c hb => ?_, h.inj, h.box, h.map⟩
  · rw [hw b (fun e => by rw [e, hl] at hb; cases hb)]; exact h.ro b o hb
  · obtain ⟨o, ho, hr⟩ := h.ow b id p c hb
    exact ⟨o, by rw [hw b (fun e => by rw [e, hl] at hb; cases hb)]; exact ho, hr⟩

/-- The round's variables are laid into the record's. -/
def setP (ps : List Tmp) (xs : List AV) (s : St) : St := (ps.zip xs).foldl (fun s q => s.put (some q.1) q.2) s

theorem setP_L : ∀ (ps : List Tmp) (xs : List AV) (s : St), (setP ps xs s).L = s.L
  | [], _, _ => rfl
  | _ :: _, [], _ => rfl
  | p :: ps, x :: xs, s => by
    show (setP ps xs (s.put (some p) x)).L = s.L
    rw [setP_L ps xs]; rfl

theorem Rel.setP {γ : Nat → Gh} {w : World} : ∀ (ps : List Tmp) (xs : List AV) (vs : List Value) (s : St) (a : Act), xs.length = vs.length → (∀ (i : Nat) x, xs[i]? = some x → RV γ s.L x (vs.getD i undef)) → Rel γ s a w →
    Rel γ (setP ps xs s) { a with tmps := (ps.zip vs).foldl (fun t q => t.setIfInBounds q.1 q.2) a.tmps } w
  | [], xs, vs, s, a, hl, hv, hr => hr
  | p :: ps, [], [], s, a, hl, hv, hr => hr
  | p :: ps, [], v :: vs, s, a, hl, hv, hr => by simp at hl
  | p :: ps, x :: xs, [], s, a, hl, hv, hr => by simp at hl
  | p :: ps, x :: xs, v :: vs, s, a, hl, hv, hr => by
    have h1 := hr.put (some p) (hv 0 x rfl)
    exact Rel.setP ps xs vs (s.put (some p) x) (a.put (some p) v) (by simpa using hl) (fun i y hy => by rw [St.put_L]; exact hv (i + 1) y hy) h1

/-- What a call of yield does: a round of the loop whose record is 'r', which goes on. -/
def YC (P : Program) (l : Nat) (r : Loop) (ts : List AV) (args : List AV) (L L' : List AObj) : Prop :=
  args.length = r.params.size ∧ ∀ γ w vs, γ l = .ro (.loop r) → Inv γ L w → (∀ (i : Nat) x, ts[i]? = some x → RV γ L x (r.tmps.getD i undef)) → ArgsR γ L args vs → ∀ ro,
    RoundIn (FW ro) 0 P l r.fn ((r.params.zip vs).foldl (fun t (p, v) => t.setIfInBounds p v) r.tmps) r.assign r.body w fun e w' =>
      e = .returned (.bool true) ∧ ∃ γ', Inv γ' L' w' ∧ Ext γ L γ' L' ∧ Stp γ w γ' w'

theorem yield_sound {P : Program} {o : Oper} {s : St} {l : Nat} {r : Loop} {ts : List AV} {args : Array Operand} {ats : Array TypeId} {x : Operand} {L' : List AObj}
    (ho : o.op = .call { callee := .value x, args := args, argTypes := ats }) (hx : s.ev x = .yld l r ts)
    (h : YC P l r ts (args.toList.map s.ev) s.L L') : OpS P o s ({ s with L := L' }.put o.dst (.bool true)) := by
  intro γ a w K Q hr hK
  have hxv := hr.ev x
  rw [hx] at hxv
  generalize hxe : a.eval x = v at hxv
  cases hxv with
  | yld _ _ _ hl hts =>
    have hh := hr.inv.ro _ _ hl
    have hsz : (args.map a.eval).size = r.params.size := by rw [← h.1]; simp
    have hrun : (execOp a.eval o).run P w = .ok (.round l r.fn ((r.params.zip (args.map a.eval)).foldl (fun t (p, v) => t.setIfInBounds p v) r.tmps) r.assign r.body) w := by
      unfold execOp
      rw [ho]
      have := run_yield (P := P) hh hsz
      simp [resolve, hxe, Deferred.ofValue, invoke, this]
    refine .inr ⟨_, _, _, _, _, _, hrun, fun ro => RoundIn.mono (h.2 γ w _ hl hr.inv hts ⟨by simp, fun i y hy => ?_⟩ ro) ?_⟩
    · simp only [List.getElem?_map, Option.map_eq_some_iff] at hy
      obtain ⟨z, hz, rfl⟩ := hy
      have hlt := (List.getElem?_eq_some_iff.1 hz).1
      simp at hlt
      have hz' : args[i] = z := by simpa [hlt] using hz
      simp [Array.getD, hlt, hz']
      exact hr.ev z
    · rintro e w' ⟨rfl, γ', hI, hE, hS⟩
      exact ⟨_, rfl, hK γ' _ w' ((hr.mono hE hI).put o.dst (.bool true)) (by rw [St.put_L]; exact hE) hS⟩

theorem RunL.cally {P : Program} {k : Oper → Knd} {ops : Array Oper} {K : St → Prop} {o : Oper} {rest : List Oper} {s : St} {x : Operand} {l : Nat} {r : Loop} {ts : List AV} {args : Array Operand} {ats : Array TypeId} {L' : List AObj}
    (hg : guardA ops s o = some true) (ho : o.op = .call { callee := .value x, args := args, argTypes := ats }) (hc : s.ev x = .yld l r ts) (hkd : Knd.le .C (k o) = true) (hal : isAlloc k o = false ∨ ∃ X, L' = s.L ++ X)
    (h : YC P l r ts (args.toList.map s.ev) s.L L') (hk : R P k ops rest ({ s with L := L' }.put o.dst (.bool true)) K) : RunL P k ops (o :: rest) s K := by
  refine .op ⟨.C, .bool true, L'⟩ hkd ⟨⟨fun h _ => hal.resolve_left (by rw [h]; exact fun e => (nomatch e)), fun h => (nomatch h)⟩, fun s1 ha hL => ⟨by rw [agree_guard ha]; exact hg, ?_⟩⟩ (R.sound hk)
  have he : args.toList.map s1.ev = args.toList.map s.ev :=
    map_congr_ev fun y hy => agree_ev ha (by rw [ho]; simp [Op.operands, Call.operands]; exact .inr (by simpa using hy))
  have hx1 : s1.ev x = .yld l r ts := by rw [agree_ev ha (by rw [ho]; simp [Op.operands, Call.operands])]; exact hc
  have hL : s1.L = s.L := hL
  exact yield_sound (P := P) (s := s1) ho hx1 (by rw [he, hL]; exact h)

/-- **A loop over a function, whose rounds all go on**: 'Ls k' is what the call owns when k rounds are over, 'xs k' what the k-th round is handed. -/
theorem AWp.range {P : Program} {g : Operand} {params : Array Tmp} {assign body : Code} {Q : Exit → St → Prop} {s : St} {F : FuncId} {cap : List AV} {z : AV} (hg : s.ev g = .fn F cap) (hF : okFn P F = true)
    (hpl : plainC assign = true ∧ plainC body = true) (n : Nat) (Ls : Nat → List AObj) (xs : Nat → List AV) (h0 : s.L = Ls 0) (hlen : ∀ k, k < n → (xs k).length = params.size)
    (hny : ∀ k, k ≤ n → (Ls k).all noYO = true) (hnt : noYL s.t = true) (hnx : ∀ k, k < n → noYL (xs k) = true)
    (hit : ∀ l r ts, (∀ k, k < n → YC P l r ts (xs k) (Ls k) (Ls (k + 1))) → Ct P F (.yld l r ts :: cap) (Ls 0) z (Ls n))
    (hround : ∀ k, k < n → AWp P assign (ExThen (AWp P body fun e s' => e = .normal ∧ s'.L = Ls (k + 1)) fun _ _ => False) (setP params.toList (xs k) ⟨s.t, Ls k⟩))
    (hQ : Q .normal ⟨s.t, Ls n⟩) : AWp P (.rangeFunc g params assign body) Q s := by
  intro ro γ a w hp hr
  have hro : ro = none := hp.resolve_right (by simp [plainC])
  subst hro
  refine wpIn_rangeFunc ?_
  intro fn _
  have hgv := hr.ev g
  rw [hg] at hgv
  generalize hge : a.eval g = gv at hgv
  cases hgv with
  | fn _ _ vcap hnc hcap =>
  obtain ⟨rec, hrec⟩ : ∃ rec : Loop, rec = { state := .ready, pending := none, fn, tmps := a.tmps, params, assign, body, defers := w.heap.size } := ⟨_, rfl⟩
  have hD : γ w.heap.size = .out := hr.inv.out (Nat.le_refl _)
  obtain ⟨E1, I1, S1⟩ := hr.inv.allocRo (.deferred (some []))
  generalize hγ1 : newG γ w.heap.size (.ro (.deferred (some []))) = γ1 at E1 I1 S1
  obtain ⟨E2, I2, S2⟩ := I1.allocRo (.loop rec)
  have hsz1 : (w.alloc (.deferred (some []))).heap.size = w.heap.size + 1 := by rw [World.size_alloc]
  rw [hsz1] at E2 I2 S2
  generalize hγ2 : newG γ1 (w.heap.size + 1) (.ro (.loop rec)) = γ2 at E2 I2 S2
  have hl2 : γ2 (w.heap.size + 1) = .ro (.loop rec) := by rw [← hγ2, newG_same]
  have hD2 : γ2 w.heap.size = .ro (.deferred (some [])) := by rw [← hγ2, newG_other (by omega), ← hγ1, newG_same]
  have E := E1.trans E2
  have S := S1.trans S2
  have hts : ∀ (i : Nat) x, s.t[i]? = some x → RV γ2 s.L x (rec.tmps.getD i undef) := fun i x hx => by rw [hrec]; exact (hr.tmps i x hx).mono E
  obtain ⟨W2, hW2⟩ : ∃ W2, W2 = (w.alloc (.deferred (some []))).alloc (.loop rec) := ⟨_, rfl⟩
  rw [← hW2] at I2 S2 S
  have hent : (Instr.enterLoop fn a.tmps params assign body none).run P w = .ok (w.heap.size + 1, [{ target := .collected w.heap.size, args := #[] }]) W2 := by
    rw [hW2, hrec]; exact run_enterLoop_outer _ _ _ _ _
  refine ⟨w.heap.size + 1, [{ target := .collected w.heap.size, args := #[] }], W2, { target := .fn (.func F) vcap, args := #[.func (.yield (w.heap.size + 1)) #[] #[]] }, W2, F,
    #[.func (.yield (w.heap.size + 1)) #[] #[]] ++ vcap, W2, hent, ?_, fun _ _ => trivial, ?_, fun h => (by simp [FW] at h), ?_⟩
  · simp [resolve, hge, Deferred.ofValue]
    rfl
  · simp [invoke, run_callFunc hF]
  have hyc : ∀ k, k < n → YC P (w.heap.size + 1) rec s.t (xs k) (Ls k) (Ls (k + 1)) := by
    intro k hk
    refine ⟨by rw [hrec]; exact hlen k hk, fun γ w' vs hl hI ht ha ro => ?_⟩
    generalize hln : w.heap.size + 1 = l at *
    have hh := hI.ro _ _ hl
    have hlt : l < w'.heap.size := (Array.getElem?_eq_some_iff.1 hh).1
    have A := agrY_hush hl
    have hyk := hny k (by omega)
    have hyk1 := hny (k + 1) (by omega)
    have hIb : Inv (newG γ l .out) (Ls k) w' := hI.hush hl hyk fun b _ => rfl
    have hr0 : Rel (newG γ l .out) ⟨s.t, Ls k⟩ { tmps := rec.tmps, defers := [] } w' := ⟨.nil, by rw [hrec]; exact hr.size, fun i x hx => (ht i x hx).agrY A (noYL_mem.1 hnt x (List.mem_of_getElem? hx)), hIb⟩
    have hr1 := Rel.setP params.toList (xs k) vs.toList _ _ (by simp [ha.1]) (fun i x hx => by
      have := ha.2 i x hx
      have e : vs.toList.getD i undef = vs.getD i undef := by simp [List.getD_eq_getElem?_getD, Array.getD_eq_getD_getElem?]
      rw [e]
      exact this.agrY A (noYL_mem.1 (hnx k hk) x (List.mem_of_getElem? hx))) hr0
    have hfold : (rec.params.zip vs).foldl (fun t (p, v) => t.setIfInBounds p v) rec.tmps = (params.toList.zip vs.toList).foldl (fun t q => t.setIfInBounds q.1 q.2) rec.tmps := by
      rw [← Array.foldl_toList, Array.toList_zip, hrec]
    rw [hfold]
    have hfn : rec.fn = fn := by rw [hrec]
    have ha1 : rec.assign = assign := by rw [hrec]
    have hb1 : rec.body = body := by rw [hrec]
    rw [ha1, hb1]
    refine roundIn_of_wpIn trivial ?_
    refine wpIn_mono (hround k hk (some l) _ _ w' (.inr hpl.1) hr1) ?_
    rintro e a1 w1 ⟨γ1', s1, r1, e1, st1, q1⟩
    have hLs : (setP params.toList (xs k) ⟨s.t, Ls k⟩).L = Ls k := setP_L _ _ _
    rw [hLs] at e1
    cases e with
    | normal =>
      have hl1 := st1.out l hlt (newG_same _ _ _)
      have hh1 : w1.heap[l]? = some (.loop rec) := hl1.2.trans hh
      have hlt1 : l < w1.heap.size := (Array.getElem?_eq_some_iff.1 hh1).1
      refine ⟨_, run_beginRound hh1 (by rw [hrec]), ?_⟩
      have hw2 : ∀ (o : Obj) (w : World) (b : Nat), b ≠ l → (w.putObj l o).heap[b]? = w.heap[b]? := fun o w b hb => World.putObj_heap_other hb
      have r2 : Rel γ1' s1 a1 (w1.putObj l (.loop { rec with state := .busy })) := ⟨r1.defers, r1.size, r1.tmps, r1.inv.idle hl1.1 (hw2 _ _)⟩
      refine wpIn_mono (q1 (some l) γ1' a1 _ (.inr hpl.2) r2) ?_
      rintro e3 a3 w3 ⟨γ3, s3, r3, e3', st3, rfl, hL3⟩
      have hl3 := st3.out l (by rw [World.putObj_size]; exact hlt1) hl1.1
      have hh3 : w3.heap[l]? = some (.loop { rec with state := .busy }) := hl3.2.trans (World.putObj_heap_same hlt1)
      have hend := run_endRound (P := P) (none : Option Code) hh3
      refine ⟨_, _, hend, rfl, newG γ3 l (.ro (.loop rec)), ?_, ?_, ?_⟩
      · have hI3 := r3.inv
        rw [hL3] at hI3
        refine hI3.wake hl3.1 (hw2 _ _) ?_
        rw [World.putObj_heap_same (Array.getElem?_eq_some_iff.1 hh3).1, hrec]; rfl
      · have e13 := e1.trans e3'
        rw [hL3] at e13
        have A3 : Agr γ3 (newG γ3 l (.ro (.loop rec))) := agr_wake hl3.1
        refine ⟨fun b o hb => ?_, e13.ob, fun b id p c hb => ?_, fun id T sz g es T' sz' es' hL hL' p e4 he b c hb => (A.ow _ _ _ _).1 (e13.nil id T sz g es T' sz' es' hL hL' p e4 he b c ((A3.ow _ _ _ _).1 hb))⟩
        · by_cases hbl : b = l
          · subst hbl; rw [hl] at hb; cases hb; exact newG_same _ _ _
          · rw [newG_other hbl]; exact e13.ro b o (by rw [newG_other hbl]; exact hb)
        · exact (e13.lab b id p c ((A.ow _ _ _ _).2 hb)).imp (fun k => (A3.ow _ _ _ _).2 k) (fun k => k)
      · refine ⟨st3.os.trans st1.os, st3.tape.trans st1.tape, st3.output.trans st1.output, ?_, fun b o hb => ?_, fun b hb ho => ?_⟩
        · have h1 := st1.size
          have h2 := st3.size
          rw [World.putObj_size] at h2
          rw [World.putObj_size]; omega
        · by_cases hbl : b = l
          · subst hbl; rw [hl] at hb; cases hb; exact newG_same _ _ _
          · rw [newG_other hbl]; exact e3'.ro b o (e1.ro b o (by rw [newG_other hbl]; exact hb))
        · have hbl : b ≠ l := fun e => by rw [e, hl] at ho; cases ho
          obtain ⟨k1, k2⟩ := st1.out b hb (by rw [newG_other hbl]; exact ho)
          obtain ⟨k3, k4⟩ := st3.out b (by rw [World.putObj_size]; have := st1.size; omega) k1
          refine ⟨by rw [newG_other hbl]; exact k3, ?_⟩
          rw [hw2 _ _ b hbl, k4, hw2 _ _ b hbl, k2]
    | ret => exact q1.elim
    | exit id => exact q1.elim
    | goto id => exact q1.elim
    | panic c => exact q1.elim
    | outgrown => exact q1.elim
  have hct := hit (w.heap.size + 1) rec s.t hyc
  rw [h0] at I2 E2 E hts
  have hargs : ArgsR γ2 (Ls 0) (.yld (w.heap.size + 1) rec s.t :: cap) (#[.func (.yield (w.heap.size + 1)) #[] #[]] ++ vcap) := by
    refine ⟨by simp [hnc]; omega, fun i x hx => ?_⟩
    cases i with
    | zero =>
      simp only [List.getElem?_cons_zero, Option.some.injEq] at hx
      subst hx
      have : (#[Value.func (.yield (w.heap.size + 1)) #[] #[]] ++ vcap).getD 0 undef = .func (.yield (w.heap.size + 1)) #[] #[] := by simp [Array.getD_eq_getD_getElem?, Array.getElem?_append]
      rw [this]
      exact .yld _ _ _ hl2 hts
    | succ i =>
      simp only [List.getElem?_cons_succ] at hx
      have hv := hcap i x hx
      have : (#[Value.func (.yield (w.heap.size + 1)) #[] #[]] ++ vcap).getD (i + 1) undef = vcap.getD i undef := by
        simp [Array.getD_eq_getD_getElem?, Array.getElem?_append]
      rw [this]
      rw [h0] at hv
      exact hv.mono E
  refine (callsIn_FW (hct γ2 _ _ I2 hargs)).mono ?_
  rintro e w3 ⟨γ3, v, rfl, I3, _, E3, S3⟩
  have hl3 : γ3 (w.heap.size + 1) = .ro (.loop rec) := E3.ro _ _ hl2
  have hD3 : γ3 w.heap.size = .ro (.deferred (some [])) := E3.ro _ _ hD2
  have hh3 := I3.ro _ _ hl3
  have hend := run_endLoop (P := P) hh3 (by rw [hrec]; simp)
  have hpe : rec.pending = none := by rw [hrec]
  rw [hpe] at hend
  refine ⟨none, _, hend, newG γ3 (w.heap.size + 1) .out, ⟨s.t, Ls n⟩, ?_, ?_, ?_, hQ⟩
  · have E4 := E.trans E3
    have A := agrY_hush hl3
    refine ⟨?_, hr.size, fun i x hx => ?_, I3.hush hl3 (hny n (Nat.le_refl _)) fun b hb => World.putObj_heap_other hb⟩
    · obtain ⟨rs, h1, h2, h3⟩ := hr.defers
      have hlt : ∀ r ∈ rs, r < w.heap.size := fun r hm => (Array.getElem?_eq_some_iff.1 (hr.inv.ro _ _ (h3 r hm))).1
      refine ⟨w.heap.size :: rs, List.nodup_cons.2 ⟨fun hm => by have := hlt _ hm; omega, h1⟩, by rw [List.map_cons, ← h2]; rfl, fun r hm => ?_⟩
      rcases List.mem_cons.1 hm with rfl | hm
      · rw [newG_other (by omega)]; exact hD3
      · have := hlt r hm
        rw [newG_other (by omega)]; exact E4.ro _ _ (h3 r hm)
    · have hv := hr.tmps i x hx
      rw [h0] at hv
      exact (hv.mono E4).agrY A (noYL_mem.1 hnt x (List.mem_of_getElem? hx))
  · have E4 := E.trans E3
    have A := agrY_hush hl3
    refine ⟨fun b o hb => ?_, by rw [h0]; exact E4.ob, fun b id p c hb => ?_, fun id T sz g es T' sz' es' hL hL' p e4 he b c hb => ?_⟩
    · have hlt := (Array.getElem?_eq_some_iff.1 (hr.inv.ro _ _ hb)).1
      rw [newG_other (by omega)]; exact E4.ro b o hb
    · rw [h0]; exact (E4.lab b id p c hb).imp (fun k => (A.ow _ _ _ _).2 k) (fun k => k)
    · rw [h0] at hL; exact E4.nil id T sz g es T' sz' es' hL hL' p e4 he b c ((A.ow _ _ _ _).1 hb)
  · have S4 := S.trans S3
    refine ⟨S4.os, S4.tape, S4.output, by rw [World.putObj_size]; exact S4.size, fun b o hb => ?_, fun b hb ho => ?_⟩
    · have hlt := (Array.getElem?_eq_some_iff.1 (hr.inv.ro _ _ hb)).1
      rw [newG_other (by omega)]; exact S4.ro b o hb
    · obtain ⟨k1, k2⟩ := S4.out b hb ho
      rw [newG_other (by omega)]
      exact ⟨k1, (World.putObj_heap_other (by omega)).trans k2⟩

end Go.Proofs.Ytphmkhaboghagaa.K
/-
  Ordinals as trees: differences. No program in sight.
-/
namespace Go.Proofs.Ytphmkhaboghagaa
open Go K Od
set_option linter.unusedSimpArgs false
set_option linter.unusedVariables false

/-- What makes the second up to the first. -/
def lessS : Od → Od → Od
  | .nil, _ => .nil
  | .cons e c r, .nil => .cons e c r
  | .cons e c r, .cons e' c' r' => if cmpT e e' ≠ 0 then .cons e c r else if c ≠ c' then .cons e (c - c') r else lessS r r'
theorem lessS_cons (e e' : Od) (c c' : Int) (r r' : Od) : lessS (.cons e c r) (.cons e' c' r') = if cmpT e e' ≠ 0 then .cons e c r else if c ≠ c' then .cons e (c - c') r else lessS r r' := rfl
theorem lessS_nil (a : Od) : lessS a .nil = a := by cases a <;> rfl
theorem lessS_sz : ∀ a b : Od, (lessS a b).sz ≤ a.sz
  | .nil, _ => by simp [lessS, sz]
  | .cons e c r, .nil => by simp [lessS]
  | .cons e c r, .cons e' c' r' => by
    have := lessS_sz r r'
    unfold lessS
    split
    · exact Nat.le_refl _
    · split
      · simp [sz]
      · simp only [sz]; omega

end Go.Proofs.Ytphmkhaboghagaa
/-
  Ordinals as trees: sums. No program in sight.
-/
namespace Go.Proofs.Ytphmkhaboghagaa
open Go K Od
set_option linter.unusedSimpArgs false
set_option linter.unusedVariables false

/-- Exponents decrease. -/
def desc : Option Od → Od → Prop
  | _, .nil => True
  | p, .cons e c r => below p e = true ∧ desc (some e) r
theorem formG_desc : ∀ {a : Od} {n : Nat} {p : Option Od}, formG a n p = true → desc p a
  | .nil, _, _, _ => trivial
  | .cons e c r, n, p, h => by
    rw [formG_cons] at h
    simp only [Bool.and_eq_true] at h
    exact ⟨h.1.2, formG_desc h.2⟩
theorem goodT_desc {a : Od} (h : goodT a = true) : desc none a := by
  simp only [goodT, Bool.and_eq_true] at h; exact formG_desc h.2

/-- What a sum's second part does to the first. -/
def plusA (e : Od) (c : Int) (r : Od) : Od → Od
  | .nil => .cons e c r
  | .cons x k q => if 0 < cmpT x e then .cons x k (plusA e c r q) else if cmpT x e = 0 then .cons x (k + c) r else plusA e c r q
def plusT (a : Od) : Od → Od
  | .nil => a
  | .cons e c r => plusA e c r a
/-- Terms that are less vanish. -/
def pop (e : Od) : Od → Od
  | .nil => .nil
  | .cons x k r => match pop e r with | .nil => if cmpT x e < 0 then .nil else .cons x k .nil | .cons x' k' q => .cons x k (.cons x' k' q)
theorem pop_snoc (e : Od) (x : Od) (k : Int) : ∀ d : Od, pop e (d.app (.cons x k .nil)) = if cmpT x e < 0 then pop e d else d.app (.cons x k .nil)
  | .nil => by simp only [Od.app, pop]
  | .cons x' k' d => by
    simp only [Od.app, pop, pop_snoc e x k d]
    by_cases hx : cmpT x e < 0
    · simp only [if_pos hx]
    · simp only [if_neg hx]
      cases h : d.app (.cons x k .nil) with
      | nil => have := congrArg len h; simp [len_app, len] at this
      | cons _ _ _ => rfl
def addEnd (e : Od) (c : Int) : Od → Od
  | .nil => .cons e c .nil
  | .cons x k .nil => if cmpT x e = 0 then .cons x (k + c) .nil else .cons x k (.cons e c .nil)
  | .cons x k (.cons x' k' r) => .cons x k (addEnd e c (.cons x' k' r))
theorem addEnd_snoc (e : Od) (c : Int) (x : Od) (k : Int) : ∀ d : Od, addEnd e c (d.app (.cons x k .nil)) = if cmpT x e = 0 then d.app (.cons x (k + c) .nil) else d.app (.cons x k (.cons e c .nil))
  | .nil => by simp only [Od.app, addEnd]
  | .cons x' k' .nil => by simp only [Od.app, addEnd]; split <;> rfl
  | .cons x' k' (.cons x2 k2 d) => by
    have := addEnd_snoc e c x k (.cons x2 k2 d)
    simp only [Od.app] at this
    simp only [Od.app, addEnd, this]; split <;> rfl
def odPlusT : Od → Od → Od
  | a, .nil => a
  | a, .cons e c r => odPlusT (addEnd e c (pop e a)) r
theorem odPlusT_cons (a e r : Od) (c : Int) : odPlusT a (.cons e c r) = odPlusT (addEnd e c (pop e a)) r := rfl

theorem cmp_lt {y x e : Od} (h1 : below (some y) x = true) (h2 : cmpT y e ≤ 0) : cmpT x e < 0 := by
  simp only [below, decide_eq_true_eq] at h1
  by_cases h : cmpT y e = 0
  · have := cmpT_zero h; subst this
    have := cmpT_anti y x; omega
  · have h3 : 0 < cmpT e y := by have := cmpT_anti y e; omega
    have := cmpT_trans h3 h1
    have := cmpT_anti e x; omega
theorem pop_all {e : Od} : ∀ {q y : Od}, desc (some y) q → cmpT y e ≤ 0 → pop e q = .nil
  | .nil, _, _, _ => rfl
  | .cons x k q, y, h1, h2 => by
    have h3 := cmp_lt h1.1 h2
    simp only [pop, pop_all h1.2 (Int.le_of_lt h3), if_pos h3]
theorem plusA_all {e r : Od} {c : Int} : ∀ {q y : Od}, desc (some y) q → cmpT y e ≤ 0 → plusA e c r q = .cons e c r
  | .nil, _, _, _ => rfl
  | .cons x k q, y, h1, h2 => by
    have h3 := cmp_lt h1.1 h2
    simp only [plusA]
    rw [if_neg (by omega), if_neg (by omega), plusA_all h1.2 (Int.le_of_lt h3)]
theorem plus_step {e r : Od} {c : Int} : ∀ {a : Od} {p : Option Od}, desc p a → ∃ (d : Od) (k : Int), addEnd e c (pop e a) = d.app (.cons e k .nil) ∧ plusA e c r a = d.app (.cons e k r)
  | .nil, _, _ => ⟨.nil, c, rfl, rfl⟩
  | .cons x k q, p, h => by
    rcases Int.lt_trichotomy (cmpT x e) 0 with h1 | h1 | h1
    · refine ⟨.nil, c, ?_, ?_⟩
      · simp only [pop, pop_all h.2 (Int.le_of_lt h1), if_pos h1]; rfl
      · simp only [plusA]
        rw [if_neg (by omega), if_neg (by omega), plusA_all h.2 (Int.le_of_lt h1)]; rfl
    · have hx := cmpT_zero h1
      refine ⟨.nil, k + c, ?_, ?_⟩
      · simp only [pop, pop_all h.2 (Int.le_of_eq h1)]
        rw [if_neg (by omega)]
        simp only [addEnd, if_pos h1]; rw [hx]; rfl
      · simp only [plusA]
        rw [if_neg (by omega), if_pos h1, hx]; rfl
    · obtain ⟨d, k', e1, e2⟩ := plus_step (e := e) (r := r) (c := c) h.2
      refine ⟨.cons x k d, k', ?_, ?_⟩
      · have h2 : pop e (.cons x k q) = .cons x k (pop e q) := by
          simp only [pop]
          cases pop e q with
          | nil => simp only; rw [if_neg (by omega)]
          | cons _ _ _ => rfl
        rw [h2]
        have h3 : addEnd e c (.cons x k (pop e q)) = .cons x k (addEnd e c (pop e q)) := by
          cases pop e q with
          | nil => simp only [addEnd]; rw [if_neg (by omega)]
          | cons _ _ _ => rfl
        rw [h3, e1]; rfl
      · simp only [plusA]
        rw [if_pos h1, e2]; rfl
theorem odPlus_end {e : Od} : ∀ {r : Od} (d : Od) (k : Int), desc (some e) r → odPlusT (d.app (.cons e k .nil)) r = d.app (.cons e k r)
  | .nil, d, k, _ => rfl
  | .cons e2 c2 r2, d, k, h => by
    have h1 : 0 < cmpT e e2 := by have := h.1; simpa [below] using this
    have h2 := odPlus_end (e := e2) (r := r2) (d.app (.cons e k .nil)) c2 h.2
    rw [odPlusT_cons, pop_snoc, if_neg (by omega), addEnd_snoc, if_neg (by omega)]
    have e1 : d.app (.cons e k (.cons e2 c2 .nil)) = (d.app (.cons e k .nil)).app (.cons e2 c2 .nil) := by rw [app_assoc]; rfl
    rw [e1, h2, app_assoc]; rfl
theorem plus_eq {a b : Od} {p q : Option Od} (ha : desc p a) (hb : desc q b) : odPlusT a b = plusT a b := by
  cases b with
  | nil => rfl
  | cons e c r =>
    obtain ⟨d, k, e1, e2⟩ := plus_step (e := e) (r := r) (c := c) ha
    rw [odPlusT_cons, e1, odPlus_end d k hb.2]
    exact e2.symm

theorem plusA_sz (e r : Od) (c : Int) : ∀ a : Od, (plusA e c r a).sz ≤ a.sz + (e.sz + r.sz + 1)
  | .nil => by simp [plusA, sz]
  | .cons x k q => by
    have := plusA_sz e r c q
    unfold plusA
    split
    · simp only [sz]; omega
    · split
      · simp only [sz]; omega
      · simp only [sz]; omega
theorem plusT_sz (a b : Od) : (plusT a b).sz ≤ a.sz + b.sz := by
  cases b with
  | nil => simp [plusT]
  | cons e c r => exact plusA_sz e r c a

/-- What bounds the terms of a sum on its way. -/
def bnd (m : Int) : Od → Prop
  | .nil => True
  | .cons e c r => rng e ∧ e.sz ≤ 1048576 ∧ -m ≤ c ∧ c ≤ m ∧ bnd m r
theorem bnd_mono {m m' : Int} (hm : m ≤ m') : ∀ {a : Od}, bnd m a → bnd m' a
  | .nil, _ => trivial
  | .cons e c r, h => ⟨h.1, h.2.1, by have := h.2.2.1; omega, by have := h.2.2.2.1; omega, bnd_mono hm h.2.2.2.2⟩
theorem bnd_app {m : Int} {b : Od} : ∀ {a : Od}, bnd m (a.app b) ↔ bnd m a ∧ bnd m b
  | .nil => by simp [Od.app, bnd]
  | .cons e c r => by
    have := bnd_app (m := m) (b := b) (a := r)
    simp only [Od.app, bnd, this]
    constructor
    · rintro ⟨h1, h2, h3, h4, h5, h6⟩; exact ⟨⟨h1, h2, h3, h4, h5⟩, h6⟩
    · rintro ⟨⟨h1, h2, h3, h4, h5⟩, h6⟩; exact ⟨h1, h2, h3, h4, h5, h6⟩
theorem rng_bnd : ∀ {a : Od}, rng a → a.sz ≤ 1048576 → bnd 1000000 a
  | .nil, _, _ => trivial
  | .cons e c r, h, hs => by
    simp only [sz] at hs
    exact ⟨h.2.2.1, by omega, by have := h.1; omega, h.2.1, rng_bnd h.2.2.2 (by omega)⟩

end Go.Proofs.Ytphmkhaboghagaa
/-
  Ordinals as trees: natural sums. No program in sight.
-/
namespace Go.Proofs.Ytphmkhaboghagaa
open Go K Od
set_option linter.unusedSimpArgs false
set_option linter.unusedVariables false

/-- A term is added naturally. -/
def meetT (e : Od) (c : Int) : Od → Od
  | .nil => .cons e c .nil
  | .cons x k r => if 0 < cmpT x e then .cons x k (meetT e c r) else if cmpT x e = 0 then .cons e (c + k) r else .cons e c (.cons x k r)
def joinT : Od → Od → Od
  | a, .nil => a
  | a, .cons e c r => joinT (meetT e c a) r
theorem joinT_cons (a e r : Od) (c : Int) : joinT a (.cons e c r) = joinT (meetT e c a) r := rfl
/-- Two are merged. -/
def mergeT : Od → Od → Od
  | .nil, b => b
  | .cons x k a, .nil => .cons x k a
  | .cons x k a, .cons e c b => if 0 < cmpT x e then .cons x k (mergeT a (.cons e c b)) else if cmpT x e = 0 then .cons e (k + c) (mergeT a b) else .cons e c (mergeT (.cons x k a) b)
termination_by a b => a.len + b.len
decreasing_by all_goals simp only [len]; omega
theorem merge_nil (a : Od) : mergeT a .nil = a := by cases a <;> simp [mergeT]
theorem merge_cons (x a e b : Od) (k c : Int) : mergeT (.cons x k a) (.cons e c b) = if 0 < cmpT x e then .cons x k (mergeT a (.cons e c b)) else if cmpT x e = 0 then .cons e (k + c) (mergeT a b) else .cons e c (mergeT (.cons x k a) b) := by
  rw [mergeT]
theorem join_head {x : Od} {k : Int} : ∀ {b a : Od}, (∀ q, desc q b → True) → desc (some x) b → joinT (.cons x k a) b = .cons x k (joinT a b)
  | .nil, _, _, _ => rfl
  | .cons e c b, a, h, hd => by
    have h1 : 0 < cmpT x e := by have := hd.1; simpa [below] using this
    have hb : desc (some x) b := by
      cases b with
      | nil => trivial
      | cons y k2 b2 =>
        have h2 := hd.2
        refine ⟨?_, h2.2⟩
        have h3 : 0 < cmpT e y := by have := h2.1; simpa [below] using this
        simp only [below, decide_eq_true_eq]
        exact cmpT_trans h1 h3
    rw [joinT_cons, joinT_cons]
    simp only [meetT]
    rw [if_pos h1, join_head (fun _ _ => trivial) hb]
theorem join_nil : ∀ {b : Od} {p : Option Od}, desc p b → joinT .nil b = b
  | .nil, _, _ => rfl
  | .cons e c b, p, h => by
    rw [joinT_cons]
    show joinT (.cons e c .nil) b = _
    rw [join_head (fun _ _ => trivial) h.2, join_nil h.2]
theorem join_merge : ∀ (a b : Od) {p : Option Od}, desc p b → joinT a b = mergeT a b
  | .nil, b, p, h => by rw [join_nil h, mergeT]
  | .cons x k a, .nil, p, h => by rw [merge_nil]; rfl
  | .cons x k a, .cons e c b, p, h => by
    rw [merge_cons]
    rcases Int.lt_trichotomy (cmpT x e) 0 with h1 | h1 | h1
    · rw [if_neg (by omega), if_neg (by omega), joinT_cons]
      simp only [meetT]
      rw [if_neg (by omega), if_neg (by omega), join_head (fun _ _ => trivial) h.2, join_merge (.cons x k a) b h.2]
    · rw [if_neg (by omega), if_pos h1, joinT_cons]
      simp only [meetT]
      rw [if_neg (by omega), if_pos h1, join_head (fun _ _ => trivial) h.2, join_merge a b h.2, Int.add_comm]
    · have hx : desc (some x) (.cons e c b) := ⟨by simpa [below] using h1, h.2⟩
      rw [if_pos h1, join_head (fun _ _ => trivial) hx, join_merge a (.cons e c b) hx]
termination_by a b => a.len + b.len
decreasing_by all_goals simp only [len]; omega

theorem mergeT_sz : ∀ a b : Od, (mergeT a b).sz ≤ a.sz + b.sz
  | .nil, b => by rw [mergeT]; simp [sz]
  | .cons x k a, .nil => by rw [merge_nil]; omega
  | .cons x k a, .cons e c b => by
    have h1 := mergeT_sz a (.cons e c b)
    have h2 := mergeT_sz a b
    have h3 := mergeT_sz (.cons x k a) b
    rw [merge_cons]
    simp only [sz] at h1 h2 h3 ⊢
    split
    · simp only [sz]; omega
    · split
      · simp only [sz]; omega
      · simp only [sz]; omega
termination_by a b => a.len + b.len
decreasing_by all_goals simp only [len]; omega

end Go.Proofs.Ytphmkhaboghagaa
/-
  Ordinals: natural sums and meetings of terms: the walks alone.
-/
namespace Go.Proofs.Ytphmkhaboghagaa
open Go K Od
set_option linter.unusedSimpArgs false
set_option linter.unusedVariables false
set_option maxHeartbeats 1600000
set_option maxRecDepth 8000

def powT (a : Od) : Od := .cons a 1 .nil
theorem power_ok (a : Od) : Ct Try.prog 114 [av a, .int .i64 1] [] (av (powT a)) [] := by
  refine Ct.by_ hmix [] Try.func114 rfl ?_
  have w1 : ((1 : Int) == 0) = false := rfl
  simp only [run0, run1, run2, run3, run4, run5, run6, run7, run8, run9, run10, run11, run12, run13, run14, run15, run16, run17, run18, run19, run20, run21, run22, reduceCtorEq, Nat.reduceEqDiff, Nat.reduceAdd, Nat.reduceSub, Nat.reduceLeDiff, indexAddrA, indexRefA, appendA, strA, Nat.reduceMul, Nat.zero_mul, Nat.reduceMod, Int.reduceEq, Int.reduceLT, Int.reduceLE, Nat.reduceLT, Nat.lt_irrefl, Nat.reduceBEq, tys0, tys1, tys2, tys3, tys4, tys5, tys6, tys7, tys8, tys9, tys10, tys11, tys12, tys13, tys14, tys15, tys16, tys17, tys18, Try.ntmps114, Try.results114, av, w1]
  exact Fin.eq rfl (av_pure (powT a))
theorem bnd_len {m : Int} {x q : Od} {k : Int} (h : bnd m (.cons x k q)) : rng x ∧ x.sz ≤ 1048576 ∧ -m ≤ k ∧ k ≤ m := ⟨h.1, h.2.1, h.2.2.1, h.2.2.2.1⟩

theorem elems_from {a d r : Od} (h : a = d.app r) : (elems a).drop d.len = elems r := by rw [h]; exact elems_drop d r
theorem elems_from1 {a d e r : Od} {c : Int} (h : a = d.app (.cons e c r)) : (elems a).drop (d.len + 1) = elems r := by
  have : a = (d.app (.cons e c .nil)).app r := by rw [app_assoc]; exact h
  have h2 := elems_from this
  rw [len_app] at h2; exact h2

theorem take_all (a : Od) : (elems a).take a.len = elems a := List.take_of_length_le (by rw [elems_length]; exact Nat.le_refl _)

theorem elems_all (a : Od) : ((elems a).all fun z => z.cells.length == 2) = true := by
  rw [List.all_eq_true]; intro y hy; rw [elems_cells a y hy]; rfl
theorem elems_mem : ∀ (a : Od) (x : AV), x ∈ elems a → ∃ (e : Od) (c : Int), x = .agg [.sl false (elems e), .int .i64 c]
  | .nil, x, h => by simp [elems] at h
  | .cons e c r, x, h => by
    simp only [elems, List.mem_cons] at h
    rcases h with rfl | h
    · exact ⟨e, c, rfl⟩
    · exact elems_mem r x h
theorem Vw_elems {L : List AObj} {id g n : Nat} {T : TypeId} {a : Od} {es : List AV} (hL : L[id]? = some (.vec T 2 g es)) (he : es = elems a) (hn : n = a.len) : Vw L (.ref id [] g n) (.sl false (elems a)) := by
  subst he hn
  have := Vw.refPur (o := false) hL (n := a.len) (by rw [elems_length]; exact Nat.le_refl _) (fun e he c hc => by
    obtain ⟨e', c', rfl⟩ := elems_mem a e he
    simp only [AV.cells, List.mem_cons, List.not_mem_nil, or_false] at hc
    rcases hc with rfl | rfl
    · exact ⟨.of (by simp only [pureB, elems_pure]), fun xs h => by cases h⟩
    · exact ⟨.int _ _, fun xs h => by cases h⟩)
  rwa [take_all] at this

theorem nil_merge (b : Od) : mergeT .nil b = b := by rw [mergeT]

structure NsS where
  d : Od
  r : Od
  d' : Od
  r' : Od
  o : Od
  X : List AObj

theorem naturalSum_ok (a b : Od) (ha : a.sz ≤ 1048576) (hb : b.sz ≤ 1048576) {m : Int} (hm : m ≤ 2305843009213693952) (ba : bnd m a) (bb : bnd m b) : Ct Try.prog 113 [av a, av b] [] (av (mergeT a b)) [] := by
  have hla := len_le a
  have hlb := len_le b
  refine Ct.by_ hmix [] Try.func113 rfl ?_
  simp only [run0, run1, run2, run3, run4, run5, run6, run7, run8, run9, run10, run11, run12, run13, run14, run15, run16, run17, run18, run19, run20, run21, run22, reduceCtorEq, Nat.reduceEqDiff, Nat.reduceAdd, Nat.reduceSub, Nat.reduceLeDiff, indexAddrA, indexRefA, appendA, strA, Nat.reduceMul, Nat.zero_mul, Nat.reduceMod, Int.reduceEq, Int.reduceLT, Int.reduceLE, Nat.reduceLT, Nat.lt_irrefl, Nat.reduceBEq, tys0, tys1, tys2, tys3, tys4, tys5, tys6, tys7, tys8, tys9, tys10, tys11, tys12, tys13, tys14, tys15, tys16, tys17, tys18, Try.ntmps113, Try.results113, av]
  refine AWp.nilB 3 0 88 2 rfl rfl ?_
  simp only [run0, run1, run2, run3, run4, run5, run6, run7, run8, run9, run10, run11, run12, run13, run14, run15, run16, run17, run18, run19, run20, run21, run22, reduceCtorEq, Nat.reduceEqDiff, Nat.reduceAdd, Nat.reduceSub, Nat.reduceLeDiff, indexAddrA, indexRefA, appendA, strA, Nat.reduceMul, Nat.zero_mul, Nat.reduceMod, Int.reduceEq, Int.reduceLT, Int.reduceLE, Nat.reduceLT, Nat.lt_irrefl, Nat.reduceBEq, tys0, tys1, tys2, tys3, tys4, tys5, tys6, tys7, tys8, tys9, tys10, tys11, tys12, tys13, tys14, tys15, tys16, tys17, tys18, Try.ntmps113, Try.results113]
  refine AWp.loop_inv (ι := NsS) (fun p => ⟨[.agg [.sl false (elems a)], .agg [.sl false (elems b)], .ptr 0 0, .ptr 1 0, .ptr 2 0, .ptr 3 0, .int .i64 p.d.len, .int .i64 p.d'.len, .junk, .junk, .junk, .junk, .junk, .junk, .junk, .junk, .junk, .junk, .junk, .junk, .junk, .junk, .junk, .junk, .junk, .junk, .junk, .junk, .junk, .junk, .junk, .junk, .junk, .junk, .junk, .junk, .junk, .junk, .junk, .junk, .junk, .junk, .junk, .junk, .junk, .junk, .junk, .junk, .junk, .junk, .junk, .junk, .junk, .junk, .junk, .junk, .junk, .junk, .junk, .junk, .junk, .junk, .junk, .junk, .junk, .junk, .junk, .junk, .junk, .junk, .junk, .junk, .junk, .junk, .junk, .junk, .junk, .junk, .junk, .junk, .junk, .junk, .junk, .junk, .junk],
      .box 24 [.sl false (elems a)] :: .box 24 [.sl false (elems b)] :: .box 24 [nilV] :: .box 24 [.ref 4 [] p.o.len p.o.len] :: .vec 88 2 p.o.len (elems p.o) :: p.X⟩)
    (fun p => a = p.d.app p.r ∧ b = p.d'.app p.r' ∧ p.o.app (mergeT p.r p.r') = mergeT a b ∧ p.o.len ≤ p.d.len + p.d'.len) (fun p => p.r.len + p.r'.len) ⟨.nil, a, .nil, b, .nil, []⟩ ⟨rfl, rfl, rfl, Nat.le_refl _⟩ ⟨by simp only [len, Int.natCast_zero]; repeat constructor, rfl⟩ ?_
  rintro ⟨d, r, d', r', o, X⟩ ⟨h1, h2, h3, h4⟩
  simp only at h1 h2 h3 h4
  refine W.sound hmix (E := []) ?_
  have hda : d.len + r.len = a.len := by rw [h1, len_app]
  have hdb : d'.len + r'.len = b.len := by rw [h2, len_app]
  have f3 : o.len ≤ 137438953471 := by omega
  have f4 : noOwn (elems o) = true := elems_noOwn o
  cases r with
  | nil =>
    have hda' : d.len = a.len := by simpa [len] using hda
    have p1 : ¬ ((d.len : Int) < (a.len : Int)) := by omega
    cases r' with
    | nil =>
      have hdb' : d'.len = b.len := by simpa [len] using hdb
      have p2 : ¬ ((d'.len : Int) < (b.len : Int)) := by omega
      simp only [run0, run1, run2, run3, run4, run5, run6, run7, run8, run9, run10, run11, run12, run13, run14, run15, run16, run17, run18, run19, run20, run21, run22, reduceCtorEq, Nat.reduceEqDiff, Nat.reduceAdd, Nat.reduceSub, Nat.reduceLeDiff, indexAddrA, indexRefA, appendA, strA, Nat.reduceMul, Nat.zero_mul, Nat.reduceMod, Int.reduceEq, Int.reduceLT, Int.reduceLE, Nat.reduceLT, Nat.lt_irrefl, Nat.reduceBEq, tys0, tys1, tys2, tys3, tys4, tys5, tys6, tys7, tys8, tys9, tys10, tys11, tys12, tys13, tys14, tys15, tys16, tys17, tys18, Try.ntmps113, Try.results113, elems_length, p1, p2]
      have h5 : mergeT a b = o := by rw [← h3, merge_nil, app_nil]
      rw [h5]
      exact Fin.value (Vw.agg (.cons (Vw_elems (T := 88) rfl rfl rfl) .nil))
    | cons e c q' =>
      obtain ⟨p2, p3, p4, _, hn', _⟩ := od_step h2 hb
      have bx := bnd_len (bnd_app.1 (h2 ▸ bb)).2
      have p5 : ((d'.len : Int) == (b.len : Int)) = false := by simp; omega
      have p6 : ((d.len : Int) == (a.len : Int)) = true := by simp; omega
      have p7 : IntKind.i64.wrap (0 + c) = c := by rw [Int.zero_add]; exact w64_id (by omega) (by omega)
      simp only [run0, run1, run2, run3, run4, run5, run6, run7, run8, run9, run10, run11, run12, run13, run14, run15, run16, run17, run18, run19, run20, run21, run22, reduceCtorEq, Nat.reduceEqDiff, Nat.reduceAdd, Nat.reduceSub, Nat.reduceLeDiff, indexAddrA, indexRefA, appendA, strA, Nat.reduceMul, Nat.zero_mul, Nat.reduceMod, Int.reduceEq, Int.reduceLT, Int.reduceLE, Nat.reduceLT, Nat.lt_irrefl, Nat.reduceBEq, tys0, tys1, tys2, tys3, tys4, tys5, tys6, tys7, tys8, tys9, tys10, tys11, tys12, tys13, tys14, tys15, tys16, tys17, tys18, Try.ntmps113, Try.results113, elems_length, p1, p2, p3, p4, p5, p6, p7, f3, f4, Int.toNat_natCast, Int.natCast_nonneg]
      refine ⟨by kernel_rfl, ⟨d, nil, d'.app (cons e c nil), q', o.app (cons e c nil), X ++ [.box 88 [.sl false (elems e), .int .i64 c]]⟩, ⟨h1, hn'.symm, ?_, by simp only [len_app, len]; omega⟩, by simp [len], by simp only [len_app, elems_app, elems, pay, len]; repeat constructor, by simp only [len_app, elems_app, elems, pay, len]⟩
      rw [← h3, app_assoc, nil_merge, nil_merge]; rfl
  | cons x k q =>
    obtain ⟨p1, q3, q4, _, hn, _⟩ := od_step h1 ha
    have by1 := bnd_len (bnd_app.1 (h1 ▸ ba)).2
    have q6 : ((d.len : Int) == (a.len : Int)) = false := by simp; omega
    cases r' with
    | nil =>
      have hdb' : d'.len = b.len := by simpa [len] using hdb
      have p5 : ((d'.len : Int) == (b.len : Int)) = true := by simp; omega
      simp only [run0, run1, run2, run3, run4, run5, run6, run7, run8, run9, run10, run11, run12, run13, run14, run15, run16, run17, run18, run19, run20, run21, run22, reduceCtorEq, Nat.reduceEqDiff, Nat.reduceAdd, Nat.reduceSub, Nat.reduceLeDiff, indexAddrA, indexRefA, appendA, strA, Nat.reduceMul, Nat.zero_mul, Nat.reduceMod, Int.reduceEq, Int.reduceLT, Int.reduceLE, Nat.reduceLT, Nat.lt_irrefl, Nat.reduceBEq, tys0, tys1, tys2, tys3, tys4, tys5, tys6, tys7, tys8, tys9, tys10, tys11, tys12, tys13, tys14, tys15, tys16, tys17, tys18, Try.ntmps113, Try.results113, elems_length, p1, q3, q4, p5, q6, f3, f4, Int.toNat_natCast, Int.natCast_nonneg]
      refine ⟨⟨d.app (cons x k nil), q, d', nil, o.app (cons x k nil), X ++ [.box 88 [.sl false (elems x), .int .i64 k]]⟩, ⟨hn.symm, h2, ?_, by simp only [len_app, len]; omega⟩, by simp [len], by simp only [len_app, elems_app, elems, pay, len]; repeat constructor, by simp only [len_app, elems_app, elems, pay, len]⟩
      rw [← h3, app_assoc, merge_nil, merge_nil]; rfl
    | cons e c q' =>
      obtain ⟨p2, p3, p4, _, hn', _⟩ := od_step h2 hb
      have bx := bnd_len (bnd_app.1 (h2 ▸ bb)).2
      have p5 : ((d'.len : Int) == (b.len : Int)) = false := by simp; omega
      have p7 : IntKind.i64.wrap (0 + c) = c := by rw [Int.zero_add]; exact w64_id (by omega) (by omega)
      have p8 : IntKind.i64.wrap (k + c) = k + c := w64_id (by omega) (by omega)
      simp only [run0, run1, run2, run3, run4, run5, run6, run7, run8, run9, run10, run11, run12, run13, run14, run15, run16, run17, run18, run19, run20, run21, run22, reduceCtorEq, Nat.reduceEqDiff, Nat.reduceAdd, Nat.reduceSub, Nat.reduceLeDiff, indexAddrA, indexRefA, appendA, strA, Nat.reduceMul, Nat.zero_mul, Nat.reduceMod, Int.reduceEq, Int.reduceLT, Int.reduceLE, Nat.reduceLT, Nat.lt_irrefl, Nat.reduceBEq, tys0, tys1, tys2, tys3, tys4, tys5, tys6, tys7, tys8, tys9, tys10, tys11, tys12, tys13, tys14, tys15, tys16, tys17, tys18, Try.ntmps113, Try.results113, elems_length, p1, p2, p3, p4, p5, q3, q4, q6, f3, f4, Int.toNat_natCast, Int.natCast_nonneg]
      refine ⟨by kernel_rfl, ?_⟩
      refine RunL.callp rfl rfl ok_f71 (cmp_ok x e by1.2.1 bx.2.1) (by first | rfl | simp only [pureL, pureB, Bool.and_self, Bool.and_true, Bool.true_and, Od.elems_pure, Od.pay_pure, Od.av_pure]) rfl ?_
      simp only [run0, run1, run2, run3, run4, run5, run6, run7, run8, run9, run10, run11, run12, run13, run14, run15, run16, run17, run18, run19, run20, run21, run22, reduceCtorEq, Nat.reduceEqDiff, Nat.reduceAdd, Nat.reduceSub, Nat.reduceLeDiff, indexAddrA, indexRefA, appendA, strA, Nat.reduceMul, Nat.zero_mul, Nat.reduceMod, Int.reduceEq, Int.reduceLT, Int.reduceLE, Nat.reduceLT, Nat.lt_irrefl, Nat.reduceBEq, tys0, tys1, tys2, tys3, tys4, tys5, tys6, tys7, tys8, tys9, tys10, tys11, tys12, tys13, tys14, tys15, tys16, tys17, tys18, Try.ntmps113, Try.results113, elems_length, p1, p2, p3, p4, p5, q3, q4, q6, f3, f4, Int.toNat_natCast, Int.natCast_nonneg]
      rw [merge_cons] at h3
      rcases Int.lt_trichotomy (cmpT x e) 0 with hc | hc | hc
      · rw [if_neg (by omega), if_neg (by omega)] at h3
        have g1 : ¬ (0 ≤ cmpT x e) := by omega
        have g2 : cmpT x e ≤ 0 := by omega
        simp only [run0, run1, run2, run3, run4, run5, run6, run7, run8, run9, run10, run11, run12, run13, run14, run15, run16, run17, run18, run19, run20, run21, run22, reduceCtorEq, Nat.reduceEqDiff, Nat.reduceAdd, Nat.reduceSub, Nat.reduceLeDiff, indexAddrA, indexRefA, appendA, strA, Nat.reduceMul, Nat.zero_mul, Nat.reduceMod, Int.reduceEq, Int.reduceLT, Int.reduceLE, Nat.reduceLT, Nat.lt_irrefl, Nat.reduceBEq, tys0, tys1, tys2, tys3, tys4, tys5, tys6, tys7, tys8, tys9, tys10, tys11, tys12, tys13, tys14, tys15, tys16, tys17, tys18, Try.ntmps113, Try.results113, g1, g2, elems_length, p1, p2, p3, p4, p5, p7, q3, q4, q6, f3, f4, Int.toNat_natCast, Int.natCast_nonneg]
        refine ⟨by kernel_rfl, ⟨d, cons x k q, d'.app (cons e c nil), q', o.app (cons e c nil), X ++ [.box 88 [.sl false (elems e), .int .i64 c]]⟩, ⟨h1, hn'.symm, ?_, by simp only [len_app, len]; omega⟩, by simp [len], by simp only [len_app, elems_app, elems, pay, len]; repeat constructor, by simp only [len_app, elems_app, elems, pay, len]⟩
        rw [← h3, app_assoc]; rfl
      · rw [if_neg (by omega), if_pos hc] at h3
        have g1 : 0 ≤ cmpT x e := by omega
        have g2 : cmpT x e ≤ 0 := by omega
        simp only [run0, run1, run2, run3, run4, run5, run6, run7, run8, run9, run10, run11, run12, run13, run14, run15, run16, run17, run18, run19, run20, run21, run22, reduceCtorEq, Nat.reduceEqDiff, Nat.reduceAdd, Nat.reduceSub, Nat.reduceLeDiff, indexAddrA, indexRefA, appendA, strA, Nat.reduceMul, Nat.zero_mul, Nat.reduceMod, Int.reduceEq, Int.reduceLT, Int.reduceLE, Nat.reduceLT, Nat.lt_irrefl, Nat.reduceBEq, tys0, tys1, tys2, tys3, tys4, tys5, tys6, tys7, tys8, tys9, tys10, tys11, tys12, tys13, tys14, tys15, tys16, tys17, tys18, Try.ntmps113, Try.results113, g1, g2, elems_length, p1, p2, p3, p4, p5, p8, q3, q4, q6, f3, f4, Int.toNat_natCast, Int.natCast_nonneg]
        refine ⟨by kernel_rfl, ⟨d.app (cons x k nil), q, d'.app (cons e c nil), q', o.app (cons e (k + c) nil), X ++ [.box 88 [.sl false (elems e), .int .i64 (k + c)]]⟩, ⟨hn.symm, hn'.symm, ?_, by simp only [len_app, len]; omega⟩, by simp [len]; omega, by simp only [len_app, elems_app, elems, pay, len]; repeat constructor, by simp only [len_app, elems_app, elems, pay, len]⟩
        rw [← h3, app_assoc]; rfl
      · rw [if_pos hc] at h3
        have g1 : 0 ≤ cmpT x e := by omega
        have g2 : ¬ (cmpT x e ≤ 0) := by omega
        simp only [run0, run1, run2, run3, run4, run5, run6, run7, run8, run9, run10, run11, run12, run13, run14, run15, run16, run17, run18, run19, run20, run21, run22, reduceCtorEq, Nat.reduceEqDiff, Nat.reduceAdd, Nat.reduceSub, Nat.reduceLeDiff, indexAddrA, indexRefA, appendA, strA, Nat.reduceMul, Nat.zero_mul, Nat.reduceMod, Int.reduceEq, Int.reduceLT, Int.reduceLE, Nat.reduceLT, Nat.lt_irrefl, Nat.reduceBEq, tys0, tys1, tys2, tys3, tys4, tys5, tys6, tys7, tys8, tys9, tys10, tys11, tys12, tys13, tys14, tys15, tys16, tys17, tys18, Try.ntmps113, Try.results113, g1, g2, elems_length, p1, p2, p3, p4, p5, q3, q4, q6, f3, f4, Int.toNat_natCast, Int.natCast_nonneg]
        refine ⟨⟨d.app (cons x k nil), q, d', cons e c q', o.app (cons x k nil), X ++ [.box 88 [.sl false (elems x), .int .i64 k]]⟩, ⟨hn.symm, h2, ?_, by simp only [len_app, len]; omega⟩, by simp [len], by simp only [len_app, elems_app, elems, pay, len]; repeat constructor, by simp only [len_app, elems_app, elems, pay, len]⟩
        rw [← h3, app_assoc]; rfl

theorem meetT_sz (e : Od) (c : Int) : ∀ a : Od, (meetT e c a).sz ≤ a.sz + (e.sz + 1)
  | .nil => by simp [meetT, sz]
  | .cons x k r => by
    have := meetT_sz e c r
    simp only [meetT]
    split
    · simp only [sz]; omega
    · split
      · simp only [sz]; omega
      · simp only [sz]; omega

structure MtS where
  d : Od
  r : Od
  o : Od
  t : Bool
  X : List AObj

theorem odMeet_ok (a e : Od) (c : Int) (ha : a.sz ≤ 1048576) {m : Int} (hm : m ≤ 2305843009213693952) (ba : bnd m a) (be : bnd m (.cons e c .nil)) : Ct Try.prog 111 [av a, .agg [.sl false (elems e), .int .i64 c]] [] (av (meetT e c a)) [] := by
  have hla := len_le a
  have bx := bnd_len be
  refine Ct.by_ hmix [] Try.func111 rfl ?_
  simp only [run0, run1, run2, run3, run4, run5, run6, run7, run8, run9, run10, run11, run12, run13, run14, run15, run16, run17, run18, run19, run20, run21, run22, reduceCtorEq, Nat.reduceEqDiff, Nat.reduceAdd, Nat.reduceSub, Nat.reduceLeDiff, indexAddrA, indexRefA, appendA, strA, Nat.reduceMul, Nat.zero_mul, Nat.reduceMod, Int.reduceEq, Int.reduceLT, Int.reduceLE, Nat.reduceLT, Nat.lt_irrefl, Nat.reduceBEq, tys0, tys1, tys2, tys3, tys4, tys5, tys6, tys7, tys8, tys9, tys10, tys11, tys12, tys13, tys14, tys15, tys16, tys17, tys18, Try.ntmps111, Try.results111, av, elems_length]
  refine AWp.nilB 3 0 88 2 rfl rfl ?_
  simp only [run0, run1, run2, run3, run4, run5, run6, run7, run8, run9, run10, run11, run12, run13, run14, run15, run16, run17, run18, run19, run20, run21, run22, reduceCtorEq, Nat.reduceEqDiff, Nat.reduceAdd, Nat.reduceSub, Nat.reduceLeDiff, indexAddrA, indexRefA, appendA, strA, Nat.reduceMul, Nat.zero_mul, Nat.reduceMod, Int.reduceEq, Int.reduceLT, Int.reduceLE, Nat.reduceLT, Nat.lt_irrefl, Nat.reduceBEq, tys0, tys1, tys2, tys3, tys4, tys5, tys6, tys7, tys8, tys9, tys10, tys11, tys12, tys13, tys14, tys15, tys16, tys17, tys18, Try.ntmps111, Try.results111]
  refine AWp.loop_inv (ι := MtS) (fun p => ⟨[.agg [.sl false (elems a)], .agg [.sl false (elems e), .int .i64 c], .ptr 0 0, .ptr 1 0, .ptr 2 0, .ptr 3 0, .bool p.t, .junk, .junk, .junk, .junk, .junk, .sl false (elems a), .int .i64 a.len, .int .i64 p.d.len, .junk, .junk, .junk, .junk, .junk, .junk, .junk, .junk, .junk, .junk, .junk, .junk, .junk, .junk, .junk, .junk, .junk, .junk, .junk, .junk, .junk, .junk, .junk, .junk, .junk, .junk, .junk, .junk, .junk, .junk, .junk, .junk, .junk, .junk, .junk, .junk, .junk, .junk, .junk, .junk, .junk, .junk, .junk, .junk, .junk, .junk, .junk, .junk, .junk, .junk, .junk],
      .box 24 [.sl false (elems a)] :: .box 88 [.sl false (elems e), .int .i64 c] :: .box 24 [nilV] :: .box 24 [.ref 4 [] p.o.len p.o.len] :: .vec 88 2 p.o.len (elems p.o) :: p.X⟩)
    (fun p => a = p.d.app p.r ∧ p.o.app (if p.t then p.r else meetT e c p.r) = meetT e c a ∧ p.o.len ≤ p.d.len + p.t.toNat) (fun p => p.r.len) ⟨.nil, a, .nil, false, []⟩ ⟨rfl, rfl, Nat.zero_le _⟩ ⟨by simp only [len, Int.natCast_zero]; repeat constructor, rfl⟩ ?_
  rintro ⟨d, r, o, t, X⟩ ⟨h1, h2, h3⟩
  simp only at h1 h2 h3
  refine W.sound hmix (E := []) ?_
  have hda : d.len + r.len = a.len := by rw [h1, len_app]
  have htn : t.toNat ≤ 1 := by cases t <;> simp
  have f3 : o.len ≤ 137438953471 := by omega
  have f5 : o.len ≤ 137438953470 := by omega
  have f6 : noOwn (elems o ++ [.agg [.sl false (elems e), .int .i64 c]]) = true := by
    have := elems_noOwn (o.app (cons e c nil)); rw [elems_app] at this; exact this
  have f4 : noOwn (elems o) = true := elems_noOwn o
  cases r with
  | nil =>
    obtain ⟨e1, rfl⟩ := od_end h1
    cases t
    · simp only [run0, run1, run2, run3, run4, run5, run6, run7, run8, run9, run10, run11, run12, run13, run14, run15, run16, run17, run18, run19, run20, run21, run22, reduceCtorEq, Nat.reduceEqDiff, Nat.reduceAdd, Nat.reduceSub, Nat.reduceLeDiff, indexAddrA, indexRefA, appendA, strA, Nat.reduceMul, Nat.zero_mul, Nat.reduceMod, Int.reduceEq, Int.reduceLT, Int.reduceLE, Nat.reduceLT, Nat.lt_irrefl, Nat.reduceBEq, tys0, tys1, tys2, tys3, tys4, tys5, tys6, tys7, tys8, tys9, tys10, tys11, tys12, tys13, tys14, tys15, tys16, tys17, tys18, Try.ntmps111, Try.results111, elems_length, e1, f3, f4]
      have h5 : meetT e c a = o.app (cons e c nil) := h2.symm
      rw [h5]
      exact Fin.value (Vw.agg (.cons (Vw_elems (T := 88) rfl (by rw [elems_app]; rfl) (by rw [len_app]; rfl)) .nil))
    · simp only [run0, run1, run2, run3, run4, run5, run6, run7, run8, run9, run10, run11, run12, run13, run14, run15, run16, run17, run18, run19, run20, run21, run22, reduceCtorEq, Nat.reduceEqDiff, Nat.reduceAdd, Nat.reduceSub, Nat.reduceLeDiff, indexAddrA, indexRefA, appendA, strA, Nat.reduceMul, Nat.zero_mul, Nat.reduceMod, Int.reduceEq, Int.reduceLT, Int.reduceLE, Nat.reduceLT, Nat.lt_irrefl, Nat.reduceBEq, tys0, tys1, tys2, tys3, tys4, tys5, tys6, tys7, tys8, tys9, tys10, tys11, tys12, tys13, tys14, tys15, tys16, tys17, tys18, Try.ntmps111, Try.results111, elems_length, e1]
      have h5 : meetT e c a = o := by rw [← h2]; exact app_nil o
      rw [h5]
      exact Fin.value (Vw.agg (.cons (Vw_elems (T := 88) rfl rfl rfl) .nil))
  | cons x k q =>
    obtain ⟨e1, e2, e5, _, hn, _⟩ := od_step h1 ha
    have by1 := bnd_len (bnd_app.1 (h1 ▸ ba)).2
    have w1 : IntKind.i64.wrap (c + k) = c + k := w64_id (by omega) (by omega)
    simp only [run0, run1, run2, run3, run4, run5, run6, run7, run8, run9, run10, run11, run12, run13, run14, run15, run16, run17, run18, run19, run20, run21, run22, reduceCtorEq, Nat.reduceEqDiff, Nat.reduceAdd, Nat.reduceSub, Nat.reduceLeDiff, indexAddrA, indexRefA, appendA, strA, Nat.reduceMul, Nat.zero_mul, Nat.reduceMod, Int.reduceEq, Int.reduceLT, Int.reduceLE, Nat.reduceLT, Nat.lt_irrefl, Nat.reduceBEq, tys0, tys1, tys2, tys3, tys4, tys5, tys6, tys7, tys8, tys9, tys10, tys11, tys12, tys13, tys14, tys15, tys16, tys17, tys18, Try.ntmps111, Try.results111, elems_length, e1, e2, Int.toNat_natCast, Int.natCast_nonneg]
    refine RunL.callp rfl rfl ok_f68 (odCmp_ok x e by1.2.1 bx.2.1 by1.1 bx.1) (by first | rfl | simp only [pureL, pureB, Bool.and_self, Bool.and_true, Bool.true_and, Od.elems_pure, Od.pay_pure, Od.av_pure]) rfl ?_
    cases t
    · simp only [Bool.false_eq_true, if_false, meetT] at h2
      rcases Int.lt_trichotomy (cmpT x e) 0 with hc | hc | hc
      · rw [if_neg (by omega), if_neg (by omega)] at h2
        have g1 : cmpT x e ≤ 0 := by omega
        have g2 : (cmpT x e == 0) = false := by simp; omega
        simp only [run0, run1, run2, run3, run4, run5, run6, run7, run8, run9, run10, run11, run12, run13, run14, run15, run16, run17, run18, run19, run20, run21, run22, reduceCtorEq, Nat.reduceEqDiff, Nat.reduceAdd, Nat.reduceSub, Nat.reduceLeDiff, indexAddrA, indexRefA, appendA, strA, Nat.reduceMul, Nat.zero_mul, Nat.reduceMod, Int.reduceEq, Int.reduceLT, Int.reduceLE, Nat.reduceLT, Nat.lt_irrefl, Nat.reduceBEq, tys0, tys1, tys2, tys3, tys4, tys5, tys6, tys7, tys8, tys9, tys10, tys11, tys12, tys13, tys14, tys15, tys16, tys17, tys18, Try.ntmps111, Try.results111, g1, g2, e5, f3, f4, f5, f6, elems_length]
        refine ⟨⟨d.app (cons x k nil), q, o.app (cons e c (cons x k nil)), true, X ++ [.box 88 [.sl false (elems x), .int .i64 k]]⟩, ⟨hn.symm, ?_, by simp only [len_app, len, Bool.toNat] at h3 ⊢; simp at h3; simp; omega⟩, by simp [len], by simp only [len_app, elems_app, elems, pay, len]; repeat constructor, by simp only [len_app, elems_app, elems, pay, len]⟩
        rw [← h2, app_assoc]; rfl
      · rw [if_neg (by omega), if_pos hc] at h2
        have g1 : cmpT x e ≤ 0 := by omega
        have g2 : (cmpT x e == 0) = true := by simp; omega
        simp only [run0, run1, run2, run3, run4, run5, run6, run7, run8, run9, run10, run11, run12, run13, run14, run15, run16, run17, run18, run19, run20, run21, run22, reduceCtorEq, Nat.reduceEqDiff, Nat.reduceAdd, Nat.reduceSub, Nat.reduceLeDiff, indexAddrA, indexRefA, appendA, strA, Nat.reduceMul, Nat.zero_mul, Nat.reduceMod, Int.reduceEq, Int.reduceLT, Int.reduceLE, Nat.reduceLT, Nat.lt_irrefl, Nat.reduceBEq, tys0, tys1, tys2, tys3, tys4, tys5, tys6, tys7, tys8, tys9, tys10, tys11, tys12, tys13, tys14, tys15, tys16, tys17, tys18, Try.ntmps111, Try.results111, g1, g2, w1, e5, f3, f4, f5, elems_length]
        refine ⟨⟨d.app (cons x k nil), q, o.app (cons e (c + k) nil), true, X ++ [.box 88 [.sl false (elems x), .int .i64 k]]⟩, ⟨hn.symm, ?_, by simp only [len_app, len, Bool.toNat] at h3 ⊢; simp at h3; simp; omega⟩, by simp [len], by simp only [len_app, elems_app, elems, pay, len]; repeat constructor, by simp only [len_app, elems_app, elems, pay, len]⟩
        rw [← h2, app_assoc]; rfl
      · rw [if_pos hc] at h2
        have g1 : ¬ (cmpT x e ≤ 0) := by omega
        simp only [run0, run1, run2, run3, run4, run5, run6, run7, run8, run9, run10, run11, run12, run13, run14, run15, run16, run17, run18, run19, run20, run21, run22, reduceCtorEq, Nat.reduceEqDiff, Nat.reduceAdd, Nat.reduceSub, Nat.reduceLeDiff, indexAddrA, indexRefA, appendA, strA, Nat.reduceMul, Nat.zero_mul, Nat.reduceMod, Int.reduceEq, Int.reduceLT, Int.reduceLE, Nat.reduceLT, Nat.lt_irrefl, Nat.reduceBEq, tys0, tys1, tys2, tys3, tys4, tys5, tys6, tys7, tys8, tys9, tys10, tys11, tys12, tys13, tys14, tys15, tys16, tys17, tys18, Try.ntmps111, Try.results111, g1, e5, f3, f4, f5, elems_length]
        refine ⟨⟨d.app (cons x k nil), q, o.app (cons x k nil), false, X ++ [.box 88 [.sl false (elems x), .int .i64 k]]⟩, ⟨hn.symm, ?_, by simp only [len_app, len, Bool.toNat] at h3 ⊢; simp at h3; simp; omega⟩, by simp [len], by simp only [len_app, elems_app, elems, pay, len]; repeat constructor, by simp only [len_app, elems_app, elems, pay, len]⟩
        rw [← h2, app_assoc]; rfl
    · simp only [run0, run1, run2, run3, run4, run5, run6, run7, run8, run9, run10, run11, run12, run13, run14, run15, run16, run17, run18, run19, run20, run21, run22, reduceCtorEq, Nat.reduceEqDiff, Nat.reduceAdd, Nat.reduceSub, Nat.reduceLeDiff, indexAddrA, indexRefA, appendA, strA, Nat.reduceMul, Nat.zero_mul, Nat.reduceMod, Int.reduceEq, Int.reduceLT, Int.reduceLE, Nat.reduceLT, Nat.lt_irrefl, Nat.reduceBEq, tys0, tys1, tys2, tys3, tys4, tys5, tys6, tys7, tys8, tys9, tys10, tys11, tys12, tys13, tys14, tys15, tys16, tys17, tys18, Try.ntmps111, Try.results111, e5, f3, f4, f5, elems_length]
      refine ⟨⟨d.app (cons x k nil), q, o.app (cons x k nil), true, X ++ [.box 88 [.sl false (elems x), .int .i64 k]]⟩, ⟨hn.symm, ?_, by simp only [len_app, len, Bool.toNat] at h3 ⊢; simp at h3; simp; omega⟩, by simp [len], by simp only [len_app, elems_app, elems, pay, len]; repeat constructor, by simp only [len_app, elems_app, elems, pay, len]⟩
      rw [← h2, app_assoc]; rfl

theorem meetT_bnd {M m : Int} {e : Od} {c : Int} (h0 : 0 ≤ m) (be : bnd m (.cons e c .nil)) (hM : 0 ≤ M) : ∀ {a : Od}, bnd M a → bnd (M + m) (meetT e c a)
  | .nil, _ => ⟨be.1, be.2.1, by have := be.2.2.1; omega, by have := be.2.2.2.1; omega, trivial⟩
  | .cons x k r, h => by
    have h1 := bnd_mono (m' := M + m) (by omega) h
    have h2 := meetT_bnd h0 be hM h.2.2.2.2
    have h3 := h.2.2.1
    have h4 := h.2.2.2.1
    have h5 := be.2.2.1
    have h6 := be.2.2.2.1
    simp only [meetT]
    split
    · exact ⟨h.1, h.2.1, by omega, by omega, h2⟩
    · split
      · exact ⟨be.1, be.2.1, by omega, by omega, h1.2.2.2.2⟩
      · exact ⟨be.1, be.2.1, by omega, by omega, h1⟩


end Go.Proofs.Ytphmkhaboghagaa
/-
  Ordinals: copies of the program's and of the reference's own.
-/
namespace Go.Proofs.Ytphmkhaboghagaa
open Go K Od
set_option linter.unusedSimpArgs false
set_option linter.unusedVariables false
set_option maxHeartbeats 400000

structure ClS where
  d : Od
  r : Od
  es : List AV
  X : List AObj
  S : List Nat

theorem cloneS_ok (a : Od) (hs : a.sz ≤ 1048576) : ∃ x M, Ct Try.prog 91 [av a] [] (.agg [x]) M ∧ Own M a x := by
  have hl := len_le a
  suffices h : ∃ r M, Ct Try.prog 91 [av a] [] r M ∧ (∃ x, r = .agg [x] ∧ Own M a x) by
    obtain ⟨r, M, h1, x, rfl, h2⟩ := h
    exact ⟨x, M, h1, h2⟩
  refine Ct.ex hmix [8000000, 2000000 + 91] Try.func91 rfl ?_
  simp only [run0, run1, run2, run3, run4, run5, run6, run7, run8, run9, run10, run11, run12, run13, run14, run15, run16, run17, run18, run19, run20, run21, run22, reduceCtorEq, Nat.reduceEqDiff, Nat.reduceAdd, Nat.reduceSub, Nat.reduceLeDiff, indexAddrA, indexRefA, appendA, strA, Nat.reduceMul, Nat.zero_mul, Nat.reduceMod, Int.reduceEq, Int.reduceLT, Int.reduceLE, Nat.reduceLT, Nat.lt_irrefl, Nat.reduceBEq, tys0, tys1, tys2, tys3, tys4, tys5, tys6, tys7, tys8, tys9, tys10, tys11, tys12, tys13, tys14, tys15, tys16, tys17, tys18, Try.ntmps91, Try.results91, av, elems_length]
  refine AWp.nilB_ex 2 0 88 2 rfl rfl ?_
  simp only [run0, run1, run2, run3, run4, run5, run6, run7, run8, run9, run10, run11, run12, run13, run14, run15, run16, run17, run18, run19, run20, run21, run22, reduceCtorEq, Nat.reduceEqDiff, Nat.reduceAdd, Nat.reduceSub, Nat.reduceLeDiff, indexAddrA, indexRefA, appendA, strA, Nat.reduceMul, Nat.zero_mul, Nat.reduceMod, Int.reduceEq, Int.reduceLT, Int.reduceLE, Nat.reduceLT, Nat.lt_irrefl, Nat.reduceBEq, tys0, tys1, tys2, tys3, tys4, tys5, tys6, tys7, tys8, tys9, tys10, tys11, tys12, tys13, tys14, tys15, tys16, tys17, tys18, Try.ntmps91, Try.results91]
  refine AWp.loop_exK (ι := ClS) (fun p => ⟨[.agg [.sl false (elems a)], .ptr 0 0, .ptr 1 0, .ptr 2 0, .junk, .junk, .junk, .junk, .sl false (elems a), .int .i64 a.len, .int .i64 p.d.len, .junk, .junk, .junk, .junk, .junk, .junk, .junk, .junk, .junk, .junk, .junk, .junk, .junk, .junk, .junk, .junk],
      .box 24 [.sl false (elems a)] :: .box 24 [.lit (.slice none 0 0)] :: .box 24 [.ref 3 [] p.d.len p.d.len] :: .vec 88 2 p.d.len p.es :: p.X⟩)
    (fun p => a = p.d.app p.r ∧ OwnE (.box 24 [.sl false (elems a)] :: .box 24 [.lit (.slice none 0 0)] :: .box 24 [.ref 3 [] p.d.len p.d.len] :: .vec 88 2 p.d.len p.es :: p.X) 88 2 p.d p.es p.S ∧ p.S.Nodup ∧ 3 ∉ p.S)
    (fun p => p.r.len) ⟨.nil, a, [], [], []⟩ ⟨rfl, ⟨rfl, rfl⟩, by simp, by simp⟩ ⟨by simp only [len, Int.natCast_zero]; repeat constructor, rfl⟩ ?_
  rintro ⟨d, r, es, X, S⟩ ⟨ha, ho, hn, h3⟩
  simp only at ha ho hn h3
  have hel := ho.length
  have hda : d.len + r.len = a.len := by rw [ha, len_app]
  cases r with
  | nil =>
    left
    obtain ⟨e1, e2⟩ := od_end ha
    subst e2
    refine ⟨.agg [.ref 3 [] a.len a.len], ?_⟩
    apply ex1
    · refine W.sound hmix (E := [8000000, 2000000 + 91]) ?_
      simp only [run0, run1, run2, run3, run4, run5, run6, run7, run8, run9, run10, run11, run12, run13, run14, run15, run16, run17, run18, run19, run20, run21, run22, reduceCtorEq, Nat.reduceEqDiff, Nat.reduceAdd, Nat.reduceSub, Nat.reduceLeDiff, indexAddrA, indexRefA, appendA, strA, Nat.reduceMul, Nat.zero_mul, Nat.reduceMod, Int.reduceEq, Int.reduceLT, Int.reduceLE, Nat.reduceLT, Nat.lt_irrefl, Nat.reduceBEq, tys0, tys1, tys2, tys3, tys4, tys5, tys6, tys7, tys8, tys9, tys10, tys11, tys12, tys13, tys14, tys15, tys16, tys17, tys18, Try.ntmps91, Try.results91, elems_length, e1]
      exact Fin.keep (3 :: S) rfl rfl
    · refine ⟨_, rfl, 3 :: S, OwnR.keep (.inr ⟨3, a.len, es, S, by rw [hel], rfl, rfl, ?_⟩) fun _ h => h, List.nodup_cons.2 ⟨h3, hn⟩, keepS_okSO _ _⟩
      refine ho.mono fun id hid g es1 hL => ?_
      rcases id with _ | _ | _ | _ | id
      · cases hL
      · cases hL
      · cases hL
      · exact absurd hid h3
      · exact hL
  | cons e c r =>
    right
    obtain ⟨e1, e2, e5, hlt, hnx, _⟩ := od_step ha hs
    simp only [len] at hda
    obtain ⟨x, M, hc, S1, hx, hn1, hM⟩ := cloneS_ok e (by omega)
    have f1 : (es.length + 1) ≤ 137438953472 := by omega
    have f2 : (d.len : Nat) + 1 ≤ 137438953472 := by omega
    have f3 := ho.form.2.1
    have hdl : (d.app (cons e c nil)).len = d.len + 1 := by rw [len_app]; rfl
    have hlt0 := ho.lt
    simp only [List.length_cons] at hlt0
    -- what the call leaves, by its shape
    have fin : ∀ x', x' = shA (X.length + 5) x → ∀ (t : List AV), 
        OwnE (.box 24 [.sl false (elems a)] :: .box 24 [.lit (.slice none 0 0)] :: .box 24 [.ref 3 [] (d.len + 1) (d.len + 1)] :: .vec 88 2 (d.len + 1) (es ++ [.agg [x', .int .i64 c]]) :: (X ++ (.box 88 [.sl false (elems e), .int .i64 c] :: M.map (shO (X.length + 5))))) 88 2 (d.app (cons e c nil)) (es ++ [.agg [x', .int .i64 c]]) (S ++ S1.map (· + (X.length + 5))) ∧
        (S ++ S1.map (· + (X.length + 5))).Nodup ∧ 3 ∉ (S ++ S1.map (· + (X.length + 5))) := by
      rintro x' rfl t
      refine ⟨OwnE.app (OwnE.one (OwnR.sh (fun id => ?_) hx) c) (ho.mono fun id hid g es1 hL => ?_), List.nodup_append.2 ⟨hn, nodup_add _ hn1, fun u hu v hv => ?_⟩, ?_⟩
      · rw [show id + (X.length + 5) = (id + X.length + 1) + 4 by omega]
        simp only [List.getElem?_cons_succ]
        rw [List.getElem?_append_right (by omega), show id + X.length + 1 - X.length = id + 1 by omega, List.getElem?_cons_succ, List.getElem?_map]
      · rcases id with _ | _ | _ | _ | id
        · cases hL
        · cases hL
        · cases hL
        · exact absurd hid h3
        · simp only [List.getElem?_cons_succ] at hL ⊢
          rw [List.getElem?_append_left (List.getElem?_eq_some_iff.1 hL).1]; exact hL
      · have := hlt0 u hu
        simp only [List.mem_map] at hv
        obtain ⟨q, _, rfl⟩ := hv
        omega
      · simp only [List.mem_append, not_or, List.mem_map]
        exact ⟨h3, fun ⟨q, _, hq⟩ => by omega⟩
    rcases hx.shape with rfl | ⟨id, g, n, rfl⟩
    · obtain ⟨q1, q2, q3⟩ := fin nilV rfl []
      refine ⟨⟨d.app (cons e c nil), r, es ++ [.agg [nilV, .int .i64 c]], X ++ (.box 88 [.sl false (elems e), .int .i64 c] :: M.map (shO (X.length + 5))), S ++ S1.map (· + (X.length + 5))⟩, ⟨hnx.symm, by rw [hdl]; exact q1, q2, q3⟩, by simp [len], ?_⟩
      refine W.sound hmix (E := [8000000, 2000000 + 91]) ?_
      simp only [run0, run1, run2, run3, run4, run5, run6, run7, run8, run9, run10, run11, run12, run13, run14, run15, run16, run17, run18, run19, run20, run21, run22, reduceCtorEq, Nat.reduceEqDiff, Nat.reduceAdd, Nat.reduceSub, Nat.reduceLeDiff, indexAddrA, indexRefA, appendA, strA, Nat.reduceMul, Nat.zero_mul, Nat.reduceMod, Int.reduceEq, Int.reduceLT, Int.reduceLE, Nat.reduceLT, Nat.lt_irrefl, Nat.reduceBEq, tys0, tys1, tys2, tys3, tys4, tys5, tys6, tys7, tys8, tys9, tys10, tys11, tys12, tys13, tys14, tys15, tys16, tys17, tys18, Try.ntmps91, Try.results91, elems_length, e1, e2, Int.toNat_natCast, Int.natCast_nonneg]
      refine ⟨[0,1,2,3,5,6,4,7,8,9,10,11], by kernel_rfl, ?_⟩
      simp only [run0, run1, run2, run3, run4, run5, run6, run7, run8, run9, run10, run11, run12, run13, run14, run15, run16, run17, run18, run19, run20, run21, run22, reduceCtorEq, Nat.reduceEqDiff, Nat.reduceAdd, Nat.reduceSub, Nat.reduceLeDiff, indexAddrA, indexRefA, appendA, strA, Nat.reduceMul, Nat.zero_mul, Nat.reduceMod, Int.reduceEq, Int.reduceLT, Int.reduceLE, Nat.reduceLT, Nat.lt_irrefl, Nat.reduceBEq, tys0, tys1, tys2, tys3, tys4, tys5, tys6, tys7, tys8, tys9, tys10, tys11, tys12, tys13, tys14, tys15, tys16, tys17, tys18, Try.ntmps91, Try.results91]
      refine RunL.callgp rfl rfl ok_f91 rfl hc (by simp only [pureL, pureB, av_pure, Bool.and_self]) rfl ?_
      simp only [run0, run1, run2, run3, run4, run5, run6, run7, run8, run9, run10, run11, run12, run13, run14, run15, run16, run17, run18, run19, run20, run21, run22, reduceCtorEq, Nat.reduceEqDiff, Nat.reduceAdd, Nat.reduceSub, Nat.reduceLeDiff, indexAddrA, indexRefA, appendA, strA, Nat.reduceMul, Nat.zero_mul, Nat.reduceMod, Int.reduceEq, Int.reduceLT, Int.reduceLE, Nat.reduceLT, Nat.lt_irrefl, Nat.reduceBEq, tys0, tys1, tys2, tys3, tys4, tys5, tys6, tys7, tys8, tys9, tys10, tys11, tys12, tys13, tys14, tys15, tys16, tys17, tys18, Try.ntmps91, Try.results91, nilV, shA, shL, hel, f2, f3, e5, hdl, eq_self]
      repeat constructor
    · obtain ⟨q1, q2, q3⟩ := fin (.ref (id + (X.length + 5)) [] g n) (by simp [shA]) []
      refine ⟨⟨d.app (cons e c nil), r, es ++ [.agg [.ref (id + (X.length + 5)) [] g n, .int .i64 c]], X ++ (.box 88 [.sl false (elems e), .int .i64 c] :: M.map (shO (X.length + 5))), S ++ S1.map (· + (X.length + 5))⟩, ⟨hnx.symm, by rw [hdl]; exact q1, q2, q3⟩, by simp [len], ?_⟩
      refine W.sound hmix (E := [8000000, 2000000 + 91]) ?_
      simp only [run0, run1, run2, run3, run4, run5, run6, run7, run8, run9, run10, run11, run12, run13, run14, run15, run16, run17, run18, run19, run20, run21, run22, reduceCtorEq, Nat.reduceEqDiff, Nat.reduceAdd, Nat.reduceSub, Nat.reduceLeDiff, indexAddrA, indexRefA, appendA, strA, Nat.reduceMul, Nat.zero_mul, Nat.reduceMod, Int.reduceEq, Int.reduceLT, Int.reduceLE, Nat.reduceLT, Nat.lt_irrefl, Nat.reduceBEq, tys0, tys1, tys2, tys3, tys4, tys5, tys6, tys7, tys8, tys9, tys10, tys11, tys12, tys13, tys14, tys15, tys16, tys17, tys18, Try.ntmps91, Try.results91, elems_length, e1, e2, Int.toNat_natCast, Int.natCast_nonneg]
      refine ⟨[0,1,2,3,5,6,4,7,8,9,10,11], by kernel_rfl, ?_⟩
      simp only [run0, run1, run2, run3, run4, run5, run6, run7, run8, run9, run10, run11, run12, run13, run14, run15, run16, run17, run18, run19, run20, run21, run22, reduceCtorEq, Nat.reduceEqDiff, Nat.reduceAdd, Nat.reduceSub, Nat.reduceLeDiff, indexAddrA, indexRefA, appendA, strA, Nat.reduceMul, Nat.zero_mul, Nat.reduceMod, Int.reduceEq, Int.reduceLT, Int.reduceLE, Nat.reduceLT, Nat.lt_irrefl, Nat.reduceBEq, tys0, tys1, tys2, tys3, tys4, tys5, tys6, tys7, tys8, tys9, tys10, tys11, tys12, tys13, tys14, tys15, tys16, tys17, tys18, Try.ntmps91, Try.results91]
      refine RunL.callgp rfl rfl ok_f91 rfl hc (by simp only [pureL, pureB, av_pure, Bool.and_self]) rfl ?_
      simp only [run0, run1, run2, run3, run4, run5, run6, run7, run8, run9, run10, run11, run12, run13, run14, run15, run16, run17, run18, run19, run20, run21, run22, reduceCtorEq, Nat.reduceEqDiff, Nat.reduceAdd, Nat.reduceSub, Nat.reduceLeDiff, indexAddrA, indexRefA, appendA, strA, Nat.reduceMul, Nat.zero_mul, Nat.reduceMod, Int.reduceEq, Int.reduceLT, Int.reduceLE, Nat.reduceLT, Nat.lt_irrefl, Nat.reduceBEq, tys0, tys1, tys2, tys3, tys4, tys5, tys6, tys7, tys8, tys9, tys10, tys11, tys12, tys13, tys14, tys15, tys16, tys17, tys18, Try.ntmps91, Try.results91, nilV, shA, shL, hel, f2, f3, e5, hdl, eq_self]
      repeat constructor
termination_by a.sz

structure ClS2 where
  d : Od
  r : Od
  es : List AV
  X : List AObj
  S : List Nat

theorem ownS_ok (a : Od) (hs : a.sz ≤ 1048576) : ∃ x M, Ct Try.prog 90 [av a] [] (.agg [x]) M ∧ Own M a x := by
  have hl := len_le a
  suffices h : ∃ r M, Ct Try.prog 90 [av a] [] r M ∧ (∃ x, r = .agg [x] ∧ Own M a x) by
    obtain ⟨r, M, h1, x, rfl, h2⟩ := h
    exact ⟨x, M, h1, h2⟩
  refine Ct.ex hmix [8000000, 2000000 + 90] Try.func90 rfl ?_
  simp only [run0, run1, run2, run3, run4, run5, run6, run7, run8, run9, run10, run11, run12, run13, run14, run15, run16, run17, run18, run19, run20, run21, run22, reduceCtorEq, Nat.reduceEqDiff, Nat.reduceAdd, Nat.reduceSub, Nat.reduceLeDiff, indexAddrA, indexRefA, appendA, strA, Nat.reduceMul, Nat.zero_mul, Nat.reduceMod, Int.reduceEq, Int.reduceLT, Int.reduceLE, Nat.reduceLT, Nat.lt_irrefl, Nat.reduceBEq, tys0, tys1, tys2, tys3, tys4, tys5, tys6, tys7, tys8, tys9, tys10, tys11, tys12, tys13, tys14, tys15, tys16, tys17, tys18, Try.ntmps90, Try.results90, av, elems_length]
  refine AWp.nilB_ex 2 0 88 2 rfl rfl ?_
  simp only [run0, run1, run2, run3, run4, run5, run6, run7, run8, run9, run10, run11, run12, run13, run14, run15, run16, run17, run18, run19, run20, run21, run22, reduceCtorEq, Nat.reduceEqDiff, Nat.reduceAdd, Nat.reduceSub, Nat.reduceLeDiff, indexAddrA, indexRefA, appendA, strA, Nat.reduceMul, Nat.zero_mul, Nat.reduceMod, Int.reduceEq, Int.reduceLT, Int.reduceLE, Nat.reduceLT, Nat.lt_irrefl, Nat.reduceBEq, tys0, tys1, tys2, tys3, tys4, tys5, tys6, tys7, tys8, tys9, tys10, tys11, tys12, tys13, tys14, tys15, tys16, tys17, tys18, Try.ntmps90, Try.results90]
  refine AWp.loop_exK (ι := ClS2) (fun p => ⟨[.agg [.sl false (elems a)], .ptr 0 0, .ptr 1 0, .ptr 2 0, .junk, .junk, .junk, .junk, .sl false (elems a), .int .i64 a.len, .int .i64 p.d.len, .junk, .junk, .junk, .junk, .junk, .junk, .junk, .junk, .junk, .junk, .junk, .junk, .junk, .junk, .junk, .junk],
      .box 24 [.sl false (elems a)] :: .box 24 [.lit (.slice none 0 0)] :: .box 24 [.ref 3 [] p.d.len p.d.len] :: .vec 88 2 p.d.len p.es :: p.X⟩)
    (fun p => a = p.d.app p.r ∧ OwnE (.box 24 [.sl false (elems a)] :: .box 24 [.lit (.slice none 0 0)] :: .box 24 [.ref 3 [] p.d.len p.d.len] :: .vec 88 2 p.d.len p.es :: p.X) 88 2 p.d p.es p.S ∧ p.S.Nodup ∧ 3 ∉ p.S)
    (fun p => p.r.len) ⟨.nil, a, [], [], []⟩ ⟨rfl, ⟨rfl, rfl⟩, by simp, by simp⟩ ⟨by simp only [len, Int.natCast_zero]; repeat constructor, rfl⟩ ?_
  rintro ⟨d, r, es, X, S⟩ ⟨ha, ho, hn, h3⟩
  simp only at ha ho hn h3
  have hel := ho.length
  have hda : d.len + r.len = a.len := by rw [ha, len_app]
  cases r with
  | nil =>
    left
    obtain ⟨e1, e2⟩ := od_end ha
    subst e2
    refine ⟨.agg [.ref 3 [] a.len a.len], ?_⟩
    apply ex1
    · refine W.sound hmix (E := [8000000, 2000000 + 90]) ?_
      simp only [run0, run1, run2, run3, run4, run5, run6, run7, run8, run9, run10, run11, run12, run13, run14, run15, run16, run17, run18, run19, run20, run21, run22, reduceCtorEq, Nat.reduceEqDiff, Nat.reduceAdd, Nat.reduceSub, Nat.reduceLeDiff, indexAddrA, indexRefA, appendA, strA, Nat.reduceMul, Nat.zero_mul, Nat.reduceMod, Int.reduceEq, Int.reduceLT, Int.reduceLE, Nat.reduceLT, Nat.lt_irrefl, Nat.reduceBEq, tys0, tys1, tys2, tys3, tys4, tys5, tys6, tys7, tys8, tys9, tys10, tys11, tys12, tys13, tys14, tys15, tys16, tys17, tys18, Try.ntmps90, Try.results90, elems_length, e1]
      exact Fin.keep (3 :: S) rfl rfl
    · refine ⟨_, rfl, 3 :: S, OwnR.keep (.inr ⟨3, a.len, es, S, by rw [hel], rfl, rfl, ?_⟩) fun _ h => h, List.nodup_cons.2 ⟨h3, hn⟩, keepS_okSO _ _⟩
      refine ho.mono fun id hid g es1 hL => ?_
      rcases id with _ | _ | _ | _ | id
      · cases hL
      · cases hL
      · cases hL
      · exact absurd hid h3
      · exact hL
  | cons e c r =>
    right
    obtain ⟨e1, e2, e5, hlt, hnx, _⟩ := od_step ha hs
    simp only [len] at hda
    obtain ⟨x, M, hc, S1, hx, hn1, hM⟩ := ownS_ok e (by omega)
    have f1 : (es.length + 1) ≤ 137438953472 := by omega
    have f2 : (d.len : Nat) + 1 ≤ 137438953472 := by omega
    have f3 := ho.form.2.1
    have hdl : (d.app (cons e c nil)).len = d.len + 1 := by rw [len_app]; rfl
    have hlt0 := ho.lt
    simp only [List.length_cons] at hlt0
    -- what the call leaves, by its shape
    have fin : ∀ x', x' = shA (X.length + 5) x → ∀ (t : List AV), 
        OwnE (.box 24 [.sl false (elems a)] :: .box 24 [.lit (.slice none 0 0)] :: .box 24 [.ref 3 [] (d.len + 1) (d.len + 1)] :: .vec 88 2 (d.len + 1) (es ++ [.agg [x', .int .i64 c]]) :: (X ++ (.box 88 [.sl false (elems e), .int .i64 c] :: M.map (shO (X.length + 5))))) 88 2 (d.app (cons e c nil)) (es ++ [.agg [x', .int .i64 c]]) (S ++ S1.map (· + (X.length + 5))) ∧
        (S ++ S1.map (· + (X.length + 5))).Nodup ∧ 3 ∉ (S ++ S1.map (· + (X.length + 5))) := by
      rintro x' rfl t
      refine ⟨OwnE.app (OwnE.one (OwnR.sh (fun id => ?_) hx) c) (ho.mono fun id hid g es1 hL => ?_), List.nodup_append.2 ⟨hn, nodup_add _ hn1, fun u hu v hv => ?_⟩, ?_⟩
      · rw [show id + (X.length + 5) = (id + X.length + 1) + 4 by omega]
        simp only [List.getElem?_cons_succ]
        rw [List.getElem?_append_right (by omega), show id + X.length + 1 - X.length = id + 1 by omega, List.getElem?_cons_succ, List.getElem?_map]
      · rcases id with _ | _ | _ | _ | id
        · cases hL
        · cases hL
        · cases hL
        · exact absurd hid h3
        · simp only [List.getElem?_cons_succ] at hL ⊢
          rw [List.getElem?_append_left (List.getElem?_eq_some_iff.1 hL).1]; exact hL
      · have := hlt0 u hu
        simp only [List.mem_map] at hv
        obtain ⟨q, _, rfl⟩ := hv
        omega
      · simp only [List.mem_append, not_or, List.mem_map]
        exact ⟨h3, fun ⟨q, _, hq⟩ => by omega⟩
    rcases hx.shape with rfl | ⟨id, g, n, rfl⟩
    · obtain ⟨q1, q2, q3⟩ := fin nilV rfl []
      refine ⟨⟨d.app (cons e c nil), r, es ++ [.agg [nilV, .int .i64 c]], X ++ (.box 88 [.sl false (elems e), .int .i64 c] :: M.map (shO (X.length + 5))), S ++ S1.map (· + (X.length + 5))⟩, ⟨hnx.symm, by rw [hdl]; exact q1, q2, q3⟩, by simp [len], ?_⟩
      refine W.sound hmix (E := [8000000, 2000000 + 90]) ?_
      simp only [run0, run1, run2, run3, run4, run5, run6, run7, run8, run9, run10, run11, run12, run13, run14, run15, run16, run17, run18, run19, run20, run21, run22, reduceCtorEq, Nat.reduceEqDiff, Nat.reduceAdd, Nat.reduceSub, Nat.reduceLeDiff, indexAddrA, indexRefA, appendA, strA, Nat.reduceMul, Nat.zero_mul, Nat.reduceMod, Int.reduceEq, Int.reduceLT, Int.reduceLE, Nat.reduceLT, Nat.lt_irrefl, Nat.reduceBEq, tys0, tys1, tys2, tys3, tys4, tys5, tys6, tys7, tys8, tys9, tys10, tys11, tys12, tys13, tys14, tys15, tys16, tys17, tys18, Try.ntmps90, Try.results90, elems_length, e1, e2, Int.toNat_natCast, Int.natCast_nonneg]
      refine ⟨[0,1,2,3,5,6,4,7,8,9,10,11], by kernel_rfl, ?_⟩
      simp only [run0, run1, run2, run3, run4, run5, run6, run7, run8, run9, run10, run11, run12, run13, run14, run15, run16, run17, run18, run19, run20, run21, run22, reduceCtorEq, Nat.reduceEqDiff, Nat.reduceAdd, Nat.reduceSub, Nat.reduceLeDiff, indexAddrA, indexRefA, appendA, strA, Nat.reduceMul, Nat.zero_mul, Nat.reduceMod, Int.reduceEq, Int.reduceLT, Int.reduceLE, Nat.reduceLT, Nat.lt_irrefl, Nat.reduceBEq, tys0, tys1, tys2, tys3, tys4, tys5, tys6, tys7, tys8, tys9, tys10, tys11, tys12, tys13, tys14, tys15, tys16, tys17, tys18, Try.ntmps90, Try.results90]
      refine RunL.callgp rfl rfl ok_f90 rfl hc (by simp only [pureL, pureB, av_pure, Bool.and_self]) rfl ?_
      simp only [run0, run1, run2, run3, run4, run5, run6, run7, run8, run9, run10, run11, run12, run13, run14, run15, run16, run17, run18, run19, run20, run21, run22, reduceCtorEq, Nat.reduceEqDiff, Nat.reduceAdd, Nat.reduceSub, Nat.reduceLeDiff, indexAddrA, indexRefA, appendA, strA, Nat.reduceMul, Nat.zero_mul, Nat.reduceMod, Int.reduceEq, Int.reduceLT, Int.reduceLE, Nat.reduceLT, Nat.lt_irrefl, Nat.reduceBEq, tys0, tys1, tys2, tys3, tys4, tys5, tys6, tys7, tys8, tys9, tys10, tys11, tys12, tys13, tys14, tys15, tys16, tys17, tys18, Try.ntmps90, Try.results90, nilV, shA, shL, hel, f2, f3, e5, hdl, eq_self]
      repeat constructor
    · obtain ⟨q1, q2, q3⟩ := fin (.ref (id + (X.length + 5)) [] g n) (by simp [shA]) []
      refine ⟨⟨d.app (cons e c nil), r, es ++ [.agg [.ref (id + (X.length + 5)) [] g n, .int .i64 c]], X ++ (.box 88 [.sl false (elems e), .int .i64 c] :: M.map (shO (X.length + 5))), S ++ S1.map (· + (X.length + 5))⟩, ⟨hnx.symm, by rw [hdl]; exact q1, q2, q3⟩, by simp [len], ?_⟩
      refine W.sound hmix (E := [8000000, 2000000 + 90]) ?_
      simp only [run0, run1, run2, run3, run4, run5, run6, run7, run8, run9, run10, run11, run12, run13, run14, run15, run16, run17, run18, run19, run20, run21, run22, reduceCtorEq, Nat.reduceEqDiff, Nat.reduceAdd, Nat.reduceSub, Nat.reduceLeDiff, indexAddrA, indexRefA, appendA, strA, Nat.reduceMul, Nat.zero_mul, Nat.reduceMod, Int.reduceEq, Int.reduceLT, Int.reduceLE, Nat.reduceLT, Nat.lt_irrefl, Nat.reduceBEq, tys0, tys1, tys2, tys3, tys4, tys5, tys6, tys7, tys8, tys9, tys10, tys11, tys12, tys13, tys14, tys15, tys16, tys17, tys18, Try.ntmps90, Try.results90, elems_length, e1, e2, Int.toNat_natCast, Int.natCast_nonneg]
      refine ⟨[0,1,2,3,5,6,4,7,8,9,10,11], by kernel_rfl, ?_⟩
      simp only [run0, run1, run2, run3, run4, run5, run6, run7, run8, run9, run10, run11, run12, run13, run14, run15, run16, run17, run18, run19, run20, run21, run22, reduceCtorEq, Nat.reduceEqDiff, Nat.reduceAdd, Nat.reduceSub, Nat.reduceLeDiff, indexAddrA, indexRefA, appendA, strA, Nat.reduceMul, Nat.zero_mul, Nat.reduceMod, Int.reduceEq, Int.reduceLT, Int.reduceLE, Nat.reduceLT, Nat.lt_irrefl, Nat.reduceBEq, tys0, tys1, tys2, tys3, tys4, tys5, tys6, tys7, tys8, tys9, tys10, tys11, tys12, tys13, tys14, tys15, tys16, tys17, tys18, Try.ntmps90, Try.results90]
      refine RunL.callgp rfl rfl ok_f90 rfl hc (by simp only [pureL, pureB, av_pure, Bool.and_self]) rfl ?_
      simp only [run0, run1, run2, run3, run4, run5, run6, run7, run8, run9, run10, run11, run12, run13, run14, run15, run16, run17, run18, run19, run20, run21, run22, reduceCtorEq, Nat.reduceEqDiff, Nat.reduceAdd, Nat.reduceSub, Nat.reduceLeDiff, indexAddrA, indexRefA, appendA, strA, Nat.reduceMul, Nat.zero_mul, Nat.reduceMod, Int.reduceEq, Int.reduceLT, Int.reduceLE, Nat.reduceLT, Nat.lt_irrefl, Nat.reduceBEq, tys0, tys1, tys2, tys3, tys4, tys5, tys6, tys7, tys8, tys9, tys10, tys11, tys12, tys13, tys14, tys15, tys16, tys17, tys18, Try.ntmps90, Try.results90, nilV, shA, shL, hel, f2, f3, e5, hdl, eq_self]
      repeat constructor
termination_by a.sz

end Go.Proofs.Ytphmkhaboghagaa
/-
  Ordinals: what is told as an ordinal of its own; degrees; powers.
-/
namespace Go.Proofs.Ytphmkhaboghagaa
open Go K Od
set_option linter.unusedSimpArgs false
set_option linter.unusedVariables false
set_option maxHeartbeats 400000

theorem Own.shape {M : List AObj} {a : Od} {x : AV} (h : Own M a x) : okT x = true ∧ M.all okSO = true ∧ x.cells = [x] := by
  obtain ⟨S, h1, h2, h3⟩ := h
  exact ⟨h1.form.1, h3, h1.form.2.1⟩
theorem Own.nil : Own [] .nil nilV := ⟨[], .inl ⟨rfl, rfl, rfl⟩, List.nodup_nil, rfl⟩

/-- The end of a function that gives a tree of its own, got by one call that gave one. -/
theorem Own.end {M L1 : List AObj} {a : Od} {x : AV} {k : Nat} (hg : ∀ id, L1[id + k]? = (M[id]?).map (shO k)) {S : List Nat} (h : OwnR M 88 2 a x S) (hn : S.Nodup) : Own (keepS (S.map (· + k)) L1) a (shA k x) :=
  ⟨S.map (· + k), (OwnR.sh hg h).keep fun _ h => h, nodup_add k hn, keepS_okSO _ _⟩
theorem okT_sh {L : List AObj} {a : Od} {x : AV} {k : Nat} {S : List Nat} {T : TypeId} {z : Nat} (h : OwnR L T z a x S) : okT (shA k x) = true := by
  rcases h.shape with rfl | ⟨id, g, n, rfl⟩ <;> rfl

theorem told_ok (a : Od) (hs : a.sz ≤ 1048576) : ∃ x M, Ct Try.prog 52 [av a] [] (.tup [.agg [x], .bool (goodT a)]) M ∧ Own M (if goodT a then a else .nil) x := by
  cases hg : goodT a
  · refine ⟨nilV, ?_⟩
    apply ex1
    · apply Ct.by_ hmix [] Try.func52 rfl
      simp only [run0, run1, run2, run3, run4, run5, run6, run7, run8, run9, run10, run11, run12, run13, run14, run15, run16, run17, run18, run19, run20, run21, run22, reduceCtorEq, Nat.reduceEqDiff, Nat.reduceAdd, Nat.reduceSub, Nat.reduceLeDiff, indexAddrA, indexRefA, appendA, strA, Nat.reduceMul, Nat.zero_mul, Nat.reduceMod, Int.reduceEq, Int.reduceLT, Int.reduceLE, Nat.reduceLT, Nat.lt_irrefl, Nat.reduceBEq, tys0, tys1, tys2, tys3, tys4, tys5, tys6, tys7, tys8, tys9, tys10, tys11, tys12, tys13, tys14, tys15, tys16, tys17, tys18, Try.ntmps52, Try.results52, av]
      refine RunL.callp rfl rfl ok_f63 (IsOrdinal_ok a hs) (by first | rfl | simp only [pureL, pureB, Bool.and_self, Bool.and_true, Bool.true_and, Od.elems_pure, Od.pay_pure, Od.av_pure]) rfl ?_
      simp only [run0, run1, run2, run3, run4, run5, run6, run7, run8, run9, run10, run11, run12, run13, run14, run15, run16, run17, run18, run19, run20, run21, run22, reduceCtorEq, Nat.reduceEqDiff, Nat.reduceAdd, Nat.reduceSub, Nat.reduceLeDiff, indexAddrA, indexRefA, appendA, strA, Nat.reduceMul, Nat.zero_mul, Nat.reduceMod, Int.reduceEq, Int.reduceLT, Int.reduceLE, Nat.reduceLT, Nat.lt_irrefl, Nat.reduceBEq, tys0, tys1, tys2, tys3, tys4, tys5, tys6, tys7, tys8, tys9, tys10, tys11, tys12, tys13, tys14, tys15, tys16, tys17, tys18, Try.ntmps52, Try.results52, hg]
      exact Fin.keep [] rfl rfl
    · exact ⟨[], .inl ⟨rfl, rfl, rfl⟩, List.nodup_nil, keepS_okSO _ _⟩
  · obtain ⟨x, M, hc, S, ho, hn, hM⟩ := cloneS_ok a hs
    refine ⟨shA 2 x, ?_⟩
    apply ex1
    · apply Ct.by_ hmix [] Try.func52 rfl
      simp only [run0, run1, run2, run3, run4, run5, run6, run7, run8, run9, run10, run11, run12, run13, run14, run15, run16, run17, run18, run19, run20, run21, run22, reduceCtorEq, Nat.reduceEqDiff, Nat.reduceAdd, Nat.reduceSub, Nat.reduceLeDiff, indexAddrA, indexRefA, appendA, strA, Nat.reduceMul, Nat.zero_mul, Nat.reduceMod, Int.reduceEq, Int.reduceLT, Int.reduceLE, Nat.reduceLT, Nat.lt_irrefl, Nat.reduceBEq, tys0, tys1, tys2, tys3, tys4, tys5, tys6, tys7, tys8, tys9, tys10, tys11, tys12, tys13, tys14, tys15, tys16, tys17, tys18, Try.ntmps52, Try.results52, av]
      refine RunL.callp rfl rfl ok_f63 (IsOrdinal_ok a hs) (by first | rfl | simp only [pureL, pureB, Bool.and_self, Bool.and_true, Bool.true_and, Od.elems_pure, Od.pay_pure, Od.av_pure]) rfl ?_
      simp only [run0, run1, run2, run3, run4, run5, run6, run7, run8, run9, run10, run11, run12, run13, run14, run15, run16, run17, run18, run19, run20, run21, run22, reduceCtorEq, Nat.reduceEqDiff, Nat.reduceAdd, Nat.reduceSub, Nat.reduceLeDiff, indexAddrA, indexRefA, appendA, strA, Nat.reduceMul, Nat.zero_mul, Nat.reduceMod, Int.reduceEq, Int.reduceLT, Int.reduceLE, Nat.reduceLT, Nat.lt_irrefl, Nat.reduceBEq, tys0, tys1, tys2, tys3, tys4, tys5, tys6, tys7, tys8, tys9, tys10, tys11, tys12, tys13, tys14, tys15, tys16, tys17, tys18, Try.ntmps52, Try.results52, hg]
      refine RunL.callgp rfl rfl ok_f91 rfl hc (by simp only [pureL, pureB, av_pure, Bool.and_self]) rfl ?_
      simp only [run0, run1, run2, run3, run4, run5, run6, run7, run8, run9, run10, run11, run12, run13, run14, run15, run16, run17, run18, run19, run20, run21, run22, reduceCtorEq, Nat.reduceEqDiff, Nat.reduceAdd, Nat.reduceSub, Nat.reduceLeDiff, indexAddrA, indexRefA, appendA, strA, Nat.reduceMul, Nat.zero_mul, Nat.reduceMod, Int.reduceEq, Int.reduceLT, Int.reduceLE, Nat.reduceLT, Nat.lt_irrefl, Nat.reduceBEq, tys0, tys1, tys2, tys3, tys4, tys5, tys6, tys7, tys8, tys9, tys10, tys11, tys12, tys13, tys14, tys15, tys16, tys17, tys18, Try.ntmps52, Try.results52, shA, shL]
      exact Fin.keep (S.map (· + 2)) (by simp [okT, okTL, okT_sh ho]) rfl
    · exact Own.end (k := 2) (fun id => by simp) ho hn
theorem odIf_ok (a : Od) (hs : a.sz ≤ 1048576) : Ct Try.prog 48 [av a] [] (.tup [av (if goodT a then a else .nil), .bool (goodT a)]) [] := by
  refine Ct.by_ hmix [] Try.func48 rfl ?_
  simp only [run0, run1, run2, run3, run4, run5, run6, run7, run8, run9, run10, run11, run12, run13, run14, run15, run16, run17, run18, run19, run20, run21, run22, reduceCtorEq, Nat.reduceEqDiff, Nat.reduceAdd, Nat.reduceSub, Nat.reduceLeDiff, indexAddrA, indexRefA, appendA, strA, Nat.reduceMul, Nat.zero_mul, Nat.reduceMod, Int.reduceEq, Int.reduceLT, Int.reduceLE, Nat.reduceLT, Nat.lt_irrefl, Nat.reduceBEq, tys0, tys1, tys2, tys3, tys4, tys5, tys6, tys7, tys8, tys9, tys10, tys11, tys12, tys13, tys14, tys15, tys16, tys17, tys18, Try.ntmps48, Try.results48, av]
  refine RunL.callp rfl rfl ok_f58 (odGood_ok a hs) (by first | rfl | simp only [pureL, pureB, Bool.and_self, Bool.and_true, Bool.true_and, Od.elems_pure, Od.pay_pure, Od.av_pure]) rfl ?_
  cases hg : goodT a
  · simp only [run0, run1, run2, run3, run4, run5, run6, run7, run8, run9, run10, run11, run12, run13, run14, run15, run16, run17, run18, run19, run20, run21, run22, reduceCtorEq, Nat.reduceEqDiff, Nat.reduceAdd, Nat.reduceSub, Nat.reduceLeDiff, indexAddrA, indexRefA, appendA, strA, Nat.reduceMul, Nat.zero_mul, Nat.reduceMod, Int.reduceEq, Int.reduceLT, Int.reduceLE, Nat.reduceLT, Nat.lt_irrefl, Nat.reduceBEq, tys0, tys1, tys2, tys3, tys4, tys5, tys6, tys7, tys8, tys9, tys10, tys11, tys12, tys13, tys14, tys15, tys16, tys17, tys18, Try.ntmps48, Try.results48]
    exact Fin.value (Vw.tup (.cons (Vw.agg (.cons (Vw.nil false) .nil)) (.cons (Vw.pur (Pur.bool _)) .nil)))
  · obtain ⟨x, M, hc, S, ho, hn, hM⟩ := ownS_ok a hs
    have hv : Ct Try.prog 90 [av a] [] (av a) [] := hc.toV (Vw.agg (.cons (ho.view false) .nil))
    simp only [run0, run1, run2, run3, run4, run5, run6, run7, run8, run9, run10, run11, run12, run13, run14, run15, run16, run17, run18, run19, run20, run21, run22, reduceCtorEq, Nat.reduceEqDiff, Nat.reduceAdd, Nat.reduceSub, Nat.reduceLeDiff, indexAddrA, indexRefA, appendA, strA, Nat.reduceMul, Nat.zero_mul, Nat.reduceMod, Int.reduceEq, Int.reduceLT, Int.reduceLE, Nat.reduceLT, Nat.lt_irrefl, Nat.reduceBEq, tys0, tys1, tys2, tys3, tys4, tys5, tys6, tys7, tys8, tys9, tys10, tys11, tys12, tys13, tys14, tys15, tys16, tys17, tys18, Try.ntmps48, Try.results48]
    refine RunL.callp rfl rfl ok_f90 (hv) (by first | rfl | simp only [pureL, pureB, Bool.and_self, Bool.and_true, Bool.true_and, Od.elems_pure, Od.pay_pure, Od.av_pure]) rfl ?_
    simp only [run0, run1, run2, run3, run4, run5, run6, run7, run8, run9, run10, run11, run12, run13, run14, run15, run16, run17, run18, run19, run20, run21, run22, reduceCtorEq, Nat.reduceEqDiff, Nat.reduceAdd, Nat.reduceSub, Nat.reduceLeDiff, indexAddrA, indexRefA, appendA, strA, Nat.reduceMul, Nat.zero_mul, Nat.reduceMod, Int.reduceEq, Int.reduceLT, Int.reduceLE, Nat.reduceLT, Nat.lt_irrefl, Nat.reduceBEq, tys0, tys1, tys2, tys3, tys4, tys5, tys6, tys7, tys8, tys9, tys10, tys11, tys12, tys13, tys14, tys15, tys16, tys17, tys18, Try.ntmps48, Try.results48, av]
    exact Fin.eq rfl (by simp only [pureB, pureL, elems_pure, Bool.and_self])

/-! ### degrees -/
def degT : Od → Od
  | .nil => .nil
  | .cons e _ _ => e
def degOk (a : Od) : Bool := goodT a && !isZ a
def degR (a : Od) : Od := if degOk a then degT a else .nil
theorem degT_sz (a : Od) : (degT a).sz ≤ a.sz := by cases a <;> simp [degT, sz]; omega

theorem degR_sz (a : Od) (h : a.sz ≤ 1048576) : (degR a).sz ≤ 1048576 := by
  have := degT_sz a
  unfold degR
  split
  · omega
  · simp [sz]
end Go.Proofs.Ytphmkhaboghagaa
/-
  Hereditary forms of numbers: the plain word for both, and how both are made.
-/
namespace Go.Proofs.Ytphmkhaboghagaa
open Go K Od
set_option linter.unusedSimpArgs false
set_option linter.unusedVariables false
set_option maxHeartbeats 1600000
set_option maxRecDepth 8000

theorem setXn {α : Type} (X ys : List α) (n : Nat) (y : α) : (X ++ ys).set (X.length + n) y = X ++ ys.set n y := by rw [List.set_append_right _ _ (by omega)]; congr 2; omega

/-- The digits of a number, the least first; the first number is fuel. -/
def digs (b : Nat) : Nat → Nat → List Nat
  | 0, _ => []
  | f + 1, n => if n = 0 then [] else n % b :: digs b f (n / b)
theorem digs_len (b : Nat) : ∀ f n, (digs b f n).length ≤ f
  | 0, n => by simp [digs]
  | f + 1, n => by
    unfold digs
    split
    · simp
    · have := digs_len b f (n / b); simp; omega
theorem div_lt {b n : Nat} (hb : 2 ≤ b) (hn : n ≠ 0) : n / b < n := Nat.div_lt_self (by omega) (by omega)
theorem digs_fuel {b : Nat} (hb : 2 ≤ b) : ∀ (f g n : Nat), n ≤ f → n ≤ g → digs b f n = digs b g n
  | 0, 0, n, _, _ => rfl
  | 0, g + 1, n, h, _ => by have : n = 0 := by omega
                            subst this; simp [digs]
  | f + 1, 0, n, _, h => by have : n = 0 := by omega
                            subst this; simp [digs]
  | f + 1, g + 1, n, h1, h2 => by
    unfold digs
    split
    · rfl
    · rename_i hn
      have := div_lt hb hn
      rw [digs_fuel hb f g (n / b) (by omega) (by omega)]
def dg (b n : Nat) : List Nat := digs b n n
theorem dg_zero (b : Nat) : dg b 0 = [] := rfl
theorem dg_pos {b n : Nat} (hb : 2 ≤ b) (hn : 0 < n) : dg b n = n % b :: dg b (n / b) := by
  obtain ⟨m, rfl⟩ : ∃ m, n = m + 1 := ⟨n - 1, by omega⟩
  have := div_lt hb (n := m + 1) (by omega)
  unfold dg
  rw [digs, if_neg (by omega), digs_fuel hb m ((m + 1) / b) _ (by omega) (by omega)]
theorem dg_len (b n : Nat) : (dg b n).length ≤ n := digs_len b n n
theorem dg_lt {b : Nat} (hb : 2 ≤ b) : ∀ f n, ∀ d ∈ digs b f n, d < b
  | 0, n, d, h => by simp [digs] at h
  | f + 1, n, d, h => by
    unfold digs at h
    split at h
    · simp at h
    · rcases List.mem_cons.1 h with rfl | h
      · exact Nat.mod_lt _ (by omega)
      · exact dg_lt hb f _ d h

/-- The terms of digits from the e-th on, ahead of 'acc'. -/
def herL (rec : Nat → Od) : List Nat → Nat → Od → Od
  | [], _, acc => acc
  | d :: ds, e, acc => herL rec ds (e + 1) (if d = 0 then acc else .cons (rec e) d acc)
/-- The hereditary form; the first number is fuel. -/
def her (b : Nat) : Nat → Nat → Od
  | 0, _ => .nil
  | f + 1, n => herL (her b f) (dg b n) 0 .nil
theorem her_succ (b f n : Nat) : her b (f + 1) n = herL (her b f) (dg b n) 0 .nil := rfl

theorem herL_app (rec : Nat → Od) : ∀ (ds : List Nat) (e : Nat) (acc : Od), herL rec ds e acc = (herL rec ds e .nil).app acc
  | [], e, acc => rfl
  | d :: ds, e, acc => by
    simp only [herL]
    rw [herL_app rec ds (e + 1) (if d = 0 then acc else _), herL_app rec ds (e + 1) (if d = 0 then .nil else _)]
    split
    · rw [app_nil]
    · rw [app_assoc]; rfl
/-- The terms of the digits from the i-th on. -/
def herQ (rec : Nat → Od) (ds : List Nat) (i : Nat) : Od := herL rec (ds.drop i) i .nil
theorem herQ_end (rec : Nat → Od) (ds : List Nat) : herQ rec ds ds.length = .nil := by simp [herQ, herL]
theorem herQ_step (rec : Nat → Od) (ds : List Nat) {i : Nat} (hi : i < ds.length) : herQ rec ds i = (herQ rec ds (i + 1)).app (if ds[i] = 0 then .nil else .cons (rec i) ds[i] .nil) := by
  unfold herQ
  rw [List.drop_eq_getElem_cons hi]
  simp only [herL]
  rw [herL_app]
theorem herL_len (rec : Nat → Od) : ∀ (ds : List Nat) (e : Nat) (acc : Od), (herL rec ds e acc).len ≤ ds.length + acc.len
  | [], e, acc => by simp [herL]
  | d :: ds, e, acc => by
    by_cases hd : d = 0
    · have := herL_len rec ds (e + 1) acc
      simp only [herL, if_pos hd, List.length_cons]; omega
    · have := herL_len rec ds (e + 1) (.cons (rec e) d acc)
      simp only [len] at this
      simp only [herL, if_neg hd, List.length_cons]; omega
theorem herQ_len (rec : Nat → Od) (ds : List Nat) (i : Nat) : (herQ rec ds i).len ≤ ds.length := by
  have := herL_len rec (ds.drop i) i .nil
  simp only [len, List.length_drop] at this
  unfold herQ; omega

abbrev nats (l : List Nat) : List Int := l.map Int.ofNat
theorem nats_get (l : List Nat) (i : Nat) (h : i < l.length) : (nats l)[i]?.getD 0 = (l[i] : Int) := by simp [h]

/-! ### slices.Backward -/
theorem back_ok (es : List Int) : Ct Try.prog 92 [.sl false (ints es)] [] (.fn 119 [.rptr (.agg [.sl false (ints es)]) 0]) [] := by
  refine Ct.by_ hmix [] Try.func92 rfl ?_
  simp only [run0, run1, run2, run3, run4, run5, run6, run7, run8, run9, run10, run11, run12, run13, run14, run15, run16, run17, run18, run19, run20, run21, run22, reduceCtorEq, Nat.reduceEqDiff, Nat.reduceAdd, Nat.reduceSub, Nat.reduceLeDiff, indexAddrA, indexRefA, appendA, strA, Nat.reduceMul, Nat.zero_mul, Nat.reduceMod, Int.reduceEq, Int.reduceLT, Int.reduceLE, Nat.reduceLT, Nat.lt_irrefl, Nat.reduceBEq, tys0, tys1, tys2, tys3, tys4, tys5, tys6, tys7, tys8, tys9, tys10, tys11, tys12, tys13, tys14, tys15, tys16, tys17, tys18, Try.ntmps92, Try.results92]
  exact Fin.value (Vw.fn (.cons (Vw.ptr rfl (by simp only [pureL, pureB, ints_pure, Bool.and_self])) .nil))

theorem backI_ok (es : List Int) (hes : es.length ≤ 1048576) (l : Nat) (r : Loop) (ts : List AV) (Ls : Nat → List AObj)
    (h : ∀ k, k < es.length → YC Try.prog l r ts [.int .i64 ((es.length - 1 - k : Nat) : Int), .int .i64 (es[es.length - 1 - k]?.getD 0)] (Ls k) (Ls (k + 1))) :
    Ct Try.prog 119 [.yld l r ts, .rptr (.agg [.sl false (ints es)]) 0] (Ls 0) (.tup []) (Ls es.length) := by
  refine Ct.by_ hmix [] Try.func119 rfl ?_
  have w0 : IntKind.i64.wrap ((es.length : Int) - 1) = (es.length : Int) - 1 - ((0 : Nat) : Int) := by rw [w64_id (by omega) (by omega)]; omega
  simp only [run0, run1, run2, run3, run4, run5, run6, run7, run8, run9, run10, run11, run12, run13, run14, run15, run16, run17, run18, run19, run20, run21, run22, reduceCtorEq, Nat.reduceEqDiff, Nat.reduceAdd, Nat.reduceSub, Nat.reduceLeDiff, indexAddrA, indexRefA, appendA, strA, Nat.reduceMul, Nat.zero_mul, Nat.reduceMod, Int.reduceEq, Int.reduceLT, Int.reduceLE, Nat.reduceLT, Nat.lt_irrefl, Nat.reduceBEq, tys0, tys1, tys2, tys3, tys4, tys5, tys6, tys7, tys8, tys9, tys10, tys11, tys12, tys13, tys14, tys15, tys16, tys17, tys18, Try.ntmps119, Try.results119, w0]
  refine AWp.loop_inv (ι := Nat) (fun k => ⟨[.yld l r ts, .rptr (.agg [.sl false (ints es)]) 0, .junk, .int .i64 ((es.length : Int) - 1 - (k : Int)), .junk, .junk, .junk, .junk, .junk, .junk, .junk, .junk, .junk, .junk, .junk, .junk, .junk, .junk, .junk], Ls k⟩)
    (fun k => k ≤ es.length) (fun k => es.length - k) 0 (Nat.zero_le _) ⟨by repeat constructor, rfl⟩ ?_
  intro k hk
  refine W.sound hmix (E := []) ?_
  by_cases hlt : k < es.length
  · have e1 : (0 : Int) ≤ (es.length : Int) - 1 - (k : Int) := by omega
    have e2 : (es.length : Int) - 1 - (k : Int) = ((es.length - 1 - k : Nat) : Int) := by omega
    have e3 : (ints es)[es.length - 1 - k]? = some (.int .i64 (es[es.length - 1 - k]?.getD 0)) := by
      have : es.length - 1 - k < es.length := by omega
      simp [this]
    have e4 : IntKind.i64.wrap (((es.length - 1 - k : Nat) : Int) - 1) = (es.length : Int) - 1 - ((k + 1 : Nat) : Int) := by rw [w64_id (by omega) (by omega)]; omega
    rw [e2] at e1
    rw [e2]
    simp only [run0, run1, run2, run3, run4, run5, run6, run7, run8, run9, run10, run11, run12, run13, run14, run15, run16, run17, run18, run19, run20, run21, run22, reduceCtorEq, Nat.reduceEqDiff, Nat.reduceAdd, Nat.reduceSub, Nat.reduceLeDiff, indexAddrA, indexRefA, appendA, strA, Nat.reduceMul, Nat.zero_mul, Nat.reduceMod, Int.reduceEq, Int.reduceLT, Int.reduceLE, Nat.reduceLT, Nat.lt_irrefl, Nat.reduceBEq, tys0, tys1, tys2, tys3, tys4, tys5, tys6, tys7, tys8, tys9, tys10, tys11, tys12, tys13, tys14, tys15, tys16, tys17, tys18, Try.ntmps119, Try.results119, e1, e3, Int.toNat_natCast, Int.natCast_nonneg]
    refine RunL.cally rfl rfl rfl rfl (.inl rfl) (h k hlt) ?_
    simp only [run0, run1, run2, run3, run4, run5, run6, run7, run8, run9, run10, run11, run12, run13, run14, run15, run16, run17, run18, run19, run20, run21, run22, reduceCtorEq, Nat.reduceEqDiff, Nat.reduceAdd, Nat.reduceSub, Nat.reduceLeDiff, indexAddrA, indexRefA, appendA, strA, Nat.reduceMul, Nat.zero_mul, Nat.reduceMod, Int.reduceEq, Int.reduceLT, Int.reduceLE, Nat.reduceLT, Nat.lt_irrefl, Nat.reduceBEq, tys0, tys1, tys2, tys3, tys4, tys5, tys6, tys7, tys8, tys9, tys10, tys11, tys12, tys13, tys14, tys15, tys16, tys17, tys18, Try.ntmps119, Try.results119, e4]
    exact ⟨k + 1, by omega, by omega, by repeat constructor, rfl⟩
  · have hk2 : k = es.length := by omega
    subst hk2
    have e1 : ¬ ((0 : Int) ≤ (es.length : Int) - 1 - (es.length : Int)) := by omega
    simp only [run0, run1, run2, run3, run4, run5, run6, run7, run8, run9, run10, run11, run12, run13, run14, run15, run16, run17, run18, run19, run20, run21, run22, reduceCtorEq, Nat.reduceEqDiff, Nat.reduceAdd, Nat.reduceSub, Nat.reduceLeDiff, indexAddrA, indexRefA, appendA, strA, Nat.reduceMul, Nat.zero_mul, Nat.reduceMod, Int.reduceEq, Int.reduceLT, Int.reduceLE, Nat.reduceLT, Nat.lt_irrefl, Nat.reduceBEq, tys0, tys1, tys2, tys3, tys4, tys5, tys6, tys7, tys8, tys9, tys10, tys11, tys12, tys13, tys14, tys15, tys16, tys17, tys18, Try.ntmps119, Try.results119, e1]
    exact Fin.own rfl rfl

end Go.Proofs.Ytphmkhaboghagaa
/-
  Hereditary forms of numbers: impl.hereditary, spec.deForm.
-/
namespace Go.Proofs.Ytphmkhaboghagaa
open Go K Od
set_option linter.unusedSimpArgs false
set_option linter.unusedVariables false
set_option maxHeartbeats 1600000
set_option maxRecDepth 8000

theorem VwF_ints {L : List AObj} {id g n : Nat} {T : TypeId} {l : List Int} (hL : L[id]? = some (.vec T 1 g (ints l))) (hn : n = l.length) : VwF id L (.ref id [] g n) (.sl false (ints l)) := by
  have := VwF.ref (o := false) (n := n) hL (by rw [hn]; simp) (fun e he c hc => by
    obtain ⟨x, _, rfl⟩ := List.mem_map.1 he
    simp only [AV.cells, List.mem_singleton] at hc
    subst hc
    exact ⟨Pur.int _ _, fun xs h => by cases h⟩)
  rwa [List.take_of_length_le (by rw [hn]; simp)] at this

theorem end_get (a : Od) (y : AV) : (elems a ++ [y])[a.len]? = some y := by rw [List.getElem?_append_right (by rw [elems_length]; exact Nat.le_refl _), elems_length, Nat.sub_self]; rfl
theorem end_set (a : Od) (y z : AV) : (elems a ++ [y]).set a.len z = elems a ++ [z] := by rw [List.set_append_right _ _ (by rw [elems_length]; exact Nat.le_refl _), elems_length, Nat.sub_self]; rfl
theorem end_noOwn (a : Od) : noOwn (elems a ++ [.agg [.lit (.slice none 0 0), .int .i64 0]]) = true := by
  have := elems_noOwn a
  simp only [noOwn, List.all_append, List.all_cons, List.all_nil, Bool.and_true] at this ⊢
  rw [this]; rfl
theorem hereditary_ok (b : Nat) (hb : 2 ≤ b) (hb2 : b ≤ 2000) : ∀ f n : Nat, n ≤ 1000000 → n < f → Ct Try.prog 53 [.int .i64 (n : Int), .int .i64 (b : Int)] [] (av (her b f n)) [] := by
  intro f
  induction f with
  | zero => intro n _ h; omega
  | succ f ih =>
  intro n hn hf
  have hdl := dg_len b n
  have hb0 : ¬ ((b : Int) = 0) := by omega
  refine Ct.by_ hmix [ 1000000 + 9] Try.func53 rfl ?_
  simp only [run0, run1, run2, run3, run4, run5, run6, run7, run8, run9, run10, run11, run12, run13, run14, run15, run16, run17, run18, run19, run20, run21, run22, reduceCtorEq, Nat.reduceEqDiff, Nat.reduceAdd, Nat.reduceSub, Nat.reduceLeDiff, indexAddrA, indexRefA, appendA, strA, Nat.reduceMul, Nat.zero_mul, Nat.reduceMod, Int.reduceEq, Int.reduceLT, Int.reduceLE, Nat.reduceLT, Nat.lt_irrefl, Nat.reduceBEq, tys0, tys1, tys2, tys3, tys4, tys5, tys6, tys7, tys8, tys9, tys10, tys11, tys12, tys13, tys14, tys15, tys16, tys17, tys18, Try.ntmps53, Try.results53]
  refine AWp.loop_inv (ι := List Nat × Nat) (fun p => ⟨[.int .i64 p.2, .int .i64 b, .junk, .ptr 0 0, .ptr 1 0, .ref 2 [] p.1.length p.1.length, .junk, .junk, .junk, .junk, .junk, .junk, .junk, .junk, .junk, .junk, .junk, .junk, .junk, .junk, .junk, .junk, .junk, .junk, .junk, .junk, .junk, .junk, .junk, .junk, .junk, .junk, .junk, .junk, .junk, .junk, .junk, .junk, .junk, .junk, .junk], [.box 3 [.int .i64 b], .box 24 [nilV], .vec 3 1 p.1.length (ints (nats p.1))]⟩)
    (fun p => dg b n = p.1 ++ dg b p.2 ∧ p.2 ≤ n) (fun p => p.2) ([], n) ⟨rfl, Nat.le_refl _⟩ ⟨by repeat constructor, rfl⟩ ?_
  rintro ⟨ds, m⟩ ⟨hd, hm⟩
  simp only at hd hm
  have hdd : ds.length + (dg b m).length = (dg b n).length := by rw [hd, List.length_append]
  by_cases h0 : m = 0
  · subst h0
    rw [dg_zero, List.append_nil] at hd
    refine W.sound hmix (E := []) ?_
    have e1 : ¬ ((0 : Int) < ((0 : Nat) : Int)) := by omega
    simp only [run0, run1, run2, run3, run4, run5, run6, run7, run8, run9, run10, run11, run12, run13, run14, run15, run16, run17, run18, run19, run20, run21, run22, reduceCtorEq, Nat.reduceEqDiff, Nat.reduceAdd, Nat.reduceSub, Nat.reduceLeDiff, indexAddrA, indexRefA, appendA, strA, Nat.reduceMul, Nat.zero_mul, Nat.reduceMod, Int.reduceEq, Int.reduceLT, Int.reduceLE, Nat.reduceLT, Nat.lt_irrefl, Nat.reduceBEq, tys0, tys1, tys2, tys3, tys4, tys5, tys6, tys7, tys8, tys9, tys10, tys11, tys12, tys13, tys14, tys15, tys16, tys17, tys18, Try.ntmps53, Try.results53, e1]
    refine RunL.give rfl rfl ok_f92 rfl rfl (back_ok (nats ds)) ⟨_, _, _, _, rfl⟩ (.cons (VwF_ints rfl (by simp)) .nil) rfl ?_
    simp only [run0, run1, run2, run3, run4, run5, run6, run7, run8, run9, run10, run11, run12, run13, run14, run15, run16, run17, run18, run19, run20, run21, run22, reduceCtorEq, Nat.reduceEqDiff, Nat.reduceAdd, Nat.reduceSub, Nat.reduceLeDiff, indexAddrA, indexRefA, appendA, strA, Nat.reduceMul, Nat.zero_mul, Nat.reduceMod, Int.reduceEq, Int.reduceLT, Int.reduceLE, Nat.reduceLT, Nat.lt_irrefl, Nat.reduceBEq, tys0, tys1, tys2, tys3, tys4, tys5, tys6, tys7, tys8, tys9, tys10, tys11, tys12, tys13, tys14, tys15, tys16, tys17, tys18, Try.ntmps53, Try.results53]
    refine AWp.nilB 3 0 88 2 rfl rfl ?_
    have hdl2 : ds.length ≤ n := by omega
    have hnl : (nats ds).length = ds.length := by simp
    refine AWp.range (F := 119) (z := .tup []) rfl ok_f119 ⟨by kernel_rfl, by kernel_rfl⟩ ds.length
      (fun k => [.box 3 [.int .i64 b], .box 24 [nilV], .dead, .box 24 [.ref 4 [] (herQ (her b f) ds (ds.length - k)).len (herQ (her b f) ds (ds.length - k)).len], .vec 88 2 (herQ (her b f) ds (ds.length - k)).len (elems (herQ (her b f) ds (ds.length - k)))])
      (fun k => [.int .i64 ((ds.length - 1 - k : Nat) : Int), .int .i64 ((nats ds)[ds.length - 1 - k]?.getD 0)]) ?h0 (fun _ _ => rfl) ?hny ?hnt (fun _ _ => rfl) ?hit ?hround ?hQ
    case h0 => simp only [Nat.sub_zero, herQ_end, len, elems]; rfl
    case hny =>
      intro k _
      simp only [List.all_cons, List.all_nil, noYO, noYL_of (elems_pure _), Bool.and_true]
      rfl
    case hnt =>
      simp only [noYL, noY, noYL_of (ints_pure _), Bool.and_true, Bool.and_self]
    case hit =>
      intro l r ts h
      have := backI_ok (nats ds) (by omega) l r ts
      rw [hnl] at this
      exact this _ h
    case hQ =>
      simp only [run0, run1, run2, run3, run4, run5, run6, run7, run8, run9, run10, run11, run12, run13, run14, run15, run16, run17, run18, run19, run20, run21, run22, reduceCtorEq, Nat.reduceEqDiff, Nat.reduceAdd, Nat.reduceSub, Nat.reduceLeDiff, indexAddrA, indexRefA, appendA, strA, Nat.reduceMul, Nat.zero_mul, Nat.reduceMod, Int.reduceEq, Int.reduceLT, Int.reduceLE, Nat.reduceLT, Nat.lt_irrefl, Nat.reduceBEq, tys0, tys1, tys2, tys3, tys4, tys5, tys6, tys7, tys8, tys9, tys10, tys11, tys12, tys13, tys14, tys15, tys16, tys17, tys18, Try.ntmps53, Try.results53]
      rw [show her b (f + 1) n = herQ (her b f) ds (ds.length - ds.length) by rw [her_succ, hd, Nat.sub_self]; rfl]
      exact Fin.value (Vw.agg (.cons (Vw_elems (T := 88) rfl rfl rfl) .nil))
    case hround =>
      intro k hk
      have hi : ds.length - 1 - k < ds.length := by omega
      have hstep := herQ_step (her b f) ds hi
      rw [show ds.length - 1 - k + 1 = ds.length - k by omega] at hstep
      have hlt : ds[ds.length - 1 - k] < b := dg_lt hb n n _ (by show _ ∈ dg b n; rw [hd]; exact List.getElem_mem hi)
      rw [nats_get ds _ hi]
      refine W.sound hmix (E := []) ?_
      simp only [setP, List.zip_cons_cons, List.zip_nil_left, List.foldl_cons, List.foldl_nil]
      simp only [run0, run1, run2, run3, run4, run5, run6, run7, run8, run9, run10, run11, run12, run13, run14, run15, run16, run17, run18, run19, run20, run21, run22, reduceCtorEq, Nat.reduceEqDiff, Nat.reduceAdd, Nat.reduceSub, Nat.reduceLeDiff, indexAddrA, indexRefA, appendA, strA, Nat.reduceMul, Nat.zero_mul, Nat.reduceMod, Int.reduceEq, Int.reduceLT, Int.reduceLE, Nat.reduceLT, Nat.lt_irrefl, Nat.reduceBEq, tys0, tys1, tys2, tys3, tys4, tys5, tys6, tys7, tys8, tys9, tys10, tys11, tys12, tys13, tys14, tys15, tys16, tys17, tys18, Try.ntmps53, Try.results53]
      refine W.sound hmix (E := [8000002, 1000000 + 32, 1000000 + 39, 5999999, 6000003, 7000000 + 39, 9000000 + 29]) ?_
      rw [show ds.length - (k + 1) = ds.length - 1 - k by omega, hstep]
      have hol := herQ_len (her b f) ds (ds.length - k)
      generalize herQ (her b f) ds (ds.length - k) = o at *
      generalize hD : ds[ds.length - 1 - k] = d at *
      by_cases hd0 : d = 0
      · subst hd0
        have e2 : ¬ ((0 : Int) < ((0 : Nat) : Int)) := by omega
        rw [if_pos rfl, app_nil]
        simp only [run0, run1, run2, run3, run4, run5, run6, run7, run8, run9, run10, run11, run12, run13, run14, run15, run16, run17, run18, run19, run20, run21, run22, reduceCtorEq, Nat.reduceEqDiff, Nat.reduceAdd, Nat.reduceSub, Nat.reduceLeDiff, indexAddrA, indexRefA, appendA, strA, Nat.reduceMul, Nat.zero_mul, Nat.reduceMod, Int.reduceEq, Int.reduceLT, Int.reduceLE, Nat.reduceLT, Nat.lt_irrefl, Nat.reduceBEq, tys0, tys1, tys2, tys3, tys4, tys5, tys6, tys7, tys8, tys9, tys10, tys11, tys12, tys13, tys14, tys15, tys16, tys17, tys18, Try.ntmps53, Try.results53, e2]
      · have e2 : (0 : Int) < (d : Int) := by omega
        have f3 : o.len ≤ 137438953471 := by omega
        have f4 : noOwn (elems o) = true := elems_noOwn o
        have g1 : ((o.len : Nat) : Int) < ((o.len + 1 : Nat) : Int) := by omega
        have hc := ih (ds.length - 1 - k) (by omega) (by omega)
        rw [if_neg hd0]
        simp only [run0, run1, run2, run3, run4, run5, run6, run7, run8, run9, run10, run11, run12, run13, run14, run15, run16, run17, run18, run19, run20, run21, run22, reduceCtorEq, Nat.reduceEqDiff, Nat.reduceAdd, Nat.reduceSub, Nat.reduceLeDiff, indexAddrA, indexRefA, appendA, strA, Nat.reduceMul, Nat.zero_mul, Nat.reduceMod, Int.reduceEq, Int.reduceLT, Int.reduceLE, Nat.reduceLT, Nat.lt_irrefl, Nat.reduceBEq, tys0, tys1, tys2, tys3, tys4, tys5, tys6, tys7, tys8, tys9, tys10, tys11, tys12, tys13, tys14, tys15, tys16, tys17, tys18, Try.ntmps53, Try.results53, e2]
        refine ⟨[0,1,2,3,4,5,6,7,8,9], [10,11,12,13], [10,12,13,11], 11, 13, by kernel_rfl, ?_⟩
        simp only [run0, run1, run2, run3, run4, run5, run6, run7, run8, run9, run10, run11, run12, run13, run14, run15, run16, run17, run18, run19, run20, run21, run22, reduceCtorEq, Nat.reduceEqDiff, Nat.reduceAdd, Nat.reduceSub, Nat.reduceLeDiff, indexAddrA, indexRefA, appendA, strA, Nat.reduceMul, Nat.zero_mul, Nat.reduceMod, Int.reduceEq, Int.reduceLT, Int.reduceLE, Nat.reduceLT, Nat.lt_irrefl, Nat.reduceBEq, tys0, tys1, tys2, tys3, tys4, tys5, tys6, tys7, tys8, tys9, tys10, tys11, tys12, tys13, tys14, tys15, tys16, tys17, tys18, Try.ntmps53, Try.results53]
        refine RunL.loadX (x := .ref 4 [] o.len o.len) rfl rfl ?_ ?_
        · rfl
        simp only [run0, run1, run2, run3, run4, run5, run6, run7, run8, run9, run10, run11, run12, run13, run14, run15, run16, run17, run18, run19, run20, run21, run22, reduceCtorEq, Nat.reduceEqDiff, Nat.reduceAdd, Nat.reduceSub, Nat.reduceLeDiff, indexAddrA, indexRefA, appendA, strA, Nat.reduceMul, Nat.zero_mul, Nat.reduceMod, Int.reduceEq, Int.reduceLT, Int.reduceLE, Nat.reduceLT, Nat.lt_irrefl, Nat.reduceBEq, tys0, tys1, tys2, tys3, tys4, tys5, tys6, tys7, tys8, tys9, tys10, tys11, tys12, tys13, tys14, tys15, tys16, tys17, tys18, Try.ntmps53, Try.results53]
        refine RunL.callp rfl rfl ok_f53 (hc) (by first | rfl | simp only [pureL, pureB, Bool.and_self, Bool.and_true, Bool.true_and, Od.elems_pure, Od.pay_pure, Od.av_pure]) rfl ?_
        simp only [run0, run1, run2, run3, run4, run5, run6, run7, run8, run9, run10, run11, run12, run13, run14, run15, run16, run17, run18, run19, run20, run21, run22, reduceCtorEq, Nat.reduceEqDiff, Nat.reduceAdd, Nat.reduceSub, Nat.reduceLeDiff, indexAddrA, indexRefA, appendA, strA, Nat.reduceMul, Nat.zero_mul, Nat.reduceMod, Int.reduceEq, Int.reduceLT, Int.reduceLE, Nat.reduceLT, Nat.lt_irrefl, Nat.reduceBEq, tys0, tys1, tys2, tys3, tys4, tys5, tys6, tys7, tys8, tys9, tys10, tys11, tys12, tys13, tys14, tys15, tys16, tys17, tys18, Try.ntmps53, Try.results53, av, f3, f4, elems_length, Int.toNat_natCast, Int.natCast_nonneg, len_app, elems_app, elems, pay, len, end_get, end_set, end_noOwn, g1, absG, absA, List.toList_toArray, List.all_cons, List.all_nil, List.map_cons, List.map_nil, Value.oneCell']
  · have e1 : (0 : Int) < (m : Int) := by omega
    have hp := dg_pos hb (n := m) (by omega)
    have hlt := div_lt hb h0
    have e3 : (0 : Int) ≤ (m : Int) := by omega
    have w1 : ((m : Int).tmod (b : Int)) = ((m % b : Nat) : Int) := by rw [Int.tmod_eq_emod_of_nonneg e3]; rfl
    have w2 : ((m : Int).tdiv (b : Int)) = ((m / b : Nat) : Int) := by rw [Int.tdiv_eq_ediv_of_nonneg e3]; rfl
    have w3 : IntKind.i64.wrap (((m / b : Nat) : Int)) = ((m / b : Nat) : Int) := by
      have := Nat.div_le_self m b
      generalize m / b = q at *
      exact w64_id (by omega) (by omega)
    have w4 : IntKind.i64.wrap (((m % b : Nat) : Int)) = ((m % b : Nat) : Int) := by
      have := Nat.mod_lt m (show b > 0 by omega)
      generalize m % b = q at *
      exact w64_id (by omega) (by omega)
    have f3 : ds.length + 1 ≤ 137438953472 := by omega
    have f4 : noOwn (ints (nats ds)) = true := ints_noOwn _
    refine W.sound hmix (E := []) ?_
    simp only [run0, run1, run2, run3, run4, run5, run6, run7, run8, run9, run10, run11, run12, run13, run14, run15, run16, run17, run18, run19, run20, run21, run22, reduceCtorEq, Nat.reduceEqDiff, Nat.reduceAdd, Nat.reduceSub, Nat.reduceLeDiff, indexAddrA, indexRefA, appendA, strA, Nat.reduceMul, Nat.zero_mul, Nat.reduceMod, Int.reduceEq, Int.reduceLT, Int.reduceLE, Nat.reduceLT, Nat.lt_irrefl, Nat.reduceBEq, tys0, tys1, tys2, tys3, tys4, tys5, tys6, tys7, tys8, tys9, tys10, tys11, tys12, tys13, tys14, tys15, tys16, tys17, tys18, Try.ntmps53, Try.results53, e1, hb0, w1, w2, w3, w4, f3, f4, List.length_map]
    exact ⟨(ds ++ [m % b], m / b), ⟨by simp only [List.append_assoc, List.singleton_append]; rw [hd, hp], by simp only; omega⟩, hlt, by simp only [List.length_append, List.length_cons, List.length_nil]; repeat constructor, by simp⟩

end Go.Proofs.Ytphmkhaboghagaa
/-
  Hereditary forms of numbers: spec.deForm.
-/
namespace Go.Proofs.Ytphmkhaboghagaa
open Go K Od
set_option linter.unusedSimpArgs false
set_option linter.unusedVariables false
set_option maxHeartbeats 1600000
set_option maxRecDepth 8000

theorem elemsA (a : Od) : ((elems a).all fun z => z.cells.length == 2) = true := by
  rw [List.all_eq_true]
  intro x hx
  simp [elems_cells a x hx]
structure DfS where
  e : Nat
  m : Nat
  acc : Od
  y : AV
  X : List AObj
/-- Where the terms so far lie. -/
def DfR (acc : Od) (y : AV) (X : List AObj) : Prop := (y = nilV ∧ acc = .nil) ∨ ∃ i g, y = .ref (i + 2) [] g acc.len ∧ X[i]? = some (.vec 88 2 g (elems acc))

theorem deForm_ok (b : Nat) (hb : 2 ≤ b) (hb2 : b ≤ 2000) : ∀ f n : Nat, n ≤ 1000000 → n < f → Ct Try.prog 49 [.int .i64 (n : Int), .int .i64 (b : Int)] [] (av (her b f n)) [] := by
  intro f
  induction f with
  | zero => intro n _ h; omega
  | succ f ih =>
  intro n hn hf
  have hdl := dg_len b n
  have hb0 : ¬ ((b : Int) = 0) := by omega
  refine Ct.by_ hmix [] Try.func49 rfl ?_
  simp only [run0, run1, run2, run3, run4, run5, run6, run7, run8, run9, run10, run11, run12, run13, run14, run15, run16, run17, run18, run19, run20, run21, run22, reduceCtorEq, Nat.reduceEqDiff, Nat.reduceAdd, Nat.reduceSub, Nat.reduceLeDiff, indexAddrA, indexRefA, appendA, strA, Nat.reduceMul, Nat.zero_mul, Nat.reduceMod, Int.reduceEq, Int.reduceLT, Int.reduceLE, Nat.reduceLT, Nat.lt_irrefl, Nat.reduceBEq, tys0, tys1, tys2, tys3, tys4, tys5, tys6, tys7, tys8, tys9, tys10, tys11, tys12, tys13, tys14, tys15, tys16, tys17, tys18, Try.ntmps49, Try.results49]
  refine AWp.loop_inv (ι := DfS) (fun p => ⟨[.int .i64 p.m, .int .i64 b, .junk, .junk, .ptr 0 0, .ptr 1 0, .int .i64 p.e, .junk, .junk, .junk, .junk, .junk, .junk, .junk, .junk, .junk, .junk, .junk, .junk, .junk, .junk, .junk, .junk, .junk, .junk, .junk, .junk, .junk, .junk, .junk, .junk, .junk, .junk, .junk], .box 24 [nilV] :: .box 24 [p.y] :: p.X⟩)
    (fun p => herL (her b f) (dg b p.m) p.e p.acc = her b (f + 1) n ∧ p.m ≤ n ∧ p.e + (dg b p.m).length = (dg b n).length ∧ p.acc.len ≤ p.e ∧ DfR p.acc p.y p.X) (fun p => p.m) ⟨0, n, .nil, nilV, []⟩
    ⟨rfl, Nat.le_refl _, by simp, Nat.le_refl _, .inl ⟨rfl, rfl⟩⟩ ⟨by repeat constructor, rfl⟩ ?_
  rintro ⟨e, m, acc, y, X⟩ ⟨h1, h2, h3, h4, h5⟩
  simp only at h1 h2 h3 h4 h5
  by_cases h0 : m = 0
  · subst h0
    have e1 : ¬ ((0 : Int) < ((0 : Nat) : Int)) := by omega
    rw [dg_zero] at h1
    have h1 : acc = her b (f + 1) n := h1
    refine W.sound hmix (E := []) ?_
    simp only [run0, run1, run2, run3, run4, run5, run6, run7, run8, run9, run10, run11, run12, run13, run14, run15, run16, run17, run18, run19, run20, run21, run22, reduceCtorEq, Nat.reduceEqDiff, Nat.reduceAdd, Nat.reduceSub, Nat.reduceLeDiff, indexAddrA, indexRefA, appendA, strA, Nat.reduceMul, Nat.zero_mul, Nat.reduceMod, Int.reduceEq, Int.reduceLT, Int.reduceLE, Nat.reduceLT, Nat.lt_irrefl, Nat.reduceBEq, tys0, tys1, tys2, tys3, tys4, tys5, tys6, tys7, tys8, tys9, tys10, tys11, tys12, tys13, tys14, tys15, tys16, tys17, tys18, Try.ntmps49, Try.results49, e1]
    rw [← h1]
    rcases h5 with ⟨rfl, rfl⟩ | ⟨i, g, rfl, hX⟩
    · exact Fin.value (Vw.agg (.cons (Vw.nil false) .nil))
    · exact Fin.value (Vw.agg (.cons (Vw_elems (T := 88) (by simpa using hX) rfl rfl) .nil))
  · have e1 : (0 : Int) < (m : Int) := by omega
    have hp := dg_pos hb (n := m) (by omega)
    have hlt := div_lt hb h0
    rw [hp] at h1 h3
    simp only [List.length_cons] at h3
    simp only [herL] at h1
    have e3 : (0 : Int) ≤ (m : Int) := by omega
    have w1 : ((m : Int).tmod (b : Int)) = ((m % b : Nat) : Int) := by rw [Int.tmod_eq_emod_of_nonneg e3]; rfl
    have w2 : ((m : Int).tdiv (b : Int)) = ((m / b : Nat) : Int) := by rw [Int.tdiv_eq_ediv_of_nonneg e3]; rfl
    have w3 : IntKind.i64.wrap (((m / b : Nat) : Int)) = ((m / b : Nat) : Int) := by
      have := Nat.div_le_self m b
      generalize m / b = q at *
      exact w64_id (by omega) (by omega)
    have w4 : IntKind.i64.wrap (((m % b : Nat) : Int)) = ((m % b : Nat) : Int) := by
      have := Nat.mod_lt m (show b > 0 by omega)
      generalize m % b = q at *
      exact w64_id (by omega) (by omega)
    have w5 : IntKind.i64.wrap ((e : Int) + 1) = ((e + 1 : Nat) : Int) := by rw [w64_id (by omega) (by omega)]; omega
    by_cases hd0 : m % b = 0
    · have e2 : ¬ ((0 : Int) < ((m % b : Nat) : Int)) := by omega
      rw [if_pos hd0] at h1
      refine W.sound hmix (E := []) ?_
      simp only [run0, run1, run2, run3, run4, run5, run6, run7, run8, run9, run10, run11, run12, run13, run14, run15, run16, run17, run18, run19, run20, run21, run22, reduceCtorEq, Nat.reduceEqDiff, Nat.reduceAdd, Nat.reduceSub, Nat.reduceLeDiff, indexAddrA, indexRefA, appendA, strA, Nat.reduceMul, Nat.zero_mul, Nat.reduceMod, Int.reduceEq, Int.reduceLT, Int.reduceLE, Nat.reduceLT, Nat.lt_irrefl, Nat.reduceBEq, tys0, tys1, tys2, tys3, tys4, tys5, tys6, tys7, tys8, tys9, tys10, tys11, tys12, tys13, tys14, tys15, tys16, tys17, tys18, Try.ntmps49, Try.results49, e1, e2, hb0, w1, w2, w3, w4, w5]
      exact ⟨⟨e + 1, m / b, acc, y, X⟩, ⟨h1, by simp only; omega, by simp only; omega, by simp only; omega, h5⟩, hlt, by repeat constructor, rfl⟩
    · have e2 : (0 : Int) < ((m % b : Nat) : Int) := by omega
      rw [if_neg hd0] at h1
      have hc := ih e (by omega) (by omega)
      have f3 : 1 + acc.len ≤ 137438953472 := by omega
      refine W.sound hmix (E := [8000000, 1000000 + 25]) ?_
      simp only [run0, run1, run2, run3, run4, run5, run6, run7, run8, run9, run10, run11, run12, run13, run14, run15, run16, run17, run18, run19, run20, run21, run22, reduceCtorEq, Nat.reduceEqDiff, Nat.reduceAdd, Nat.reduceSub, Nat.reduceLeDiff, indexAddrA, indexRefA, appendA, strA, Nat.reduceMul, Nat.zero_mul, Nat.reduceMod, Int.reduceEq, Int.reduceLT, Int.reduceLE, Nat.reduceLT, Nat.lt_irrefl, Nat.reduceBEq, tys0, tys1, tys2, tys3, tys4, tys5, tys6, tys7, tys8, tys9, tys10, tys11, tys12, tys13, tys14, tys15, tys16, tys17, tys18, Try.ntmps49, Try.results49, e1, e2, hb0, w1, w2, w3, w4, w5]
      refine ⟨[0,1,2,3,4,5,6,7,8], by kernel_rfl, ?_⟩
      simp only [run0, run1, run2, run3, run4, run5, run6, run7, run8, run9, run10, run11, run12, run13, run14, run15, run16, run17, run18, run19, run20, run21, run22, reduceCtorEq, Nat.reduceEqDiff, Nat.reduceAdd, Nat.reduceSub, Nat.reduceLeDiff, indexAddrA, indexRefA, appendA, strA, Nat.reduceMul, Nat.zero_mul, Nat.reduceMod, Int.reduceEq, Int.reduceLT, Int.reduceLE, Nat.reduceLT, Nat.lt_irrefl, Nat.reduceBEq, tys0, tys1, tys2, tys3, tys4, tys5, tys6, tys7, tys8, tys9, tys10, tys11, tys12, tys13, tys14, tys15, tys16, tys17, tys18, Try.ntmps49, Try.results49]
      refine RunL.callp rfl rfl ok_f49 (hc) (by first | rfl | simp only [pureL, pureB, Bool.and_self, Bool.and_true, Bool.true_and, Od.elems_pure, Od.pay_pure, Od.av_pure]) rfl ?_
      rcases h5 with ⟨rfl, rfl⟩ | ⟨i, g, rfl, hX⟩
      · simp only [run0, run1, run2, run3, run4, run5, run6, run7, run8, run9, run10, run11, run12, run13, run14, run15, run16, run17, run18, run19, run20, run21, run22, reduceCtorEq, Nat.reduceEqDiff, Nat.reduceAdd, Nat.reduceSub, Nat.reduceLeDiff, indexAddrA, indexRefA, appendA, strA, Nat.reduceMul, Nat.zero_mul, Nat.reduceMod, Int.reduceEq, Int.reduceLT, Int.reduceLE, Nat.reduceLT, Nat.lt_irrefl, Nat.reduceBEq, tys0, tys1, tys2, tys3, tys4, tys5, tys6, tys7, tys8, tys9, tys10, tys11, tys12, tys13, tys14, tys15, tys16, tys17, tys18, Try.ntmps49, Try.results49, av, f3, hb0, w1, w2, w3, w4, w5, nilV]
        refine ⟨⟨e + 1, m / b, .cons (her b f e) (m % b : Nat) .nil, .ref (X.length + 1 + 2) [] 1 1, X ++ [.box 88 [.sl false (elems (her b f e)), .int .i64 (m % b : Nat)], .vec 88 2 1 (elems (.cons (her b f e) (m % b : Nat) .nil))]⟩, ⟨h1, by simp only; omega, by simp only; omega, by simp only [len]; omega, .inr ⟨X.length + 1, 1, rfl, by rw [getX1]; rfl⟩⟩, hlt, by repeat constructor, rfl⟩
      · have hX' : ∀ Y, (X ++ Y)[i]? = some (.vec 88 2 g (elems acc)) := fun Y => by rw [List.getElem?_append_left (List.getElem?_eq_some_iff.1 hX).1]; exact hX
        have f4 : noOwn (elems acc) = true := elems_noOwn acc
        simp only [run0, run1, run2, run3, run4, run5, run6, run7, run8, run9, run10, run11, run12, run13, run14, run15, run16, run17, run18, run19, run20, run21, run22, reduceCtorEq, Nat.reduceEqDiff, Nat.reduceAdd, Nat.reduceSub, Nat.reduceLeDiff, indexAddrA, indexRefA, appendA, strA, Nat.reduceMul, Nat.zero_mul, Nat.reduceMod, Int.reduceEq, Int.reduceLT, Int.reduceLE, Nat.reduceLT, Nat.lt_irrefl, Nat.reduceBEq, tys0, tys1, tys2, tys3, tys4, tys5, tys6, tys7, tys8, tys9, tys10, tys11, tys12, tys13, tys14, tys15, tys16, tys17, tys18, Try.ntmps49, Try.results49, av, f3, f4, hX', hb0, w1, w2, w3, w4, w5, elemsA, elems_length, Nat.le_refl, take_all]
        have hle : (Od.cons (her b f e) (m % b : Nat) acc).len = 1 + acc.len := by simp only [len]; omega
        refine ⟨⟨e + 1, m / b, .cons (her b f e) (m % b : Nat) acc, .ref (X.length + 1 + 2) [] 1 (1 + acc.len), X ++ [.box 88 [.sl false (elems (her b f e)), .int .i64 (m % b : Nat)], .vec 88 2 1 (elems (.cons (her b f e) (m % b : Nat) acc))]⟩, ⟨h1, by simp only; omega, by simp only; omega, by simp only [hle]; omega, .inr ⟨X.length + 1, 1, by rw [hle], by rw [getX1]; rfl⟩⟩, hlt, by repeat constructor, rfl⟩

end Go.Proofs.Ytphmkhaboghagaa
/-
  Hereditary forms of numbers: their sizes, and what the program and the reference answer.
-/
namespace Go.Proofs.Ytphmkhaboghagaa
open Go K Od
set_option linter.unusedSimpArgs false
set_option linter.unusedVariables false
set_option maxHeartbeats 1600000
set_option maxRecDepth 8000

/-- The number of digits. -/
def numD (b : Nat) : List Nat → Nat → Nat
  | [], _ => 0
  | d :: ds, e => d * b ^ e + numD b ds (e + 1)
theorem numD_dg {b : Nat} (hb : 2 ≤ b) : ∀ (k m e : Nat), m ≤ k → numD b (dg b m) e = m * b ^ e
  | 0, m, e, h => by have : m = 0 := by omega
                     subst this; simp [dg_zero, numD]
  | k + 1, m, e, h => by
    by_cases h0 : m = 0
    · subst h0; simp [dg_zero, numD]
    · have := div_lt hb h0
      rw [dg_pos hb (by omega), numD, numD_dg hb k (m / b) (e + 1) (by omega), Nat.pow_succ, Nat.mul_comm (b ^ e) b, ← Nat.mul_assoc, ← Nat.add_mul]
      congr 1
      rw [Nat.mul_comm (m / b) b]
      exact Nat.mod_add_div m b

theorem herL_sz {b : Nat} (hb : 2 ≤ b) (rec : Nat → Od) (hr : ∀ i, (rec i).sz ≤ i) : ∀ (ds : List Nat) (e : Nat) (acc : Od), (herL rec ds e acc).sz ≤ acc.sz + numD b ds e
  | [], e, acc => by simp [herL, numD]
  | d :: ds, e, acc => by
    simp only [herL, numD]
    by_cases hd : d = 0
    · rw [if_pos hd]
      have := herL_sz hb rec hr ds (e + 1) acc
      omega
    · rw [if_neg hd]
      have h1 := herL_sz hb rec hr ds (e + 1) (.cons (rec e) d acc)
      have h2 := hr e
      have h3 : e < b ^ e := Nat.lt_pow_self (by omega)
      have h4 : 1 * b ^ e ≤ d * b ^ e := Nat.mul_le_mul_right _ (by omega)
      simp only [sz] at h1
      omega
theorem her_sz {b : Nat} (hb : 2 ≤ b) : ∀ f n, (her b f n).sz ≤ n
  | 0, n => by simp [her, sz]
  | f + 1, n => by
    have := herL_sz hb (her b f) (her_sz hb f) (dg b n) 0 .nil
    rw [numD_dg hb n n 0 (Nat.le_refl _)] at this
    simp only [sz, Nat.zero_add, Nat.pow_zero, Nat.mul_one] at this
    rw [her_succ]; exact this

/-- The hereditary form of a number. -/
def hoT (n b : Int) : Od := her b.toNat 1000001 n.toNat
def hoIn (n b : Int) : Bool := inB n 0 1000000 && inB b 2 1000
def hoOk (n b : Int) : Bool := hoIn n b && goodT (hoT n b)
def hoR (n b : Int) : Od := if hoOk n b then hoT n b else .nil
theorem hoIn_spec {n b : Int} (h : hoIn n b = true) : ∃ m c : Nat, n = m ∧ b = c ∧ m ≤ 1000000 ∧ 2 ≤ c ∧ c ≤ 1000 := by
  simp only [hoIn, inB, Bool.and_eq_true, decide_eq_true_eq] at h
  exact ⟨n.toNat, b.toNat, by omega, by omega, by omega, by omega, by omega⟩
theorem hoT_sz {m c : Nat} (h1 : m ≤ 1000000) (hc : 2 ≤ c) : (hoT m c).sz ≤ 1000000 := by
  have := her_sz hc 1000001 m
  simp only [hoT, Int.toNat_natCast]; omega
theorem hoR_sz {n b : Int} : (hoR n b).sz ≤ 1000000 := by
  unfold hoR
  split
  · rename_i h
    simp only [hoOk, Bool.and_eq_true] at h
    obtain ⟨m, c, rfl, rfl, h1, h2, _⟩ := hoIn_spec h.1
    exact hoT_sz h1 h2
  · simp [sz]

theorem baseOk_ok (b : Int) : Ct Try.prog 51 [.int .i64 b] [] (.bool (inB b 2 1000)) [] := by
  refine Ct.by_ hmix [] Try.func51 rfl ?_
  simp only [run0, run1, run2, run3, run4, run5, run6, run7, run8, run9, run10, run11, run12, run13, run14, run15, run16, run17, run18, run19, run20, run21, run22, reduceCtorEq, Nat.reduceEqDiff, Nat.reduceAdd, Nat.reduceSub, Nat.reduceLeDiff, indexAddrA, indexRefA, appendA, strA, Nat.reduceMul, Nat.zero_mul, Nat.reduceMod, Int.reduceEq, Int.reduceLT, Int.reduceLE, Nat.reduceLT, Nat.lt_irrefl, Nat.reduceBEq, tys0, tys1, tys2, tys3, tys4, tys5, tys6, tys7, tys8, tys9, tys10, tys11, tys12, tys13, tys14, tys15, tys16, tys17, tys18, Try.ntmps51, Try.results51]
  refine RunL.callp rfl rfl ok_f50 (in_ok b 2 1000) (by first | rfl | simp only [pureL, pureB, Bool.and_self, Bool.and_true, Bool.true_and, Od.elems_pure, Od.pay_pure, Od.av_pure]) rfl ?_
  simp only [run0, run1, run2, run3, run4, run5, run6, run7, run8, run9, run10, run11, run12, run13, run14, run15, run16, run17, run18, run19, run20, run21, run22, reduceCtorEq, Nat.reduceEqDiff, Nat.reduceAdd, Nat.reduceSub, Nat.reduceLeDiff, indexAddrA, indexRefA, appendA, strA, Nat.reduceMul, Nat.zero_mul, Nat.reduceMod, Int.reduceEq, Int.reduceLT, Int.reduceLE, Nat.reduceLT, Nat.lt_irrefl, Nat.reduceBEq, tys0, tys1, tys2, tys3, tys4, tys5, tys6, tys7, tys8, tys9, tys10, tys11, tys12, tys13, tys14, tys15, tys16, tys17, tys18, Try.ntmps51, Try.results51]
  exact Fin.eq rfl rfl
theorem deBase_ok (n b : Int) : Ct Try.prog 47 [.int .i64 n, .int .i64 b] [] (.bool (hoIn n b)) [] := by
  refine Ct.by_ hmix [] Try.func47 rfl ?_
  simp only [run0, run1, run2, run3, run4, run5, run6, run7, run8, run9, run10, run11, run12, run13, run14, run15, run16, run17, run18, run19, run20, run21, run22, reduceCtorEq, Nat.reduceEqDiff, Nat.reduceAdd, Nat.reduceSub, Nat.reduceLeDiff, indexAddrA, indexRefA, appendA, strA, Nat.reduceMul, Nat.zero_mul, Nat.reduceMod, Int.reduceEq, Int.reduceLT, Int.reduceLE, Nat.reduceLT, Nat.lt_irrefl, Nat.reduceBEq, tys0, tys1, tys2, tys3, tys4, tys5, tys6, tys7, tys8, tys9, tys10, tys11, tys12, tys13, tys14, tys15, tys16, tys17, tys18, Try.ntmps47, Try.results47]
  refine RunL.callp rfl rfl ok_f59 (l1In_ok n 0 1000000) (by first | rfl | simp only [pureL, pureB, Bool.and_self, Bool.and_true, Bool.true_and, Od.elems_pure, Od.pay_pure, Od.av_pure]) rfl ?_
  unfold hoIn
  cases h1 : inB n 0 1000000
  · simp only [run0, run1, run2, run3, run4, run5, run6, run7, run8, run9, run10, run11, run12, run13, run14, run15, run16, run17, run18, run19, run20, run21, run22, reduceCtorEq, Nat.reduceEqDiff, Nat.reduceAdd, Nat.reduceSub, Nat.reduceLeDiff, indexAddrA, indexRefA, appendA, strA, Nat.reduceMul, Nat.zero_mul, Nat.reduceMod, Int.reduceEq, Int.reduceLT, Int.reduceLE, Nat.reduceLT, Nat.lt_irrefl, Nat.reduceBEq, tys0, tys1, tys2, tys3, tys4, tys5, tys6, tys7, tys8, tys9, tys10, tys11, tys12, tys13, tys14, tys15, tys16, tys17, tys18, Try.ntmps47, Try.results47, h1]
    exact Fin.eq rfl rfl
  · simp only [run0, run1, run2, run3, run4, run5, run6, run7, run8, run9, run10, run11, run12, run13, run14, run15, run16, run17, run18, run19, run20, run21, run22, reduceCtorEq, Nat.reduceEqDiff, Nat.reduceAdd, Nat.reduceSub, Nat.reduceLeDiff, indexAddrA, indexRefA, appendA, strA, Nat.reduceMul, Nat.zero_mul, Nat.reduceMod, Int.reduceEq, Int.reduceLT, Int.reduceLE, Nat.reduceLT, Nat.lt_irrefl, Nat.reduceBEq, tys0, tys1, tys2, tys3, tys4, tys5, tys6, tys7, tys8, tys9, tys10, tys11, tys12, tys13, tys14, tys15, tys16, tys17, tys18, Try.ntmps47, Try.results47, h1]
    refine RunL.callp rfl rfl ok_f59 (l1In_ok b 2 1000) (by first | rfl | simp only [pureL, pureB, Bool.and_self, Bool.and_true, Bool.true_and, Od.elems_pure, Od.pay_pure, Od.av_pure]) rfl ?_
    simp only [run0, run1, run2, run3, run4, run5, run6, run7, run8, run9, run10, run11, run12, run13, run14, run15, run16, run17, run18, run19, run20, run21, run22, reduceCtorEq, Nat.reduceEqDiff, Nat.reduceAdd, Nat.reduceSub, Nat.reduceLeDiff, indexAddrA, indexRefA, appendA, strA, Nat.reduceMul, Nat.zero_mul, Nat.reduceMod, Int.reduceEq, Int.reduceLT, Int.reduceLE, Nat.reduceLT, Nat.lt_irrefl, Nat.reduceBEq, tys0, tys1, tys2, tys3, tys4, tys5, tys6, tys7, tys8, tys9, tys10, tys11, tys12, tys13, tys14, tys15, tys16, tys17, tys18, Try.ntmps47, Try.results47]
    exact Fin.eq rfl rfl

theorem specHO_ok (n b : Int) : Ct Try.prog 12 [.int .i64 n, .int .i64 b] [] (.tup [av (hoR n b), .bool (hoOk n b)]) [] := by
  refine Ct.by_ hmix [] Try.func12 rfl ?_
  simp only [run0, run1, run2, run3, run4, run5, run6, run7, run8, run9, run10, run11, run12, run13, run14, run15, run16, run17, run18, run19, run20, run21, run22, reduceCtorEq, Nat.reduceEqDiff, Nat.reduceAdd, Nat.reduceSub, Nat.reduceLeDiff, indexAddrA, indexRefA, appendA, strA, Nat.reduceMul, Nat.zero_mul, Nat.reduceMod, Int.reduceEq, Int.reduceLT, Int.reduceLE, Nat.reduceLT, Nat.lt_irrefl, Nat.reduceBEq, tys0, tys1, tys2, tys3, tys4, tys5, tys6, tys7, tys8, tys9, tys10, tys11, tys12, tys13, tys14, tys15, tys16, tys17, tys18, Try.ntmps12, Try.results12]
  refine RunL.callp rfl rfl ok_f47 (deBase_ok n b) (by first | rfl | simp only [pureL, pureB, Bool.and_self, Bool.and_true, Bool.true_and, Od.elems_pure, Od.pay_pure, Od.av_pure]) rfl ?_
  cases h1 : hoIn n b
  · have e2 : hoOk n b = false := by simp [hoOk, h1]
    simp only [run0, run1, run2, run3, run4, run5, run6, run7, run8, run9, run10, run11, run12, run13, run14, run15, run16, run17, run18, run19, run20, run21, run22, reduceCtorEq, Nat.reduceEqDiff, Nat.reduceAdd, Nat.reduceSub, Nat.reduceLeDiff, indexAddrA, indexRefA, appendA, strA, Nat.reduceMul, Nat.zero_mul, Nat.reduceMod, Int.reduceEq, Int.reduceLT, Int.reduceLE, Nat.reduceLT, Nat.lt_irrefl, Nat.reduceBEq, tys0, tys1, tys2, tys3, tys4, tys5, tys6, tys7, tys8, tys9, tys10, tys11, tys12, tys13, tys14, tys15, tys16, tys17, tys18, Try.ntmps12, Try.results12, h1]
    rw [show hoR n b = .nil by simp [hoR, e2], e2]
    exact Fin.value (Vw.tup (.cons (Vw.agg (.cons (Vw.nil false) .nil)) (.cons (Vw.pur (Pur.bool _)) .nil)))
  · obtain ⟨m, c, rfl, rfl, q1, q2, q3⟩ := hoIn_spec h1
    have hz := hoT_sz q1 q2
    have hc := deForm_ok c q2 (by omega) 1000001 m q1 (by omega)
    have hT : her c 1000001 m = hoT m c := rfl
    rw [hT] at hc
    have e2 : hoOk m c = goodT (hoT m c) := by simp [hoOk, h1]
    simp only [run0, run1, run2, run3, run4, run5, run6, run7, run8, run9, run10, run11, run12, run13, run14, run15, run16, run17, run18, run19, run20, run21, run22, reduceCtorEq, Nat.reduceEqDiff, Nat.reduceAdd, Nat.reduceSub, Nat.reduceLeDiff, indexAddrA, indexRefA, appendA, strA, Nat.reduceMul, Nat.zero_mul, Nat.reduceMod, Int.reduceEq, Int.reduceLT, Int.reduceLE, Nat.reduceLT, Nat.lt_irrefl, Nat.reduceBEq, tys0, tys1, tys2, tys3, tys4, tys5, tys6, tys7, tys8, tys9, tys10, tys11, tys12, tys13, tys14, tys15, tys16, tys17, tys18, Try.ntmps12, Try.results12, h1]
    refine RunL.callp rfl rfl ok_f49 (hc) (by first | rfl | simp only [pureL, pureB, Bool.and_self, Bool.and_true, Bool.true_and, Od.elems_pure, Od.pay_pure, Od.av_pure]) rfl ?_
    simp only [run0, run1, run2, run3, run4, run5, run6, run7, run8, run9, run10, run11, run12, run13, run14, run15, run16, run17, run18, run19, run20, run21, run22, reduceCtorEq, Nat.reduceEqDiff, Nat.reduceAdd, Nat.reduceSub, Nat.reduceLeDiff, indexAddrA, indexRefA, appendA, strA, Nat.reduceMul, Nat.zero_mul, Nat.reduceMod, Int.reduceEq, Int.reduceLT, Int.reduceLE, Nat.reduceLT, Nat.lt_irrefl, Nat.reduceBEq, tys0, tys1, tys2, tys3, tys4, tys5, tys6, tys7, tys8, tys9, tys10, tys11, tys12, tys13, tys14, tys15, tys16, tys17, tys18, Try.ntmps12, Try.results12]
    refine RunL.callp rfl rfl ok_f48 (odIf_ok (hoT m c) (by omega)) (by first | rfl | simp only [pureL, pureB, Bool.and_self, Bool.and_true, Bool.true_and, Od.elems_pure, Od.pay_pure, Od.av_pure]) rfl ?_
    simp only [run0, run1, run2, run3, run4, run5, run6, run7, run8, run9, run10, run11, run12, run13, run14, run15, run16, run17, run18, run19, run20, run21, run22, reduceCtorEq, Nat.reduceEqDiff, Nat.reduceAdd, Nat.reduceSub, Nat.reduceLeDiff, indexAddrA, indexRefA, appendA, strA, Nat.reduceMul, Nat.zero_mul, Nat.reduceMod, Int.reduceEq, Int.reduceLT, Int.reduceLE, Nat.reduceLT, Nat.lt_irrefl, Nat.reduceBEq, tys0, tys1, tys2, tys3, tys4, tys5, tys6, tys7, tys8, tys9, tys10, tys11, tys12, tys13, tys14, tys15, tys16, tys17, tys18, Try.ntmps12, Try.results12, av]
    rw [show hoR m c = if goodT (hoT m c) then hoT m c else .nil by simp only [hoR, e2], e2]
    exact Fin.eq rfl (by simp only [pureB, pureL, elems_pure, Bool.and_self])

theorem implHO_ok (n b : Int) : ∃ x M, Ct Try.prog 13 [.int .i64 n, .int .i64 b] [] (.tup [.agg [x], .bool (hoOk n b)]) M ∧ Own M (hoR n b) x := by
  cases h0 : inB n 0 1000000
  · have e2 : hoOk n b = false := by simp [hoOk, hoIn, h0]
    rw [show hoR n b = .nil by simp [hoR, e2], e2]
    refine ⟨nilV, ?_⟩
    apply ex1
    · apply Ct.by_ hmix [] Try.func13 rfl
      simp only [run0, run1, run2, run3, run4, run5, run6, run7, run8, run9, run10, run11, run12, run13, run14, run15, run16, run17, run18, run19, run20, run21, run22, reduceCtorEq, Nat.reduceEqDiff, Nat.reduceAdd, Nat.reduceSub, Nat.reduceLeDiff, indexAddrA, indexRefA, appendA, strA, Nat.reduceMul, Nat.zero_mul, Nat.reduceMod, Int.reduceEq, Int.reduceLT, Int.reduceLE, Nat.reduceLT, Nat.lt_irrefl, Nat.reduceBEq, tys0, tys1, tys2, tys3, tys4, tys5, tys6, tys7, tys8, tys9, tys10, tys11, tys12, tys13, tys14, tys15, tys16, tys17, tys18, Try.ntmps13, Try.results13]
      refine RunL.callp rfl rfl ok_f50 (in_ok n 0 1000000) (by first | rfl | simp only [pureL, pureB, Bool.and_self, Bool.and_true, Bool.true_and, Od.elems_pure, Od.pay_pure, Od.av_pure]) rfl ?_
      simp only [run0, run1, run2, run3, run4, run5, run6, run7, run8, run9, run10, run11, run12, run13, run14, run15, run16, run17, run18, run19, run20, run21, run22, reduceCtorEq, Nat.reduceEqDiff, Nat.reduceAdd, Nat.reduceSub, Nat.reduceLeDiff, indexAddrA, indexRefA, appendA, strA, Nat.reduceMul, Nat.zero_mul, Nat.reduceMod, Int.reduceEq, Int.reduceLT, Int.reduceLE, Nat.reduceLT, Nat.lt_irrefl, Nat.reduceBEq, tys0, tys1, tys2, tys3, tys4, tys5, tys6, tys7, tys8, tys9, tys10, tys11, tys12, tys13, tys14, tys15, tys16, tys17, tys18, Try.ntmps13, Try.results13, h0]
      exact Fin.keep [] rfl rfl
    · exact ⟨[], .inl ⟨rfl, rfl, rfl⟩, List.nodup_nil, keepS_okSO _ _⟩
  cases h1 : inB b 2 1000
  · have e2 : hoOk n b = false := by simp [hoOk, hoIn, h1]
    rw [show hoR n b = .nil by simp [hoR, e2], e2]
    refine ⟨nilV, ?_⟩
    apply ex1
    · apply Ct.by_ hmix [] Try.func13 rfl
      simp only [run0, run1, run2, run3, run4, run5, run6, run7, run8, run9, run10, run11, run12, run13, run14, run15, run16, run17, run18, run19, run20, run21, run22, reduceCtorEq, Nat.reduceEqDiff, Nat.reduceAdd, Nat.reduceSub, Nat.reduceLeDiff, indexAddrA, indexRefA, appendA, strA, Nat.reduceMul, Nat.zero_mul, Nat.reduceMod, Int.reduceEq, Int.reduceLT, Int.reduceLE, Nat.reduceLT, Nat.lt_irrefl, Nat.reduceBEq, tys0, tys1, tys2, tys3, tys4, tys5, tys6, tys7, tys8, tys9, tys10, tys11, tys12, tys13, tys14, tys15, tys16, tys17, tys18, Try.ntmps13, Try.results13]
      refine RunL.callp rfl rfl ok_f50 (in_ok n 0 1000000) (by first | rfl | simp only [pureL, pureB, Bool.and_self, Bool.and_true, Bool.true_and, Od.elems_pure, Od.pay_pure, Od.av_pure]) rfl ?_
      simp only [run0, run1, run2, run3, run4, run5, run6, run7, run8, run9, run10, run11, run12, run13, run14, run15, run16, run17, run18, run19, run20, run21, run22, reduceCtorEq, Nat.reduceEqDiff, Nat.reduceAdd, Nat.reduceSub, Nat.reduceLeDiff, indexAddrA, indexRefA, appendA, strA, Nat.reduceMul, Nat.zero_mul, Nat.reduceMod, Int.reduceEq, Int.reduceLT, Int.reduceLE, Nat.reduceLT, Nat.lt_irrefl, Nat.reduceBEq, tys0, tys1, tys2, tys3, tys4, tys5, tys6, tys7, tys8, tys9, tys10, tys11, tys12, tys13, tys14, tys15, tys16, tys17, tys18, Try.ntmps13, Try.results13, h0]
      refine RunL.callp rfl rfl ok_f51 (baseOk_ok b) (by first | rfl | simp only [pureL, pureB, Bool.and_self, Bool.and_true, Bool.true_and, Od.elems_pure, Od.pay_pure, Od.av_pure]) rfl ?_
      simp only [run0, run1, run2, run3, run4, run5, run6, run7, run8, run9, run10, run11, run12, run13, run14, run15, run16, run17, run18, run19, run20, run21, run22, reduceCtorEq, Nat.reduceEqDiff, Nat.reduceAdd, Nat.reduceSub, Nat.reduceLeDiff, indexAddrA, indexRefA, appendA, strA, Nat.reduceMul, Nat.zero_mul, Nat.reduceMod, Int.reduceEq, Int.reduceLT, Int.reduceLE, Nat.reduceLT, Nat.lt_irrefl, Nat.reduceBEq, tys0, tys1, tys2, tys3, tys4, tys5, tys6, tys7, tys8, tys9, tys10, tys11, tys12, tys13, tys14, tys15, tys16, tys17, tys18, Try.ntmps13, Try.results13, h1]
      exact Fin.keep [] rfl rfl
    · exact ⟨[], .inl ⟨rfl, rfl, rfl⟩, List.nodup_nil, keepS_okSO _ _⟩
  have h2 : hoIn n b = true := by simp [hoIn, h0, h1]
  obtain ⟨m, c, rfl, rfl, q1, q2, q3⟩ := hoIn_spec h2
  have hz := hoT_sz q1 q2
  have hc := hereditary_ok c q2 (by omega) 1000001 m q1 (by omega)
  have hT : her c 1000001 m = hoT m c := rfl
  rw [hT] at hc
  have e2 : hoOk m c = goodT (hoT m c) := by simp [hoOk, h2]
  obtain ⟨x, M, ht, S, ho, hn, hM⟩ := told_ok (hoT m c) (by omega)
  rw [show hoR m c = if goodT (hoT m c) then hoT m c else .nil by simp only [hoR, e2], e2]
  refine ⟨shA 1 x, ?_⟩
  apply ex1
  · apply Ct.by_ hmix [] Try.func13 rfl
    simp only [run0, run1, run2, run3, run4, run5, run6, run7, run8, run9, run10, run11, run12, run13, run14, run15, run16, run17, run18, run19, run20, run21, run22, reduceCtorEq, Nat.reduceEqDiff, Nat.reduceAdd, Nat.reduceSub, Nat.reduceLeDiff, indexAddrA, indexRefA, appendA, strA, Nat.reduceMul, Nat.zero_mul, Nat.reduceMod, Int.reduceEq, Int.reduceLT, Int.reduceLE, Nat.reduceLT, Nat.lt_irrefl, Nat.reduceBEq, tys0, tys1, tys2, tys3, tys4, tys5, tys6, tys7, tys8, tys9, tys10, tys11, tys12, tys13, tys14, tys15, tys16, tys17, tys18, Try.ntmps13, Try.results13]
    refine RunL.callp rfl rfl ok_f50 (in_ok (m : Int) 0 1000000) (by first | rfl | simp only [pureL, pureB, Bool.and_self, Bool.and_true, Bool.true_and, Od.elems_pure, Od.pay_pure, Od.av_pure]) rfl ?_
    simp only [run0, run1, run2, run3, run4, run5, run6, run7, run8, run9, run10, run11, run12, run13, run14, run15, run16, run17, run18, run19, run20, run21, run22, reduceCtorEq, Nat.reduceEqDiff, Nat.reduceAdd, Nat.reduceSub, Nat.reduceLeDiff, indexAddrA, indexRefA, appendA, strA, Nat.reduceMul, Nat.zero_mul, Nat.reduceMod, Int.reduceEq, Int.reduceLT, Int.reduceLE, Nat.reduceLT, Nat.lt_irrefl, Nat.reduceBEq, tys0, tys1, tys2, tys3, tys4, tys5, tys6, tys7, tys8, tys9, tys10, tys11, tys12, tys13, tys14, tys15, tys16, tys17, tys18, Try.ntmps13, Try.results13, h0]
    refine RunL.callp rfl rfl ok_f51 (baseOk_ok c) (by first | rfl | simp only [pureL, pureB, Bool.and_self, Bool.and_true, Bool.true_and, Od.elems_pure, Od.pay_pure, Od.av_pure]) rfl ?_
    simp only [run0, run1, run2, run3, run4, run5, run6, run7, run8, run9, run10, run11, run12, run13, run14, run15, run16, run17, run18, run19, run20, run21, run22, reduceCtorEq, Nat.reduceEqDiff, Nat.reduceAdd, Nat.reduceSub, Nat.reduceLeDiff, indexAddrA, indexRefA, appendA, strA, Nat.reduceMul, Nat.zero_mul, Nat.reduceMod, Int.reduceEq, Int.reduceLT, Int.reduceLE, Nat.reduceLT, Nat.lt_irrefl, Nat.reduceBEq, tys0, tys1, tys2, tys3, tys4, tys5, tys6, tys7, tys8, tys9, tys10, tys11, tys12, tys13, tys14, tys15, tys16, tys17, tys18, Try.ntmps13, Try.results13, h1]
    refine RunL.callp rfl rfl ok_f53 (hc) (by first | rfl | simp only [pureL, pureB, Bool.and_self, Bool.and_true, Bool.true_and, Od.elems_pure, Od.pay_pure, Od.av_pure]) rfl ?_
    simp only [run0, run1, run2, run3, run4, run5, run6, run7, run8, run9, run10, run11, run12, run13, run14, run15, run16, run17, run18, run19, run20, run21, run22, reduceCtorEq, Nat.reduceEqDiff, Nat.reduceAdd, Nat.reduceSub, Nat.reduceLeDiff, indexAddrA, indexRefA, appendA, strA, Nat.reduceMul, Nat.zero_mul, Nat.reduceMod, Int.reduceEq, Int.reduceLT, Int.reduceLE, Nat.reduceLT, Nat.lt_irrefl, Nat.reduceBEq, tys0, tys1, tys2, tys3, tys4, tys5, tys6, tys7, tys8, tys9, tys10, tys11, tys12, tys13, tys14, tys15, tys16, tys17, tys18, Try.ntmps13, Try.results13]
    refine RunL.callgp rfl rfl ok_f52 rfl ht (by simp only [pureL, pureB, av_pure, Bool.and_self]) rfl ?_
    simp only [run0, run1, run2, run3, run4, run5, run6, run7, run8, run9, run10, run11, run12, run13, run14, run15, run16, run17, run18, run19, run20, run21, run22, reduceCtorEq, Nat.reduceEqDiff, Nat.reduceAdd, Nat.reduceSub, Nat.reduceLeDiff, indexAddrA, indexRefA, appendA, strA, Nat.reduceMul, Nat.zero_mul, Nat.reduceMod, Int.reduceEq, Int.reduceLT, Int.reduceLE, Nat.reduceLT, Nat.lt_irrefl, Nat.reduceBEq, tys0, tys1, tys2, tys3, tys4, tys5, tys6, tys7, tys8, tys9, tys10, tys11, tys12, tys13, tys14, tys15, tys16, tys17, tys18, Try.ntmps13, Try.results13, shA, shL]
    exact Fin.keep (S.map (· + 1)) (by simp [okT, okTL, okT_sh ho]) rfl
  · exact Own.end (k := 1) (fun id => by simp) ho hn

end Go.Proofs.Ytphmkhaboghagaa
/-
  Lists of ordinals with rows of their own.
-/
namespace Go.Proofs.Ytphmkhaboghagaa
open Go K Od
set_option linter.unusedSimpArgs false
set_option linter.unusedVariables false
set_option maxHeartbeats 1600000
set_option maxRecDepth 8000

abbrev OR (L : List AObj) (a : Od) (x : AV) (S : List Nat) : Prop := OwnR L 88 2 a x S
/-- Each row among 'S' lies in 'L2' as in 'L'. -/
def Kept (S : List Nat) (L L2 : List AObj) : Prop := ∀ id ∈ S, ∀ T z g es, L[id]? = some (.vec T z g es) → L2[id]? = some (.vec T z g es)
theorem Kept.more (S : List Nat) (L X : List AObj) : Kept S L (L ++ X) := fun id _ T z g es hL => by rw [List.getElem?_append_left (List.getElem?_eq_some_iff.1 hL).1]; exact hL
theorem Kept.app {S1 S2 : List Nat} {L L2 : List AObj} (h : Kept (S1 ++ S2) L L2) : Kept S1 L L2 ∧ Kept S2 L L2 := ⟨fun id hi => h id (by simp [hi]), fun id hi => h id (by simp [hi])⟩
theorem ORmono {L L' : List AObj} {a : Od} {x : AV} {S : List Nat} (h : OR L a x S) (hf : Kept S L L') : OR L' a x S := OwnR.mono h fun id hid g es hL => hf id hid _ _ _ _ hL
theorem ORvec {L : List AObj} {a : Od} {x : AV} {S : List Nat} (h : OR L a x S) : ∀ id ∈ S, ∃ T z g es, L[id]? = some (.vec T z g es) := fun id hid => by
  obtain ⟨g, es, h1, _⟩ := h.objs id hid
  exact ⟨_, _, _, _, h1⟩

def OwnOE (L : List AObj) : List Od → List AV → List Nat → Prop
  | [], es, S => es = [] ∧ S = []
  | p :: ps, es, S => ∃ a es' S1 S', es = .agg [a] :: es' ∧ S = S1 ++ S' ∧ OR L p a S1 ∧ OwnOE L ps es' S'
theorem OwnOE.mono {L L' : List AObj} : ∀ {l : List Od} {es : List AV} {S : List Nat}, OwnOE L l es S → Kept S L L' → OwnOE L' l es S
  | [], _, _, h, _ => h
  | p :: ps, _, _, ⟨a, es', S1, S', he, hS, h1, h3⟩, hf => by
    subst hS
    exact ⟨a, es', S1, S', he, rfl, ORmono h1 hf.app.1, h3.mono hf.app.2⟩
theorem OwnOE.len {L : List AObj} : ∀ {l : List Od} {es : List AV} {S : List Nat}, OwnOE L l es S → es.length = l.length
  | [], _, _, h => by rw [h.1]; rfl
  | p :: ps, _, _, ⟨a, es', S1, S', he, hS, h1, h3⟩ => by rw [he]; simp [h3.len]
theorem OwnOE.vec {L : List AObj} : ∀ {l : List Od} {es : List AV} {S : List Nat}, OwnOE L l es S → ∀ id ∈ S, ∃ T z g es, L[id]? = some (.vec T z g es)
  | [], _, _, h, id, hi => by rw [h.2] at hi; cases hi
  | p :: ps, _, _, ⟨a, es', S1, S', he, hS, h1, h3⟩, id, hi => by
    rw [hS] at hi
    rcases List.mem_append.1 hi with hi | hi
    · exact ORvec h1 id hi
    · exact h3.vec id hi
theorem OwnOE.lt {L : List AObj} {l : List Od} {es : List AV} {S : List Nat} (h : OwnOE L l es S) : ∀ id ∈ S, id < L.length := fun id hi => by
  obtain ⟨_, _, _, _, h⟩ := h.vec id hi; exact (List.getElem?_eq_some_iff.1 h).1
theorem OwnOE.snoc {L : List AObj} : ∀ {l : List Od} {es : List AV} {S : List Nat}, OwnOE L l es S → ∀ {p : Od} {a : AV} {S1 : List Nat}, OR L p a S1 → OwnOE L (l ++ [p]) (es ++ [.agg [a]]) (S ++ S1)
  | [], _, _, h, p, a, S1, h1 => by
    obtain ⟨rfl, rfl⟩ := h
    exact ⟨a, [], S1, [], rfl, by simp, h1, rfl, rfl⟩
  | q :: ps, _, _, ⟨a', es', T1, S', he, hS, k1, k3⟩, p, a, S1, h1 =>
    ⟨a', _, T1, _, by rw [he]; rfl, by rw [hS]; simp, k1, k3.snoc h1⟩
theorem OwnOE.okTL {L : List AObj} : ∀ {l : List Od} {es : List AV} {S : List Nat}, OwnOE L l es S → okTL es = true
  | [], _, _, h => by rw [h.1]; rfl
  | p :: ps, _, _, ⟨a, es', S1, S', he, hS, h1, h3⟩ => by rw [he]; simp [K.okTL, K.okT, h1.form.1, h3.okTL]
theorem OwnOE.noOwn {L : List AObj} : ∀ {l : List Od} {es : List AV} {S : List Nat}, OwnOE L l es S → noOwn es = true
  | [], _, _, h => by rw [h.1]; rfl
  | p :: ps, _, _, ⟨a, es', S1, S', he, hS, h1, h3⟩ => by
    have h4 := h3.noOwn
    rcases h1.shape with rfl | ⟨id, g, n, rfl⟩ <;> (rw [he]; simp only [K.noOwn, List.all_cons] at h4 ⊢; rw [h4]; rfl)
theorem OwnOE.keep {L : List AObj} {S' : List Nat} : ∀ {l : List Od} {es : List AV} {S : List Nat}, OwnOE L l es S → (∀ id ∈ S, id ∈ S') → OwnOE (keepS S' L) l es S
  | [], _, _, h, _ => h
  | p :: ps, _, _, ⟨a, es', S1, T, he, hS, h1, h3⟩, hs => by
    subst hS
    exact ⟨a, es', S1, T, he, rfl, OwnR.keep h1 fun id hi => hs id (by simp [hi]), h3.keep fun id hi => hs id (by simp [hi])⟩
theorem OwnOE.sh {M L' : List AObj} {k : Nat} (hg : ∀ id, L'[id + k]? = (M[id]?).map (shO k)) : ∀ {l : List Od} {es : List AV} {S : List Nat}, OwnOE M l es S → OwnOE L' l (es.map (shA k)) (S.map (· + k))
  | [], _, _, h => by rw [h.1, h.2]; exact ⟨rfl, rfl⟩
  | p :: ps, _, _, ⟨a, es', S1, S', he, hS, h1, h3⟩ =>
    ⟨shA k a, es'.map (shA k), _, _, by rw [he]; simp [shA, shL_eq], by rw [hS]; simp, OwnR.sh hg h1, h3.sh hg⟩
theorem OwnOE.at_ {L : List AObj} : ∀ {l : List Od} {es : List AV} {S : List Nat}, OwnOE L l es S → ∀ (i : Nat) (p : Od), l[i]? = some p → ∃ a S1, es[i]? = some (.agg [a]) ∧ OR L p a S1
  | [], _, _, _, i, p, hi => by simp at hi
  | q :: ps, _, _, ⟨a, es', S1, S', he, hS, h1, h3⟩, i, p, hi => by
    cases i with
    | zero => simp at hi; subst hi; exact ⟨a, S1, by rw [he]; rfl, h1⟩
    | succ i =>
      obtain ⟨a, S1, k1, k2⟩ := h3.at_ i p (by simpa using hi)
      exact ⟨a, S1, by rw [he]; simpa using k1, k2⟩
theorem ORvc {L : List AObj} {a : Od} {x : AV} {S : List Nat} (h : OR L a x S) (id : Nat) (q : Pth) (g : Nat) : K.viewC id q g x = x := by
  rcases h.shape with rfl | ⟨id, g, n, rfl⟩ <;> rfl
theorem OwnOE.split {L : List AObj} : ∀ {d : List Od} {p : Od} {r : List Od} {es : List AV} {S : List Nat}, OwnOE L (d ++ p :: r) es S →
    ∃ ed a er Sd S1 Sr, es = ed ++ .agg [a] :: er ∧ ed.length = d.length ∧ S = Sd ++ (S1 ++ Sr) ∧ OwnOE L d ed Sd ∧ OR L p a S1 ∧ OwnOE L r er Sr
  | [], p, r, es, S, ⟨a, es', S1, S', he, hS, h1, h3⟩ => ⟨[], a, es', [], S1, S', he, rfl, hS, ⟨rfl, rfl⟩, h1, h3⟩
  | q :: d, p, r, es, S, ⟨a, es', S1, S', he, hS, h1, h3⟩ => by
    obtain ⟨ed, a', er, Sd, T1, Sr, k1, k2, k3, k4, k5, k7⟩ := OwnOE.split (d := d) h3
    exact ⟨.agg [a] :: ed, a', er, S1 ++ Sd, T1, Sr, by rw [he, k1]; rfl, by simp [k2], by rw [hS, k3]; simp, ⟨a, ed, S1, Sd, rfl, rfl, h1, k4⟩, k5, k7⟩
theorem OwnOE.join {L : List AObj} : ∀ {d : List Od} {p : Od} {r : List Od} {ed er : List AV} {a : AV} {Sd S1 Sr : List Nat}, OwnOE L d ed Sd → OR L p a S1 → OwnOE L r er Sr →
    OwnOE L (d ++ p :: r) (ed ++ .agg [a] :: er) (Sd ++ (S1 ++ Sr))
  | [], p, r, ed, er, a, Sd, S1, Sr, h, h1, h3 => by
    obtain ⟨rfl, rfl⟩ := h
    exact ⟨a, er, S1, Sr, rfl, rfl, h1, h3⟩
  | q :: d, p, r, ed, er, a, Sd, S1, Sr, ⟨a', es', T1, T', he, hS, k1, k3⟩, h1, h3 => by
    subst he hS
    exact ⟨a', _, T1, _, rfl, by simp, k1, k3.join h1 h3⟩

def OwnO (L : List AObj) (l : List Od) (x : AV) (S : List Nat) : Prop := (l = [] ∧ x = nilV ∧ S = []) ∨ ∃ id g es S', x = .ref id [] g l.length ∧ L[id]? = some (.vec 24 1 g es) ∧ OwnOE L l es S' ∧ S = id :: S'
theorem OwnO.view {L : List AObj} {l : List Od} {x : AV} {S : List Nat} (h : OwnO L l x S) : Vw L x (.sl false (l.map av)) := by
  rcases h with ⟨rfl, rfl, _⟩ | ⟨id, g, es, S', rfl, h2, h3, _⟩
  · exact Vw.nil false
  · refine Vw.ref h2 rfl (by simp) fun i e y he hy => ?_
    rw [List.getElem?_map] at hy
    cases hp : l[i]? with
    | none => rw [hp] at hy; cases hy
    | some p =>
      rw [hp] at hy
      cases hy
      obtain ⟨a, S1, k1, k2⟩ := h3.at_ i p hp
      rw [k1] at he
      cases he
      refine ⟨rfl, fun j c d hc hd => ?_⟩
      rcases j with _ | j
      · simp [av, AV.cells] at hc hd; subst hc hd; rw [ORvc k2]; exact k2.view false
      · simp [AV.cells] at hc
theorem OwnO.okT {L : List AObj} {l : List Od} {x : AV} {S : List Nat} (h : OwnO L l x S) : okT x = true := by
  rcases h with ⟨_, rfl, _⟩ | ⟨id, g, es, S', rfl, h2, h3, _⟩ <;> rfl
theorem OwnO.vec {L : List AObj} {l : List Od} {x : AV} {S : List Nat} (h : OwnO L l x S) : ∀ id ∈ S, ∃ T z g es, L[id]? = some (.vec T z g es) := fun i hi => by
  rcases h with ⟨_, _, rfl⟩ | ⟨id, g, es, S', rfl, h2, h3, rfl⟩
  · cases hi
  · rcases List.mem_cons.1 hi with rfl | hi
    · exact ⟨_, _, _, _, h2⟩
    · exact h3.vec i hi
theorem OwnO.mono {L L' : List AObj} {l : List Od} {x : AV} {S : List Nat} (h : OwnO L l x S) (hf : Kept S L L') : OwnO L' l x S := by
  rcases h with h | ⟨id, g, es, S', rfl, h2, h3, rfl⟩
  · exact .inl h
  · exact .inr ⟨id, g, es, S', rfl, hf id (by simp) _ _ _ _ h2, h3.mono fun i hi => hf i (by simp [hi]), rfl⟩
theorem OwnO.keep {L : List AObj} {l : List Od} {x : AV} {S S' : List Nat} (h : OwnO L l x S) (hS : ∀ id ∈ S, id ∈ S') : OwnO (keepS S' L) l x S := by
  rcases h with h | ⟨id, g, es, T, rfl, h2, h3, rfl⟩
  · exact .inl h
  · refine .inr ⟨id, g, es, T, rfl, keepS_in (hS id (by simp)) ?_ h2, h3.keep fun i hi => hS i (by simp [hi]), rfl⟩
    simp [okTO, h3.okTL, h3.noOwn]
theorem OwnO.sh {M L' : List AObj} {k : Nat} (hg : ∀ id, L'[id + k]? = (M[id]?).map (shO k)) {l : List Od} {x : AV} {S : List Nat} (h : OwnO M l x S) : OwnO L' l (shA k x) (S.map (· + k)) := by
  rcases h with ⟨h5, rfl, rfl⟩ | ⟨id, g, es, T, rfl, h2, h3, rfl⟩
  · exact .inl ⟨h5, rfl, rfl⟩
  · refine .inr ⟨id + k, g, es.map (shA k), T.map (· + k), by simp [shA], ?_, h3.sh hg, by simp⟩
    rw [hg, h2]
    simp [shO, shL_eq]

end Go.Proofs.Ytphmkhaboghagaa
/-
  Lists of ordinals with rows of their own: marked, held.
-/
namespace Go.Proofs.Ytphmkhaboghagaa
open Go K Od
set_option linter.unusedSimpArgs false
set_option linter.unusedVariables false
set_option maxHeartbeats 1600000
set_option maxRecDepth 8000

def mkO : List Od → Int → List Od
  | [], _ => []
  | p :: r, k => mk p k :: mkO r (k + p.sz)
theorem mkO_len : ∀ (l : List Od) (k : Int), (mkO l k).length = l.length
  | [], _ => rfl
  | p :: r, k => by simp [mkO, mkO_len r]
theorem lsz_snoc (d : List Od) (p : Od) : lszO (d ++ [p]) = lszO d + p.sz := by rw [lszO_app]; simp [lszO]
theorem mkO_app : ∀ (d r : List Od) (k : Int), mkO (d ++ r) k = mkO d k ++ mkO r (k + lszO d)
  | [], r, k => by simp [mkO, lszO]
  | q :: d, r, k => by
    simp only [List.cons_append, mkO, mkO_app d r, lszO]
    rw [show k + (q.sz : Int) + (lszO d : Int) = k + ((q.sz + lszO d : Nat) : Int) by omega]
theorem mkO_snoc (d : List Od) (p : Od) (k : Int) : mkO (d ++ [p]) k = mkO d k ++ [mk p (k + lszO d)] := by rw [mkO_app]; rfl
theorem lsz_le : ∀ {l : List Od} {n : Nat}, (∀ p ∈ l, p.sz ≤ n) → lszO l ≤ l.length * n
  | [], n, _ => by simp [lszO]
  | p :: r, n, h => by
    have h1 := h p (by simp)
    have h2 := lsz_le (l := r) fun q hq => h q (by simp [hq])
    simp only [lszO, List.length_cons, Nat.add_mul]
    omega
structure MoS where
  d : List Od
  r : List Od
  L : List AObj
theorem lsz_pre {l d r : List Od} {p : Od} (ha : l = d ++ p :: r) (hs : ∀ p ∈ l, p.sz ≤ 1000) (hl : l.length ≤ 1000) : lszO d + p.sz ≤ 1000000 := by
  have := lsz_le (l := d ++ [p]) (n := 1000) fun q hq => hs q (by rw [ha]; simp at hq ⊢; rcases hq with h | h; exact .inl h; exact .inr (.inl h))
  rw [lsz_snoc] at this
  have : l.length = d.length + (r.length + 1) := by rw [ha]; simp
  simp at *; omega

theorem markOrdinalS_ok (l : List Od) (x : AV) (S : List Nat) (L0 : List AObj) (k : Int) (ho : OwnO L0 l x S) (hn : S.Nodup) (hl : l.length ≤ 1000) (hs : ∀ p ∈ l, p.sz ≤ 1000) (h0 : 0 ≤ k) (hk : k ≤ 1048576) :
    ∃ L', Ct Try.prog 32 [x, .int .i64 k] L0 (.int .i64 (k + lszO l)) L' ∧ OwnO L' (mkO l k) x S ∧ (∀ id, id ∉ S → L'[id]? = L0[id]?) ∧ L'.length = L0.length := by
  rcases ho with ⟨rfl, rfl, rfl⟩ | ⟨id, g, es, S', rfl, hL, hE, rfl⟩
  · refine ⟨L0, ?_, .inl ⟨rfl, rfl, rfl⟩, fun _ _ => rfl, rfl⟩
    refine Ct.by_ hmix [] Try.func32 rfl ?_
    simp only [run0, run1, run2, run3, run4, run5, run6, run7, run8, run9, run10, run11, run12, run13, run14, run15, run16, run17, run18, run19, run20, run21, run22, reduceCtorEq, Nat.reduceEqDiff, Nat.reduceAdd, Nat.reduceSub, Nat.reduceLeDiff, indexAddrA, indexRefA, appendA, strA, Nat.reduceMul, Nat.zero_mul, Nat.reduceMod, Int.reduceEq, Int.reduceLT, Int.reduceLE, Nat.reduceLT, Nat.lt_irrefl, Nat.reduceBEq, tys0, tys1, tys2, tys3, tys4, tys5, tys6, tys7, tys8, tys9, tys10, tys11, tys12, tys13, tys14, tys15, tys16, tys17, tys18, Try.ntmps32, Try.results32, nilV]
    refine AWp.loop_inv (ι := Unit) (fun _ => ⟨[.lit (.slice none 0 0), .int .i64 k, .junk, .junk, .int .i64 0, .int .i64 0, .junk, .junk, .junk, .junk, .junk, .junk, .junk, .junk, .junk, .junk, .junk, .junk, .junk, .junk], L0⟩) (fun _ => True) (fun _ => 0) () trivial ⟨by repeat constructor, rfl⟩ ?_
    rintro _ _
    refine W.sound hmix (E := []) ?_
    simp only [run0, run1, run2, run3, run4, run5, run6, run7, run8, run9, run10, run11, run12, run13, run14, run15, run16, run17, run18, run19, run20, run21, run22, reduceCtorEq, Nat.reduceEqDiff, Nat.reduceAdd, Nat.reduceSub, Nat.reduceLeDiff, indexAddrA, indexRefA, appendA, strA, Nat.reduceMul, Nat.zero_mul, Nat.reduceMod, Int.reduceEq, Int.reduceLT, Int.reduceLE, Nat.reduceLT, Nat.lt_irrefl, Nat.reduceBEq, tys0, tys1, tys2, tys3, tys4, tys5, tys6, tys7, tys8, tys9, tys10, tys11, tys12, tys13, tys14, tys15, tys16, tys17, tys18, Try.ntmps32, Try.results32, Int.lt_irrefl]
    exact Fin.own rfl (by simp [lszO])
  have hel := hE.len
  have hnO := hE.noOwn
  obtain ⟨hid, hnS⟩ := List.nodup_cons.1 hn
  suffices h : ∃ r L', Ct Try.prog 32 [.ref id [] g l.length, .int .i64 k] L0 r L' ∧ (r = .int .i64 (k + lszO l) ∧ L'[id]? = some (.vec 24 1 g es) ∧ OwnOE L' (mkO l k) es S' ∧ (∀ j, j ∉ S' → L'[j]? = L0[j]?) ∧ L'.length = L0.length) by
    obtain ⟨r, L', h1, rfl, h2, h3, h4, h5⟩ := h
    exact ⟨L', h1, .inr ⟨id, g, es, S', by rw [mkO_len], h2, h3, rfl⟩, fun j hj => h4 j (fun q => hj (by simp [q])), h5⟩
  refine Ct.ex hmix [] Try.func32 rfl ?_
  simp only [run0, run1, run2, run3, run4, run5, run6, run7, run8, run9, run10, run11, run12, run13, run14, run15, run16, run17, run18, run19, run20, run21, run22, reduceCtorEq, Nat.reduceEqDiff, Nat.reduceAdd, Nat.reduceSub, Nat.reduceLeDiff, indexAddrA, indexRefA, appendA, strA, Nat.reduceMul, Nat.zero_mul, Nat.reduceMod, Int.reduceEq, Int.reduceLT, Int.reduceLE, Nat.reduceLT, Nat.lt_irrefl, Nat.reduceBEq, tys0, tys1, tys2, tys3, tys4, tys5, tys6, tys7, tys8, tys9, tys10, tys11, tys12, tys13, tys14, tys15, tys16, tys17, tys18, Try.ntmps32, Try.results32]
  refine AWp.loop_exK (ι := MoS) (fun q => ⟨[.ref id [] g l.length, .int .i64 (k + lszO q.d), .junk, .junk, .int .i64 0, .int .i64 q.d.length, .junk, .junk, .junk, .junk, .junk, .junk, .junk, .junk, .junk, .junk, .junk, .junk, .junk, .junk], q.L⟩)
    (fun q => l = q.d ++ q.r ∧ q.L[id]? = some (.vec 24 1 g es) ∧ OwnOE q.L (mkO q.d k ++ q.r) es S' ∧ (∀ j, j ∉ S' → q.L[j]? = L0[j]?) ∧ q.L.length = L0.length) (fun q => q.r.length) ⟨[], l, L0⟩ ⟨rfl, hL, hE, fun _ _ => rfl, rfl⟩
    ⟨by simp only [List.length_nil, lszO, Int.natCast_zero, Int.add_zero]; repeat constructor, rfl⟩ ?_
  rintro ⟨d, r, L⟩ ⟨ha, hLi, hO, hf, hlen⟩
  simp only at ha hLi hO hf hlen
  have hda : l.length = d.length + r.length := by rw [ha]; simp
  cases r with
  | nil =>
    left
    have e1 : ¬ ((d.length : Int) < (l.length : Int)) := by rw [ha]; simp
    rw [List.append_nil] at ha hO
    subst ha
    refine ⟨.int .i64 (k + lszO l), L, ?_, rfl, hLi, hO, hf, hlen⟩
    refine W.sound hmix (E := []) ?_
    simp only [run0, run1, run2, run3, run4, run5, run6, run7, run8, run9, run10, run11, run12, run13, run14, run15, run16, run17, run18, run19, run20, run21, run22, reduceCtorEq, Nat.reduceEqDiff, Nat.reduceAdd, Nat.reduceSub, Nat.reduceLeDiff, indexAddrA, indexRefA, appendA, strA, Nat.reduceMul, Nat.zero_mul, Nat.reduceMod, Int.reduceEq, Int.reduceLT, Int.reduceLE, Nat.reduceLT, Nat.lt_irrefl, Nat.reduceBEq, tys0, tys1, tys2, tys3, tys4, tys5, tys6, tys7, tys8, tys9, tys10, tys11, tys12, tys13, tys14, tys15, tys16, tys17, tys18, Try.ntmps32, Try.results32, e1, hLi]
    exact Fin.own rfl rfl
  | cons p r =>
    right
    simp only [List.length_cons] at hda
    have hp := hs p (by rw [ha]; simp)
    have hgd := lsz_pre ha hs hl
    obtain ⟨ed, a, er, Sd, S1, Sr, k1, k2, k3, k4, k5, k7⟩ := hO.split
    rw [mkO_len] at k2
    subst k3
    have nd := List.nodup_append.1 hnS
    have nd2 := List.nodup_append.1 nd.2.1
    obtain ⟨L1, c1, o1, f1, n1⟩ := mark_ok p a S1 L (k + lszO d) k5 nd2.1 (by omega) (by omega)
    have keep1 : ∀ T : List Nat, (∀ j ∈ T, j ∉ S1) → Kept T L L1 := fun T hT j hj _ _ _ _ hq => by rw [f1 j (hT j hj)]; exact hq
    have oD := k4.mono (keep1 Sd fun j hj hj1 => nd.2.2 j hj j (by simp [hj1]) rfl)
    have oR := k7.mono (keep1 Sr fun j hj hj1 => nd2.2.2 j hj1 j hj rfl)
    have oJ := OwnOE.join (p := mk p (k + lszO d)) oD o1 oR
    have hid1 : id ∉ S1 := fun q => hid (by simp [q])
    have hL1 : L1[id]? = some (.vec 24 1 g es) := by rw [f1 id hid1]; exact hLi
    refine ⟨⟨d ++ [p], r, L1⟩, ⟨by simp [ha], hL1, ?_, fun j hj => ?_, by rw [n1, hlen]⟩, by simp, ?_⟩
    · rw [mkO_snoc, k1]
      simpa using oJ
    · rw [f1 j (fun q => hj (by simp [q])), hf j hj]
    refine W.sound hmix (E := []) ?_
    have e1 : (d.length : Int) < (l.length : Int) := by omega
    have e2 : es[d.length]? = some (.agg [a]) := by rw [k1, ← k2]; simp
    have e5 : IntKind.i64.wrap ((d.length : Int) + 1) = ((d ++ [p]).length : Int) := by rw [w64_id (by omega) (by omega)]; simp
    have va := ORvc k5
    have e8 : l.length ≤ es.length := by omega
    have e9 : k + (lszO d : Int) + (p.sz : Int) = k + (lszO (d ++ [p]) : Int) := by rw [lsz_snoc]; omega
    simp only [run0, run1, run2, run3, run4, run5, run6, run7, run8, run9, run10, run11, run12, run13, run14, run15, run16, run17, run18, run19, run20, run21, run22, reduceCtorEq, Nat.reduceEqDiff, Nat.reduceAdd, Nat.reduceSub, Nat.reduceLeDiff, indexAddrA, indexRefA, appendA, strA, Nat.reduceMul, Nat.zero_mul, Nat.reduceMod, Int.reduceEq, Int.reduceLT, Int.reduceLE, Nat.reduceLT, Nat.lt_irrefl, Nat.reduceBEq, tys0, tys1, tys2, tys3, tys4, tys5, tys6, tys7, tys8, tys9, tys10, tys11, tys12, tys13, tys14, tys15, tys16, tys17, tys18, Try.ntmps32, Try.results32, e1, e2, e8, hLi, hnO, va, List.mapIdx_cons, List.mapIdx_nil, Int.toNat_natCast, Int.natCast_nonneg]
    refine RunL.callM rfl rfl ok_f55 rfl rfl c1 rfl ?_
    simp only [run0, run1, run2, run3, run4, run5, run6, run7, run8, run9, run10, run11, run12, run13, run14, run15, run16, run17, run18, run19, run20, run21, run22, reduceCtorEq, Nat.reduceEqDiff, Nat.reduceAdd, Nat.reduceSub, Nat.reduceLeDiff, indexAddrA, indexRefA, appendA, strA, Nat.reduceMul, Nat.zero_mul, Nat.reduceMod, Int.reduceEq, Int.reduceLT, Int.reduceLE, Nat.reduceLT, Nat.lt_irrefl, Nat.reduceBEq, tys0, tys1, tys2, tys3, tys4, tys5, tys6, tys7, tys8, tys9, tys10, tys11, tys12, tys13, tys14, tys15, tys16, tys17, tys18, Try.ntmps32, Try.results32, e5, e9]
    repeat constructor

theorem heldOrdinalS_ok (l : List Od) (k : Int) (hl : l.length ≤ 1000) (hs : ∀ p ∈ l, p.sz ≤ 1000) (h0 : 0 ≤ k) (hk : k ≤ 1048576) : Ct Try.prog 33 [.sl false ((mkO l k).map av), .int .i64 k] [] (.int .i64 (k + lszO l)) [] := by
  have hml := mkO_len l k
  refine Ct.by_ hmix [] Try.func33 rfl ?_
  simp only [run0, run1, run2, run3, run4, run5, run6, run7, run8, run9, run10, run11, run12, run13, run14, run15, run16, run17, run18, run19, run20, run21, run22, reduceCtorEq, Nat.reduceEqDiff, Nat.reduceAdd, Nat.reduceSub, Nat.reduceLeDiff, indexAddrA, indexRefA, appendA, strA, Nat.reduceMul, Nat.zero_mul, Nat.reduceMod, Int.reduceEq, Int.reduceLT, Int.reduceLE, Nat.reduceLT, Nat.lt_irrefl, Nat.reduceBEq, tys0, tys1, tys2, tys3, tys4, tys5, tys6, tys7, tys8, tys9, tys10, tys11, tys12, tys13, tys14, tys15, tys16, tys17, tys18, Try.ntmps33, Try.results33, hml, List.length_map]
  refine AWp.loop_inv (ι := List Od × List Od) (fun p => ⟨[.sl false ((mkO l k).map av), .int .i64 (k + lszO p.1), .junk, .junk, .int .i64 0, .int .i64 p.1.length, .junk, .junk, .junk, .junk, .junk, .junk, .junk, .junk, .junk, .junk, .junk, .junk, .junk, .junk, .junk, .junk], []⟩)
    (fun p => l = p.1 ++ p.2) (fun p => p.2.length) ([], l) rfl ⟨by simp only [List.length_nil, lszO, Int.natCast_zero, Int.add_zero]; repeat constructor, rfl⟩ ?_
  rintro ⟨d, r⟩ ha
  refine W.sound hmix (E := []) ?_
  simp only at ha
  have hda : l.length = d.length + r.length := by rw [ha, List.length_append]
  cases r with
  | nil =>
    have e1 : ¬ ((d.length : Int) < (l.length : Int)) := by simp at hda; omega
    simp only [run0, run1, run2, run3, run4, run5, run6, run7, run8, run9, run10, run11, run12, run13, run14, run15, run16, run17, run18, run19, run20, run21, run22, reduceCtorEq, Nat.reduceEqDiff, Nat.reduceAdd, Nat.reduceSub, Nat.reduceLeDiff, indexAddrA, indexRefA, appendA, strA, Nat.reduceMul, Nat.zero_mul, Nat.reduceMod, Int.reduceEq, Int.reduceLT, Int.reduceLE, Nat.reduceLT, Nat.lt_irrefl, Nat.reduceBEq, tys0, tys1, tys2, tys3, tys4, tys5, tys6, tys7, tys8, tys9, tys10, tys11, tys12, tys13, tys14, tys15, tys16, tys17, tys18, Try.ntmps33, Try.results33, e1, hml, List.length_map]
    refine Fin.eq ?_ rfl
    rw [ha]; simp
  | cons p r =>
    simp only [List.length_cons] at hda
    have hp := hs p (by rw [ha]; simp)
    have hgd := lsz_pre ha hs hl
    have e1 : (d.length : Int) < (l.length : Int) := by omega
    have e2 : ((mkO l k).map av)[d.length]? = some (.agg [.sl false (elems (mk p (k + lszO d)))]) := by
      rw [ha, mkO_app]
      have hdl := mkO_len d k
      rw [List.map_append, List.getElem?_append_right (by simp [hdl])]
      simp [hdl, mkO, av]
    have h1 := held_ok p (k + lszO d) (by omega) (by omega)
    have n1 : ¬ (k + (lszO d : Int) + (p.sz : Int) < 0) := by omega
    have n3 : ¬ (k + (lszO (d ++ [p]) : Int) < 0) := by omega
    have e5 : IntKind.i64.wrap ((d.length : Int) + 1) = ((d ++ [p]).length : Int) := by rw [w64_id (by omega) (by omega)]; simp
    have e9 : k + (lszO d : Int) + (p.sz : Int) = k + (lszO (d ++ [p]) : Int) := by rw [lsz_snoc]; omega
    simp only [run0, run1, run2, run3, run4, run5, run6, run7, run8, run9, run10, run11, run12, run13, run14, run15, run16, run17, run18, run19, run20, run21, run22, reduceCtorEq, Nat.reduceEqDiff, Nat.reduceAdd, Nat.reduceSub, Nat.reduceLeDiff, indexAddrA, indexRefA, appendA, strA, Nat.reduceMul, Nat.zero_mul, Nat.reduceMod, Int.reduceEq, Int.reduceLT, Int.reduceLE, Nat.reduceLT, Nat.lt_irrefl, Nat.reduceBEq, tys0, tys1, tys2, tys3, tys4, tys5, tys6, tys7, tys8, tys9, tys10, tys11, tys12, tys13, tys14, tys15, tys16, tys17, tys18, Try.ntmps33, Try.results33, e1, e2, hml, List.length_map, Int.toNat_natCast, Int.natCast_nonneg]
    refine RunL.callp rfl rfl ok_f56 h1 (by simp only [pureL, pureB, elems_pure, Bool.and_self]) rfl ?_
    simp only [run0, run1, run2, run3, run4, run5, run6, run7, run8, run9, run10, run11, run12, run13, run14, run15, run16, run17, run18, run19, run20, run21, run22, reduceCtorEq, Nat.reduceEqDiff, Nat.reduceAdd, Nat.reduceSub, Nat.reduceLeDiff, indexAddrA, indexRefA, appendA, strA, Nat.reduceMul, Nat.zero_mul, Nat.reduceMod, Int.reduceEq, Int.reduceLT, Int.reduceLE, Nat.reduceLT, Nat.lt_irrefl, Nat.reduceBEq, tys0, tys1, tys2, tys3, tys4, tys5, tys6, tys7, tys8, tys9, tys10, tys11, tys12, tys13, tys14, tys15, tys16, tys17, tys18, Try.ntmps33, Try.results33, n1, n3, e5, e9]
    exact ⟨(d ++ [p], r), by simp [ha], by simp, by simp only [List.length_append, List.length_cons, List.length_nil]; repeat constructor⟩

end Go.Proofs.Ytphmkhaboghagaa
/-
  Hereditary forms: their values. No program in sight.
-/
namespace Go.Proofs.Ytphmkhaboghagaa
open Go K Od
set_option linter.unusedSimpArgs false
set_option linter.unusedVariables false

/-- A power, cut off above 1000000. -/
def partL (b : Int) : Nat → Int → Int
  | 0, c => c
  | e + 1, c => if c ≤ 1000000 then partL b e (c * b) else c
theorem one_le_pow {b : Int} (hb : 1 ≤ b) : ∀ e : Nat, 1 ≤ b ^ e
  | 0 => by simp
  | e + 1 => by
    have h := one_le_pow hb e
    have h2 : 1 * 1 ≤ b ^ e * b := Int.mul_le_mul h hb (by omega) (by omega)
    rw [Int.pow_succ]; omega
theorem partL_spec {b : Int} (hb : 1 ≤ b) : ∀ (e : Nat) (c : Int), 1 ≤ c → (c * b ^ e ≤ 1000000 → partL b e c = c * b ^ e) ∧ (1000000 < c * b ^ e → 1000000 < partL b e c)
  | 0, c, _ => by simp [partL]
  | e + 1, c, hc => by
    have hp := one_le_pow hb e
    have hcb : 1 * 1 ≤ c * b := Int.mul_le_mul hc hb (by omega) (by omega)
    have ih := partL_spec hb e (c * b) (by omega)
    have e1 : c * b * b ^ e = c * b ^ (e + 1) := by rw [Int.pow_succ, Int.mul_assoc, Int.mul_comm b]
    rw [e1] at ih
    unfold partL
    split
    · exact ih
    · rename_i h
      have h1 : c * 1 ≤ c * b ^ (e + 1) := Int.mul_le_mul_of_nonneg_left (one_le_pow hb (e + 1)) (by omega)
      exact ⟨fun h2 => by omega, fun _ => by omega⟩
theorem partL_bound {b : Int} (hb : 1 ≤ b) (hb2 : b ≤ 2000) : ∀ (e : Nat) (c : Int), 1 ≤ c → c ≤ 2000000000 → 1 ≤ partL b e c ∧ partL b e c ≤ 2000000000
  | 0, c, h1, h2 => ⟨h1, h2⟩
  | e + 1, c, h1, h2 => by
    unfold partL
    split
    · rename_i h
      have l1 : 1 * 1 ≤ c * b := Int.mul_le_mul h1 hb (by omega) (by omega)
      have l2 : c * b ≤ 1000000 * 2000 := Int.mul_le_mul h hb2 (by omega) (by omega)
      exact partL_bound hb hb2 e (c * b) (by omega) (by omega)
    · exact ⟨h1, h2⟩
/-- How many rounds there are does not count where there are enough. -/
theorem partL_le {b : Int} (hb : 1 ≤ b) (e : Nat) (c : Int) (h : ¬ c ≤ 1000000) : partL b e c = c := by
  cases e with
  | zero => rfl
  | succ e => unfold partL; rw [if_neg h]

/-- The value of a form, cut off above 1000000; 's': the sum so far. -/
def valS (b : Int) : Od → Int → Int
  | .nil, s => s
  | .cons e c r, s => if 1000000 < s + c * b ^ (valS b e 0).toNat then 1000001 else valS b r (s + c * b ^ (valS b e 0).toNat)
def valT (b : Int) (a : Od) : Int := valS b a 0
theorem valS_cons (b : Int) (e r : Od) (c s : Int) : valS b (.cons e c r) s = if 1000000 < s + c * b ^ (valT b e).toNat then 1000001 else valS b r (s + c * b ^ (valT b e).toNat) := rfl
theorem valS_range {b : Int} (hb : 2 ≤ b) : ∀ {a : Od} {s : Int}, rng a → 0 ≤ s → s ≤ 1000000 → 0 ≤ valS b a s ∧ valS b a s ≤ 1000001
  | .nil, s, _, h1, h2 => by simp only [valS]; omega
  | .cons e c r, s, h, h1, h2 => by
    rw [valS_cons]
    split
    · omega
    · rename_i hn
      have hp := one_le_pow (b := b) (by omega) (valT b e).toNat
      have := Int.mul_le_mul h.1 hp (by omega) (by have := h.1; omega)
      exact valS_range hb h.2.2.2 (by omega) (by omega)
theorem lt_pow {b : Int} (hb : 2 ≤ b) : ∀ e : Nat, (e : Int) < b ^ e
  | 0 => by simp
  | e + 1 => by
    have h := lt_pow hb e
    have h2 := one_le_pow (b := b) (by omega) e
    have h3 : b ^ e * 2 ≤ b ^ e * b := Int.mul_le_mul_of_nonneg_left hb (by omega)
    rw [Int.pow_succ]; omega
/-- The reference's part of a sum. -/
theorem part_ref {b : Int} (hb : 2 ≤ b) {c : Int} (hc : 1 ≤ c) (e : Nat) : (c * b ^ e ≤ 1000000 → c * partL b e 1 = c * b ^ e) ∧ (1000000 < c * b ^ e → 1000000 < c * partL b e 1) := by
  have h := partL_spec (b := b) (by omega) e 1 (by omega)
  rw [Int.one_mul] at h
  have hp := one_le_pow (b := b) (by omega) e
  by_cases hl : b ^ e ≤ 1000000
  · rw [h.1 hl]; exact ⟨fun _ => rfl, fun h => h⟩
  · have h1 := h.2 (by omega)
    have h2 : c * 1 ≤ c * b ^ e := Int.mul_le_mul_of_nonneg_left hp (by omega)
    have h3 : 1 * b ^ e ≤ c * b ^ e := Int.mul_le_mul_of_nonneg_right hc (by omega)
    have h4 : 1 * partL b e 1 ≤ c * partL b e 1 := Int.mul_le_mul_of_nonneg_right hc (by omega)
    exact ⟨fun h5 => by omega, fun _ => by omega⟩

/-- All coefficients are less than the base. -/
def digT (b : Int) : Od → Bool
  | .nil => true
  | .cons e c r => !decide (b ≤ c) && digT b e && digT b r
theorem digT_app (b : Int) : ∀ d r : Od, digT b (d.app r) = (digT b d && digT b r)
  | .nil, r => rfl
  | .cons e c d, r => by simp only [app, digT, digT_app b d r, Bool.and_assoc]

end Go.Proofs.Ytphmkhaboghagaa
