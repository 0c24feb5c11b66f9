/-
  Texts joined in one: PO5, PO6, NW3, NW4, NW5, K25, NW6, NW7.
-/
import Derived.Test.YtllcljajlemmaaaMNumberD
/-
  Games: the reference's table of the order of positions.
-/
namespace Go.Proofs.Ytllcljajlemmaaa
open Go K
set_option linter.unusedSimpArgs false
set_option linter.unusedVariables false
set_option maxHeartbeats 3200000
set_option maxRecDepth 8000

def setT (t : List (List Bool)) (i k : Nat) (v : Bool) : List (List Bool) := t.set i ((t.getD i []).set k v)
theorem setT_sqr {n : Nat} {t : List (List Bool)} (h : sqr n t) (i k : Nat) (v : Bool) (hi : i < n) : sqr n (setT t i k v) := by
  obtain ⟨r, h1, h2, _⟩ := tbl_row h hi
  refine ⟨by simp [setT, h.1], fun q hq => ?_⟩
  unfold setT at hq
  rcases List.mem_or_eq_of_mem_set hq with hq | rfl
  · exact h.2 q hq
  · rw [List.length_set, List.getD_eq_getElem?_getD, h1]; exact h2
theorem tbl_setT {n : Nat} {t : List (List Bool)} (h : sqr n t) {i k : Nat} (v : Bool) (hi : i < n) (hk : k < n) (a b : Nat) : tbl (setT t i k v) a b = if a = i ∧ b = k then v else tbl t a b := by
  obtain ⟨r, h1, h2, _⟩ := tbl_row h hi
  have hl : i < t.length := by rw [h.1]; exact hi
  unfold tbl setT
  by_cases ha : a = i
  · subst ha
    rw [List.getD_eq_getElem?_getD (l := t.set a _), List.getElem?_set_self hl, Option.getD_some, List.getD_eq_getElem?_getD (l := t), h1, Option.getD_some]
    by_cases hb : b = k
    · subst hb
      rw [if_pos ⟨rfl, rfl⟩, List.getD_eq_getElem?_getD, List.getElem?_set_self (by omega)]; rfl
    · rw [if_neg (fun e => hb e.2), List.getD_eq_getElem?_getD, List.getElem?_set_ne (fun e => hb e.symm), List.getD_eq_getElem?_getD]
  · rw [if_neg (fun e => ha e.1), List.getD_eq_getElem?_getD (l := t.set i _), List.getElem?_set_ne (fun e => ha e.symm), List.getD_eq_getElem?_getD (l := t)]
/-- What is right of a table so far. -/
def Kn (g : List GP) (t : List (List Bool)) (i k : Nat) : Prop := ∀ a b, a ≤ i → b ≤ i → (a < i ∧ b < i) ∨ (a < k ∧ b = i) ∨ (b < k ∧ a = i) → tbl t a b = leG g a b
theorem shown_le {g : List GP} (hg : GameOk g) {t : List (List Bool)} {a b : Nat} (h1 : ∀ x : Nat, x < a → tbl t b x = leG g b x) (h2 : ∀ y : Nat, y < b → tbl t y a = leG g y a) : shownB g t a b = leG g a b := by
  rw [leG_eq hg]
  unfold shownB
  congr 1
  · refine all_congr_mem fun x hx => ?_
    have := lefts_lt hg hx
    rw [h1 x.toNat (by omega)]
  · refine all_congr_mem fun y hy => ?_
    have := rights_lt hg hy
    rw [h2 y.toNat (by omega)]
theorem Kn.step {g : List GP} (hg : GameOk g) {n : Nat} {t : List (List Bool)} (ht : sqr n t) {i k : Nat} (hi : i < n) (hk : k ≤ i) (h : Kn g t i k) :
    Kn g (setT (setT t i k (shownB g t i k)) k i (shownB g (setT t i k (shownB g t i k)) k i)) i (k + 1) := by
  have v1 : shownB g t i k = leG g i k := shown_le hg (fun x hx => by
    by_cases hki : k = i
    · exact h k x hk (by omega) (.inr (.inr ⟨by omega, hki⟩))
    · exact h k x hk (by omega) (.inl ⟨by omega, hx⟩)) (fun y hy => h y i (by omega) (Nat.le_refl _) (.inr (.inl ⟨hy, rfl⟩)))
  rw [v1]
  have hs := setT_sqr ht i k (leG g i k) hi
  have v2 : shownB g (setT t i k (leG g i k)) k i = leG g k i := shown_le hg (fun x hx => by
    rw [tbl_setT ht _ hi (by omega)]
    split
    · rename_i e; rw [e.2]
    · exact h i x (Nat.le_refl _) (by omega) (.inr (.inr ⟨hx, rfl⟩))) (fun y hy => by
    rw [tbl_setT ht _ hi (by omega)]
    split
    · rename_i e; omega
    · by_cases hki : k = i
      · exact h y k (by omega) hk (.inr (.inl ⟨by omega, hki⟩))
      · exact h y k (by omega) hk (.inl ⟨hy, by omega⟩))
  rw [v2]
  intro a b ha hb hc
  rw [tbl_setT hs _ (by omega) hi, tbl_setT ht _ hi (by omega)]
  split
  · rename_i e; rw [e.1, e.2]
  · split
    · rename_i e; rw [e.1, e.2]
    · rename_i e1 e2
      refine h a b ha hb ?_
      rcases hc with hc | hc | hc
      · exact .inl hc
      · exact .inr (.inl ⟨by have := hc.1; have : a ≠ k := fun q => e1 ⟨q, hc.2⟩; omega, hc.2⟩)
      · exact .inr (.inr ⟨by have := hc.1; have : b ≠ k := fun q => e2 ⟨hc.2, q⟩; omega, hc.2⟩)

/-! ### the walk -/
def refT (n k : Nat) : List AV := (List.range k).map (fun i => .ref (i + 1) [] 0 n) ++ List.replicate (n - k) nilV
def rowO (r : List Bool) : AObj := .vec 4 1 0 (bools r)
def tabL (n k : Nat) (t : List (List Bool)) : List AObj := .vec 118 1 0 (refT n k) :: t.map rowO
theorem refT_noOwn (n k : Nat) : noOwn (refT n k) = true := by
  refine List.all_eq_true.2 fun e he => ?_
  rcases List.mem_append.1 he with he | he
  · obtain ⟨i, _, rfl⟩ := List.mem_map.1 he; rfl
  · rw [(List.mem_replicate.1 he).2]; rfl
theorem bools_noOwn (l : List Bool) : noOwn (bools l) = true := by
  refine List.all_eq_true.2 fun e he => ?_
  obtain ⟨i, _, rfl⟩ := List.mem_map.1 he; rfl
theorem refT_get {n i : Nat} (h : i < n) : (refT n n)[i]? = some (.ref (i + 1) [] 0 n) := by
  unfold refT
  rw [List.getElem?_append_left (by simpa using h), List.getElem?_map, List.getElem?_range h]; rfl
theorem refT_next {n k : Nat} (h : k < n) : (refT n k)[k]? = some nilV ∧ (refT n k).set k (.ref (k + 1) [] 0 n) = refT n (k + 1) := by
  have hr : List.replicate (n - k) nilV = nilV :: List.replicate (n - (k + 1)) nilV := by rw [show n - k = n - (k + 1) + 1 by omega, List.replicate_succ]
  unfold refT
  rw [hr]
  constructor
  · rw [List.getElem?_append_right (by simp)]; simp
  · rw [List.set_append_right _ _ (by simp)]
    simp [List.range_succ]
theorem Vw_row {L : List AObj} {id n : Nat} {r : List Bool} (h : L[id]? = some (rowO r)) (hn : n = r.length) : Vw L (.ref id [] 0 n) (rowV r) := by
  subst hn
  have := Vw.refPur (o := false) h (n := r.length) (by simp) (fun e he c hc => by
    obtain ⟨y, _, rfl⟩ := List.mem_map.1 he
    simp only [AV.cells, List.mem_cons, List.not_mem_nil, or_false] at hc
    subst hc
    exact ⟨.bool _, fun xs h => by cases h⟩)
  rwa [List.take_of_length_le (by simp)] at this
theorem Vw_tab {n : Nat} {t : List (List Bool)} (ht : sqr n t) (X : List AObj) : Vw (tabL n n t ++ X) (.ref 0 [] 0 n) (.sl false (t.map rowV)) := by
  refine Vw.ref (es := refT n n) (es' := refT n n) (T := 118) (sz := 1) rfl rfl (by simp [ht.1]) fun i e y he hy => ?_
  have hi : i < n := by
    have := (List.getElem?_eq_some_iff.1 hy).1
    simp [ht.1] at this; exact this
  rw [refT_get hi] at he
  cases he
  rw [List.getElem?_map] at hy
  obtain ⟨r, h1, h2, _⟩ := tbl_row ht hi
  rw [h1] at hy
  cases hy
  refine ⟨rfl, fun j c d hc hd => ?_⟩
  cases j with
  | succ j => simp [AV.cells] at hc
  | zero =>
    simp [AV.cells, rowV] at hc hd
    subst hc hd
    have : (tabL n n t ++ X)[i + 1]? = some (rowO r) := by
      unfold tabL
      rw [List.cons_append, List.getElem?_cons_succ, List.getElem?_append_left (by rw [List.length_map, ht.1]; exact hi), List.getElem?_map, h1]; rfl
    exact Vw_row this h2.symm
structure TbS where
  i : Nat
  k : Nat
  t : List (List Bool)
theorem setT_tab {n : Nat} {t : List (List Bool)} {r : List Bool} {i k : Nat} {v : Bool} (h1 : t[i]? = some r) : (tabL n n t).set (i + 1) (.vec 4 1 0 ((bools r).set k (.bool v))) = tabL n n (setT t i k v) := by
  unfold tabL setT
  rw [List.set_cons_succ, List.map_set, List.getD_eq_getElem?_getD, h1, Option.getD_some]
  have e : (bools r).set k (.bool v) = bools (r.set k v) := by simp [bools, List.map_set]
  rw [e]
  rfl

/-- The whole table. -/
def tabG (g : List GP) : List (List Bool) := (List.range g.length).map fun a => (List.range g.length).map fun b => leG g a b
theorem tabG_sqr (g : List GP) : sqr g.length (tabG g) := by
  refine ⟨by simp [tabG], fun r hr => ?_⟩
  obtain ⟨a, _, rfl⟩ := List.mem_map.1 hr
  simp
theorem tbl_tabG (g : List GP) {a b : Nat} (ha : a < g.length) (hb : b < g.length) : tbl (tabG g) a b = leG g a b := by
  unfold tbl tabG
  have e : ((List.range g.length).map fun a => (List.range g.length).map fun b => leG g a b).getD a [] = (List.range g.length).map fun b => leG g a b := by
    rw [List.getD_eq_getElem?_getD, List.getElem?_map, List.getElem?_range ha]; rfl
  rw [e, List.getD_eq_getElem?_getD, List.getElem?_map, List.getElem?_range hb]; rfl
theorem tab_eq {g : List GP} {t : List (List Bool)} (ht : sqr g.length t) (h : ∀ a b, a < g.length → b < g.length → tbl t a b = leG g a b) : t = tabG g := by
  have hs := tabG_sqr g
  apply List.ext_getElem?
  intro a
  by_cases ha : a < g.length
  · obtain ⟨r, r1, r2, r3⟩ := tbl_row ht ha
    obtain ⟨q, q1, q2, q3⟩ := tbl_row hs ha
    rw [r1, q1]
    congr 1
    apply List.ext_getElem?
    intro b
    by_cases hb : b < g.length
    · have k1 := r3 b hb
      have k2 := q3 b hb
      rw [h a b ha hb] at k1
      rw [tbl_tabG g ha hb] at k2
      rw [List.getElem?_map] at k1 k2
      cases hr : r[b]? with
      | none => rw [hr] at k1; cases k1
      | some x =>
        cases hq : q[b]? with
        | none => rw [hq] at k2; cases k2
        | some y =>
          rw [hr] at k1
          rw [hq] at k2
          simp at k1 k2
          rw [k1, k2]
    · rw [List.getElem?_eq_none (by omega), List.getElem?_eq_none (by omega)]
  · rw [List.getElem?_eq_none (by have := ht.1; omega), List.getElem?_eq_none (by have := hs.1; omega)]

theorem le_big {n : Nat} (h : n ≤ 1048576) (c : Int) (hc : 1048576 ≤ c) : (n : Int) ≤ c := by omega
theorem gaAtMost_ok (g : List GP) (hg : GameOk g) (hl : g.length ≤ 1048576) : Ct Try.prog 55 [.sl false (g.map posE)] [] (.sl false ((tabG g).map rowV)) [] := by
  have hbig := le_big hl
  have hW : ∀ i, isW (kindE [3000000 + 98]) i = false ∧ rowsAt (kindE [3000000 + 98]) i = false := fun i => ⟨by rw [isW_none i rfl]; rfl, by rw [rowsAt_E]; rfl⟩
  have pg := posL_pure g
  generalize hn : g.length = n at *
  refine Ct.by_ hmix [ 3000000 + 98] Try.func55 rfl ?_
  simp only [run0, run1, run2, run3, run4, run5, run6, run7, run8, run9, run10, run11, run12, run13, run14, run15, run16, run17, run18, run19, run20, run21, run22, reduceCtorEq, Nat.reduceEqDiff, Nat.reduceAdd, Nat.reduceSub, Nat.reduceLeDiff, indexAddrA, indexRefA, appendA, strA, Nat.reduceMul, Nat.zero_mul, Nat.reduceMod, Int.reduceEq, Int.reduceLT, Int.reduceLE, Nat.reduceLT, Nat.lt_irrefl, Nat.reduceBEq, tys0, tys1, tys2, tys3, tys4, tys5, tys6, tys7, tys8, tys9, tys10, tys11, tys12, tys13, tys14, tys15, tys16, tys17, tys18, tys19, tys20, tys21, tys22, tys23, Try.ntmps55, Try.results55, hbig, hn, List.length_map, Int.natCast_nonneg, Int.le_refl, Int.toNat_natCast]
  refine AWp.loop_inv (ι := Nat) (fun k => ⟨[.sl false (g.map posE), .junk, nilV, .ref 0 [] 0 n, .junk, .junk, .junk, .junk, .junk, .junk, .sl false (g.map posE), .int .i64 n, .int .i64 k, .junk, .junk, .junk, .junk, .junk, .junk, .junk, .junk, .junk, .junk, .junk, .junk, .junk, .junk, .junk, .junk, .junk, .junk, .junk, .junk, .junk, .junk, .junk, .junk, .junk, .junk, .junk, .junk, .junk, .junk, .junk, .junk, .junk, .junk, .junk, .junk, .junk, .junk, .junk, .junk, .junk, .junk, .junk], tabL n k (List.replicate k (List.replicate n false))⟩)
    (fun k => k ≤ n) (fun k => n - k) 0 (Nat.zero_le _) ⟨by simp only [Int.natCast_zero]; repeat constructor, by simp [tabL, refT, nilV]⟩ ?_
  intro k hk
  refine W.sound hmix (E := [3000000 + 98]) ?_
  by_cases hkn : k < n
  · have e1 : (k : Int) < (n : Int) := by omega
    have e5 : IntKind.i64.wrap ((k : Int) + 1) = ((k + 1 : Nat) : Int) := by rw [i64_id (by omega) (by omega)]; simp
    obtain ⟨r1, r2⟩ := refT_next hkn
    have r3 := refT_noOwn n k
    have r4 : (refT n k).length = n := by simp [refT]; omega
    unfold tabL
    simp only [run0, run1, run2, run3, run4, run5, run6, run7, run8, run9, run10, run11, run12, run13, run14, run15, run16, run17, run18, run19, run20, run21, run22, reduceCtorEq, Nat.reduceEqDiff, Nat.reduceAdd, Nat.reduceSub, Nat.reduceLeDiff, indexAddrA, indexRefA, appendA, strA, Nat.reduceMul, Nat.zero_mul, Nat.reduceMod, Int.reduceEq, Int.reduceLT, Int.reduceLE, Nat.reduceLT, Nat.lt_irrefl, Nat.reduceBEq, tys0, tys1, tys2, tys3, tys4, tys5, tys6, tys7, tys8, tys9, tys10, tys11, tys12, tys13, tys14, tys15, tys16, tys17, tys18, tys19, tys20, tys21, tys22, tys23, Try.ntmps55, Try.results55, hbig, hn, e1, e5, r1, r2, r3, r4, nilV, List.length_map, Int.natCast_nonneg, Int.le_refl, Int.toNat_natCast]
    refine ⟨k + 1, by omega, by omega, by repeat constructor, ?_⟩
    simp [tabL, rowO, List.replicate_succ']
  · have e1 : ¬ (k : Int) < (n : Int) := by omega
    obtain rfl : k = n := by omega
    have hs0 : sqr k (List.replicate k (List.replicate k false)) := ⟨by simp, fun r hr => by rw [(List.mem_replicate.1 hr).2]; simp⟩
    simp only [run0, run1, run2, run3, run4, run5, run6, run7, run8, run9, run10, run11, run12, run13, run14, run15, run16, run17, run18, run19, run20, run21, run22, reduceCtorEq, Nat.reduceEqDiff, Nat.reduceAdd, Nat.reduceSub, Nat.reduceLeDiff, indexAddrA, indexRefA, appendA, strA, Nat.reduceMul, Nat.zero_mul, Nat.reduceMod, Int.reduceEq, Int.reduceLT, Int.reduceLE, Nat.reduceLT, Nat.lt_irrefl, Nat.reduceBEq, tys0, tys1, tys2, tys3, tys4, tys5, tys6, tys7, tys8, tys9, tys10, tys11, tys12, tys13, tys14, tys15, tys16, tys17, tys18, tys19, tys20, tys21, tys22, tys23, Try.ntmps55, Try.results55, hn, e1, List.length_map]
    refine AWp.loop_inv (ι := Nat × List (List Bool)) (fun p => ⟨[.sl false (g.map posE), .junk, nilV, .ref 0 [] 0 k, .junk, .junk, .junk, .junk, .junk, .junk, .junk, .junk, .junk, .junk, .junk, .junk, .junk, .junk, .junk, .junk, .junk, .junk, .sl false (g.map posE), .int .i64 k, .int .i64 p.1, .junk, .junk, .junk, .junk, .junk, .junk, .junk, .junk, .junk, .junk, .junk, .junk, .junk, .junk, .junk, .junk, .junk, .junk, .junk, .junk, .junk, .junk, .junk, .junk, .junk, .junk, .junk, .junk, .junk, .junk, .junk], tabL k k p.2⟩)
      (fun p => p.1 ≤ k ∧ sqr k p.2 ∧ Kn g p.2 p.1 0) (fun p => k - p.1) (0, List.replicate k (List.replicate k false)) ⟨Nat.zero_le _, hs0, fun a b ha hb hc => by omega⟩ ⟨by simp only [Int.natCast_zero]; repeat constructor, rfl⟩ ?_
    rintro ⟨i, t⟩ ⟨hi, ht, hK⟩
    refine W.sound hmix (E := [3000000 + 98]) ?_
    simp only at hi ht hK
    by_cases hik : i < k
    · have f1 : (i : Int) < (k : Int) := by omega
      have f5 : IntKind.i64.wrap ((i : Int) + 1) = ((i + 1 : Nat) : Int) := by rw [i64_id (by omega) (by omega)]; simp
      simp only [run0, run1, run2, run3, run4, run5, run6, run7, run8, run9, run10, run11, run12, run13, run14, run15, run16, run17, run18, run19, run20, run21, run22, reduceCtorEq, Nat.reduceEqDiff, Nat.reduceAdd, Nat.reduceSub, Nat.reduceLeDiff, indexAddrA, indexRefA, appendA, strA, Nat.reduceMul, Nat.zero_mul, Nat.reduceMod, Int.reduceEq, Int.reduceLT, Int.reduceLE, Nat.reduceLT, Nat.lt_irrefl, Nat.reduceBEq, tys0, tys1, tys2, tys3, tys4, tys5, tys6, tys7, tys8, tys9, tys10, tys11, tys12, tys13, tys14, tys15, tys16, tys17, tys18, tys19, tys20, tys21, tys22, tys23, Try.ntmps55, Try.results55, f1]
      refine AWp.loop_inv (ι := Nat × List (List Bool)) (fun p => ⟨[.sl false (g.map posE), .junk, nilV, .ref 0 [] 0 k, .junk, .int .i64 i, .int .i64 p.1, .junk, .junk, .junk, .junk, .junk, .junk, .junk, .junk, .junk, .junk, .junk, .junk, .junk, .junk, .junk, .sl false (g.map posE), .int .i64 k, .int .i64 i, .junk, .junk, .junk, .junk, .junk, .junk, .junk, .junk, .junk, .junk, .junk, .junk, .junk, .junk, .junk, .junk, .junk, .junk, .junk, .junk, .junk, .junk, .junk, .junk, .junk, .junk, .junk, .junk, .junk, .junk, .junk], tabL k k p.2⟩)
        (fun p => p.1 ≤ i + 1 ∧ sqr k p.2 ∧ Kn g p.2 i p.1) (fun p => i + 1 - p.1) (0, t) ⟨Nat.zero_le _, ht, hK⟩ ⟨by simp only [Int.natCast_zero]; repeat constructor, rfl⟩ ?_
      rintro ⟨m, t⟩ ⟨hm, ht, hK⟩
      refine W.sound hmix (E := [3000000 + 98]) ?_
      simp only at hm ht hK
      by_cases hmi : m ≤ i
      · have k1 : (m : Int) ≤ (i : Int) := by omega
        have k5 : IntKind.i64.wrap ((m : Int) + 1) = ((m + 1 : Nat) : Int) := by rw [i64_id (by omega) (by omega)]; simp
        have hmk : m < k := by omega
        have hmk1 : (m : Int) < (k : Int) := by omega
        have hst := hK.step hg ht hik hmi
        have ht1 := setT_sqr ht i m (shownB g t i m) hik
        have ht2 := setT_sqr ht1 m i (shownB g (setT t i m (shownB g t i m)) m i) hmk
        obtain ⟨ra, ra1, ra2, ra3⟩ := tbl_row ht hik
        obtain ⟨rb, rb1, rb2, rb3⟩ := tbl_row ht1 hmk
        have sa := setT_tab (k := m) (v := shownB g t i m) (n := k) ra1
        have sb := setT_tab (k := i) (v := shownB g (setT t i m (shownB g t i m)) m i) (n := k) rb1
        have g0 : ∀ t, (tabL k k t)[0]? = some (.vec 118 1 0 (refT k k)) := fun t => rfl
        have ga : (tabL k k t)[i + 1]? = some (.vec 4 1 0 (bools ra)) := by
          unfold tabL; rw [List.getElem?_cons_succ, List.getElem?_map, ra1]; rfl
        have gb : (tabL k k (setT t i m (shownB g t i m)))[m + 1]? = some (.vec 4 1 0 (bools rb)) := by
          unfold tabL; rw [List.getElem?_cons_succ, List.getElem?_map, rb1]; rfl
        have na := bools_noOwn ra
        have nb := bools_noOwn rb
        have nr := refT_noOwn k k
        have ri := refT_get hik
        have rm := refT_get hmk
        have rl : (refT k k).length = k := by simp [refT]
        have ea := ra3 m hmk
        have eb := rb3 i hik
        have lk : k ≤ (bools ra).length := by simp [ra2]
        have lk2 : k ≤ (bools rb).length := by simp [rb2]
        subst hn
        simp only [run0, run1, run2, run3, run4, run5, run6, run7, run8, run9, run10, run11, run12, run13, run14, run15, run16, run17, run18, run19, run20, run21, run22, reduceCtorEq, Nat.reduceEqDiff, Nat.reduceAdd, Nat.reduceSub, Nat.reduceLeDiff, indexAddrA, indexRefA, appendA, strA, Nat.reduceMul, Nat.zero_mul, Nat.reduceMod, Int.reduceEq, Int.reduceLT, Int.reduceLE, Nat.reduceLT, Nat.lt_irrefl, Nat.reduceBEq, tys0, tys1, tys2, tys3, tys4, tys5, tys6, tys7, tys8, tys9, tys10, tys11, tys12, tys13, tys14, tys15, tys16, tys17, tys18, tys19, tys20, tys21, tys22, tys23, Try.ntmps55, Try.results55, k1, f1, g0, ga, na, nr, ri, rl, ea, lk, hmk1, ra2, List.length_map, List.mapIdx_cons, List.mapIdx_nil, viewC, Int.natCast_nonneg, Int.toNat_natCast]
        refine ⟨by kernel_rfl, ?_⟩
        refine RunL.lendB rfl rfl ok_f98 rfl hW (gaShown_ok g hg hl t ht i m hik hmk) rfl (fun X => .cons (.pur (.of (show pureB (.sl false (g.map posE)) = true by simp only [pureB, pg]))) (.cons (Vw_tab ht X) (.cons (.pur (.int _ _)) (.cons (.pur (.int _ _)) .nil)))) rfl ?_
        simp only [run0, run1, run2, run3, run4, run5, run6, run7, run8, run9, run10, run11, run12, run13, run14, run15, run16, run17, run18, run19, run20, run21, run22, reduceCtorEq, Nat.reduceEqDiff, Nat.reduceAdd, Nat.reduceSub, Nat.reduceLeDiff, indexAddrA, indexRefA, appendA, strA, Nat.reduceMul, Nat.zero_mul, Nat.reduceMod, Int.reduceEq, Int.reduceLT, Int.reduceLE, Nat.reduceLT, Nat.lt_irrefl, Nat.reduceBEq, tys0, tys1, tys2, tys3, tys4, tys5, tys6, tys7, tys8, tys9, tys10, tys11, tys12, tys13, tys14, tys15, tys16, tys17, tys18, tys19, tys20, tys21, tys22, tys23, Try.ntmps55, Try.results55, k1, f1, g0, ga, na, nr, ri, rl, ea, lk, hmk1, ra2, sa, gb, nb, rm, eb, lk2, rb2, List.length_map, List.mapIdx_cons, List.mapIdx_nil, viewC, Int.natCast_nonneg, Int.toNat_natCast]
        refine ⟨by kernel_rfl, ?_⟩
        refine RunL.lendB rfl rfl ok_f98 rfl hW (gaShown_ok g hg hl _ ht1 m i hmk hik) rfl (fun X => .cons (.pur (.of (show pureB (.sl false (g.map posE)) = true by simp only [pureB, pg]))) (.cons (Vw_tab ht1 X) (.cons (.pur (.int _ _)) (.cons (.pur (.int _ _)) .nil)))) rfl ?_
        simp only [run0, run1, run2, run3, run4, run5, run6, run7, run8, run9, run10, run11, run12, run13, run14, run15, run16, run17, run18, run19, run20, run21, run22, reduceCtorEq, Nat.reduceEqDiff, Nat.reduceAdd, Nat.reduceSub, Nat.reduceLeDiff, indexAddrA, indexRefA, appendA, strA, Nat.reduceMul, Nat.zero_mul, Nat.reduceMod, Int.reduceEq, Int.reduceLT, Int.reduceLE, Nat.reduceLT, Nat.lt_irrefl, Nat.reduceBEq, tys0, tys1, tys2, tys3, tys4, tys5, tys6, tys7, tys8, tys9, tys10, tys11, tys12, tys13, tys14, tys15, tys16, tys17, tys18, tys19, tys20, tys21, tys22, tys23, Try.ntmps55, Try.results55, k1, f1, g0, gb, nb, nr, rm, rl, eb, lk2, rb2, sb, k5, List.length_map, List.mapIdx_cons, List.mapIdx_nil, viewC, Int.natCast_nonneg, Int.toNat_natCast]
        exact ⟨(m + 1, _), ⟨by simp only; omega, ht2, hst⟩, by simp only; omega, by repeat constructor, rfl⟩
      · have k1 : ¬ (m : Int) ≤ (i : Int) := by omega
        obtain rfl : m = i + 1 := by omega
        simp only [run0, run1, run2, run3, run4, run5, run6, run7, run8, run9, run10, run11, run12, run13, run14, run15, run16, run17, run18, run19, run20, run21, run22, reduceCtorEq, Nat.reduceEqDiff, Nat.reduceAdd, Nat.reduceSub, Nat.reduceLeDiff, indexAddrA, indexRefA, appendA, strA, Nat.reduceMul, Nat.zero_mul, Nat.reduceMod, Int.reduceEq, Int.reduceLT, Int.reduceLE, Nat.reduceLT, Nat.lt_irrefl, Nat.reduceBEq, tys0, tys1, tys2, tys3, tys4, tys5, tys6, tys7, tys8, tys9, tys10, tys11, tys12, tys13, tys14, tys15, tys16, tys17, tys18, tys19, tys20, tys21, tys22, tys23, Try.ntmps55, Try.results55, k1, f5]
        exact ⟨(i + 1, t), ⟨by simp only; omega, ht, fun a b ha hb hc => by
          by_cases hai : a ≤ i
          · by_cases hbi : b ≤ i
            · exact hK a b hai hbi (by omega)
            · omega
          · omega⟩, by simp only; omega, by repeat constructor, rfl⟩
    · have f1 : ¬ (i : Int) < (k : Int) := by omega
      obtain rfl : i = k := by omega
      have := tab_eq (g := g) (by rw [hn]; exact ht) (fun a b ha hb => hK a b (by omega) (by omega) (.inl ⟨by omega, by omega⟩))
      subst this
      simp only [run0, run1, run2, run3, run4, run5, run6, run7, run8, run9, run10, run11, run12, run13, run14, run15, run16, run17, run18, run19, run20, run21, run22, reduceCtorEq, Nat.reduceEqDiff, Nat.reduceAdd, Nat.reduceSub, Nat.reduceLeDiff, indexAddrA, indexRefA, appendA, strA, Nat.reduceMul, Nat.zero_mul, Nat.reduceMod, Int.reduceEq, Int.reduceLT, Int.reduceLE, Nat.reduceLT, Nat.lt_irrefl, Nat.reduceBEq, tys0, tys1, tys2, tys3, tys4, tys5, tys6, tys7, tys8, tys9, tys10, tys11, tys12, tys13, tys14, tys15, tys16, tys17, tys18, tys19, tys20, tys21, tys22, tys23, Try.ntmps55, Try.results55, f1]
      have hv := Vw_tab ht []
      rw [List.append_nil] at hv
      exact Fin.value hv

end Go.Proofs.Ytllcljajlemmaaa
/-
  Games: compared, and who wins: the laws.
-/
namespace Go.Proofs.Ytllcljajlemmaaa
open Go K
set_option linter.unusedSimpArgs false
set_option linter.unusedVariables false
set_option maxHeartbeats 1600000
set_option maxRecDepth 8000

theorem tabG_pure (g : List GP) : pureL ((tabG g).map rowV) = true := rows_pure _
theorem orderG_ok (g : List GP) (a b : Nat) (ha : a < g.length) (hb : b < g.length) : Ct Try.prog 65 [.sl false ((tabG g).map rowV), .int .i64 a, .int .i64 b] [] (.int .i64 (cmpG g a b)) [] := by
  have := gaOrder_ok g.length (tabG g) (tabG_sqr g) a b ha hb
  rw [tbl_tabG g ha hb, tbl_tabG g hb ha] at this
  exact this
theorem specCompareG_ok (g : List GP) (a b : Int) (hl : g.length ≤ 1048576) (hs : ∀ p ∈ g, smallP p) : Ct Try.prog 22 [.sl false (g.map posE), .int .i64 a, .int .i64 b] [] (cmpR g a b) [] := by
  have pg := posL_pure g
  have pt := tabG_pure g
  have hw : IntKind.i64.wrap ((g.length : Int) - 1) = (g.length : Int) - 1 := i64_id (by omega) (by omega)
  refine Ct.by_ hmix [] Try.func22 rfl ?_
  simp only [run0, run1, run2, run3, run4, run5, run6, run7, run8, run9, run10, run11, run12, run13, run14, run15, run16, run17, run18, run19, run20, run21, run22, reduceCtorEq, Nat.reduceEqDiff, Nat.reduceAdd, Nat.reduceSub, Nat.reduceLeDiff, indexAddrA, indexRefA, appendA, strA, Nat.reduceMul, Nat.zero_mul, Nat.reduceMod, Int.reduceEq, Int.reduceLT, Int.reduceLE, Nat.reduceLT, Nat.lt_irrefl, Nat.reduceBEq, tys0, tys1, tys2, tys3, tys4, tys5, tys6, tys7, tys8, tys9, tys10, tys11, tys12, tys13, tys14, tys15, tys16, tys17, tys18, tys19, tys20, tys21, tys22, tys23, Try.ntmps22, Try.results22]
  refine RunL.callp rfl rfl ok_f63 (gaHas_ok g a hl hs) (by simp only [pureL, pureB, pg, Bool.and_self]) rfl ?_
  cases h1 : hasB g a
  · simp only [run0, run1, run2, run3, run4, run5, run6, run7, run8, run9, run10, run11, run12, run13, run14, run15, run16, run17, run18, run19, run20, run21, run22, reduceCtorEq, Nat.reduceEqDiff, Nat.reduceAdd, Nat.reduceSub, Nat.reduceLeDiff, indexAddrA, indexRefA, appendA, strA, Nat.reduceMul, Nat.zero_mul, Nat.reduceMod, Int.reduceEq, Int.reduceLT, Int.reduceLE, Nat.reduceLT, Nat.lt_irrefl, Nat.reduceBEq, tys0, tys1, tys2, tys3, tys4, tys5, tys6, tys7, tys8, tys9, tys10, tys11, tys12, tys13, tys14, tys15, tys16, tys17, tys18, tys19, tys20, tys21, tys22, tys23, Try.ntmps22, Try.results22]
    exact Fin.eq (by simp [cmpR, h1]) rfl
  obtain ⟨hgb, a, rfl, ha⟩ := hasB_ok h1
  simp only [run0, run1, run2, run3, run4, run5, run6, run7, run8, run9, run10, run11, run12, run13, run14, run15, run16, run17, run18, run19, run20, run21, run22, reduceCtorEq, Nat.reduceEqDiff, Nat.reduceAdd, Nat.reduceSub, Nat.reduceLeDiff, indexAddrA, indexRefA, appendA, strA, Nat.reduceMul, Nat.zero_mul, Nat.reduceMod, Int.reduceEq, Int.reduceLT, Int.reduceLE, Nat.reduceLT, Nat.lt_irrefl, Nat.reduceBEq, tys0, tys1, tys2, tys3, tys4, tys5, tys6, tys7, tys8, tys9, tys10, tys11, tys12, tys13, tys14, tys15, tys16, tys17, tys18, tys19, tys20, tys21, tys22, tys23, Try.ntmps22, Try.results22, List.length_map, hw]
  refine RunL.callp rfl rfl ok_f64 (l1In_ok b 0 ((g.length : Int) - 1)) (by first | rfl | simp only [pureL, pureB, Bool.and_self, Bool.and_true, Bool.true_and]) rfl ?_
  have h2' : hasB g b = inB b 0 ((g.length : Int) - 1) := by simp [hasB, hgb]
  cases h2 : inB b 0 ((g.length : Int) - 1)
  · simp only [run0, run1, run2, run3, run4, run5, run6, run7, run8, run9, run10, run11, run12, run13, run14, run15, run16, run17, run18, run19, run20, run21, run22, reduceCtorEq, Nat.reduceEqDiff, Nat.reduceAdd, Nat.reduceSub, Nat.reduceLeDiff, indexAddrA, indexRefA, appendA, strA, Nat.reduceMul, Nat.zero_mul, Nat.reduceMod, Int.reduceEq, Int.reduceLT, Int.reduceLE, Nat.reduceLT, Nat.lt_irrefl, Nat.reduceBEq, tys0, tys1, tys2, tys3, tys4, tys5, tys6, tys7, tys8, tys9, tys10, tys11, tys12, tys13, tys14, tys15, tys16, tys17, tys18, tys19, tys20, tys21, tys22, tys23, Try.ntmps22, Try.results22]
    exact Fin.eq (by rw [h2] at h2'; simp [cmpR, h2']) rfl
  rw [h2] at h2'
  obtain ⟨_, b, rfl, hb⟩ := hasB_ok h2'
  have hg := (gameB_ok hgb).1
  simp only [run0, run1, run2, run3, run4, run5, run6, run7, run8, run9, run10, run11, run12, run13, run14, run15, run16, run17, run18, run19, run20, run21, run22, reduceCtorEq, Nat.reduceEqDiff, Nat.reduceAdd, Nat.reduceSub, Nat.reduceLeDiff, indexAddrA, indexRefA, appendA, strA, Nat.reduceMul, Nat.zero_mul, Nat.reduceMod, Int.reduceEq, Int.reduceLT, Int.reduceLE, Nat.reduceLT, Nat.lt_irrefl, Nat.reduceBEq, tys0, tys1, tys2, tys3, tys4, tys5, tys6, tys7, tys8, tys9, tys10, tys11, tys12, tys13, tys14, tys15, tys16, tys17, tys18, tys19, tys20, tys21, tys22, tys23, Try.ntmps22, Try.results22]
  refine RunL.callp rfl rfl ok_f55 (gaAtMost_ok g hg hl) (by simp only [pureL, pureB, pg, Bool.and_self]) rfl ?_
  simp only [run0, run1, run2, run3, run4, run5, run6, run7, run8, run9, run10, run11, run12, run13, run14, run15, run16, run17, run18, run19, run20, run21, run22, reduceCtorEq, Nat.reduceEqDiff, Nat.reduceAdd, Nat.reduceSub, Nat.reduceLeDiff, indexAddrA, indexRefA, appendA, strA, Nat.reduceMul, Nat.zero_mul, Nat.reduceMod, Int.reduceEq, Int.reduceLT, Int.reduceLE, Nat.reduceLT, Nat.lt_irrefl, Nat.reduceBEq, tys0, tys1, tys2, tys3, tys4, tys5, tys6, tys7, tys8, tys9, tys10, tys11, tys12, tys13, tys14, tys15, tys16, tys17, tys18, tys19, tys20, tys21, tys22, tys23, Try.ntmps22, Try.results22]
  refine RunL.callp rfl rfl ok_f65 (orderG_ok g a b ha hb) (by simp only [pureL, pureB, pt, Bool.and_self]) rfl ?_
  simp only [run0, run1, run2, run3, run4, run5, run6, run7, run8, run9, run10, run11, run12, run13, run14, run15, run16, run17, run18, run19, run20, run21, run22, reduceCtorEq, Nat.reduceEqDiff, Nat.reduceAdd, Nat.reduceSub, Nat.reduceLeDiff, indexAddrA, indexRefA, appendA, strA, Nat.reduceMul, Nat.zero_mul, Nat.reduceMod, Int.reduceEq, Int.reduceLT, Int.reduceLE, Nat.reduceLT, Nat.lt_irrefl, Nat.reduceBEq, tys0, tys1, tys2, tys3, tys4, tys5, tys6, tys7, tys8, tys9, tys10, tys11, tys12, tys13, tys14, tys15, tys16, tys17, tys18, tys19, tys20, tys21, tys22, tys23, Try.ntmps22, Try.results22]
  exact Fin.eq (by simp [cmpR, h1, h2']) rfl
theorem int_in {x : AV} (h : IsOf Try.prog 3 x) : ∃ n : Int, x = .int .i64 n := by
  obtain ⟨_, h⟩ := h.one ty_a3
  obtain ⟨n, e, _⟩ := h.int Try.underlying3
  simp at e
  exact ⟨n, e⟩
theorem FnExactCompareGames_ok {a0 a1 a2 : AV} (h0 : IsOf Try.prog 22 a0) (h1 : IsOf Try.prog 3 a1) (h2 : IsOf Try.prog 3 a2) : Ct Try.prog 5 [a0, a1, a2] [] (.bool true) [] := by
  obtain ⟨g, rfl, hl, hf⟩ := laws_isPoS h0
  obtain ⟨x1, rfl⟩ := int_in h1
  obtain ⟨x2, rfl⟩ := int_in h2
  have pg := posL_pure g
  refine Ct.by_ hmix [] Try.func5 rfl ?_
  simp only [run0, run1, run2, run3, run4, run5, run6, run7, run8, run9, run10, run11, run12, run13, run14, run15, run16, run17, run18, run19, run20, run21, run22, reduceCtorEq, Nat.reduceEqDiff, Nat.reduceAdd, Nat.reduceSub, Nat.reduceLeDiff, indexAddrA, indexRefA, appendA, strA, Nat.reduceMul, Nat.zero_mul, Nat.reduceMod, Int.reduceEq, Int.reduceLT, Int.reduceLE, Nat.reduceLT, Nat.lt_irrefl, Nat.reduceBEq, tys0, tys1, tys2, tys3, tys4, tys5, tys6, tys7, tys8, tys9, tys10, tys11, tys12, tys13, tys14, tys15, tys16, tys17, tys18, tys19, tys20, tys21, tys22, tys23, Try.ntmps5, Try.results5]
  refine RunL.callp rfl rfl ok_f13 (szPositionS_ok g 1048576 hl hf (by omega) (by omega)) (by simp only [pureL, pureB, pg, Bool.and_self]) rfl ?_
  rcases szN_spec (g.length + gsz g) 1048576 with ⟨g1, g2⟩ | ⟨g1, g2⟩
  case inr =>
    have e1 : szN (g.length + gsz g) 1048576 < 0 := by omega
    simp only [run0, run1, run2, run3, run4, run5, run6, run7, run8, run9, run10, run11, run12, run13, run14, run15, run16, run17, run18, run19, run20, run21, run22, reduceCtorEq, Nat.reduceEqDiff, Nat.reduceAdd, Nat.reduceSub, Nat.reduceLeDiff, indexAddrA, indexRefA, appendA, strA, Nat.reduceMul, Nat.zero_mul, Nat.reduceMod, Int.reduceEq, Int.reduceLT, Int.reduceLE, Nat.reduceLT, Nat.lt_irrefl, Nat.reduceBEq, tys0, tys1, tys2, tys3, tys4, tys5, tys6, tys7, tys8, tys9, tys10, tys11, tys12, tys13, tys14, tys15, tys16, tys17, tys18, tys19, tys20, tys21, tys22, tys23, Try.ntmps5, Try.results5, e1]
    exact Fin.eq rfl rfl
  have e1 : ¬ szN (g.length + gsz g) 1048576 < 0 := by omega
  have gl : g.length ≤ 1048576 := by omega
  have gs : ∀ p ∈ g, smallP p := fun p hp => by have := gsz_mem hp; unfold psz at this; exact ⟨by omega, by omega⟩
  simp only [run0, run1, run2, run3, run4, run5, run6, run7, run8, run9, run10, run11, run12, run13, run14, run15, run16, run17, run18, run19, run20, run21, run22, reduceCtorEq, Nat.reduceEqDiff, Nat.reduceAdd, Nat.reduceSub, Nat.reduceLeDiff, indexAddrA, indexRefA, appendA, strA, Nat.reduceMul, Nat.zero_mul, Nat.reduceMod, Int.reduceEq, Int.reduceLT, Int.reduceLE, Nat.reduceLT, Nat.lt_irrefl, Nat.reduceBEq, tys0, tys1, tys2, tys3, tys4, tys5, tys6, tys7, tys8, tys9, tys10, tys11, tys12, tys13, tys14, tys15, tys16, tys17, tys18, tys19, tys20, tys21, tys22, tys23, Try.ntmps5, Try.results5, e1]
  refine RunL.callp rfl rfl ok_f15 (toPositionS_ok g gl gs) (by simp only [pureL, pureB, pg, Bool.and_self]) rfl ?_
  simp only [run0, run1, run2, run3, run4, run5, run6, run7, run8, run9, run10, run11, run12, run13, run14, run15, run16, run17, run18, run19, run20, run21, run22, reduceCtorEq, Nat.reduceEqDiff, Nat.reduceAdd, Nat.reduceSub, Nat.reduceLeDiff, indexAddrA, indexRefA, appendA, strA, Nat.reduceMul, Nat.zero_mul, Nat.reduceMod, Int.reduceEq, Int.reduceLT, Int.reduceLE, Nat.reduceLT, Nat.lt_irrefl, Nat.reduceBEq, tys0, tys1, tys2, tys3, tys4, tys5, tys6, tys7, tys8, tys9, tys10, tys11, tys12, tys13, tys14, tys15, tys16, tys17, tys18, tys19, tys20, tys21, tys22, tys23, Try.ntmps5, Try.results5]
  refine RunL.callp rfl rfl ok_f22 (specCompareG_ok g x1 x2 gl gs) (by simp only [pureL, pureB, pg, Bool.and_self]) rfl ?_
  simp only [run0, run1, run2, run3, run4, run5, run6, run7, run8, run9, run10, run11, run12, run13, run14, run15, run16, run17, run18, run19, run20, run21, run22, reduceCtorEq, Nat.reduceEqDiff, Nat.reduceAdd, Nat.reduceSub, Nat.reduceLeDiff, indexAddrA, indexRefA, appendA, strA, Nat.reduceMul, Nat.zero_mul, Nat.reduceMod, Int.reduceEq, Int.reduceLT, Int.reduceLE, Nat.reduceLT, Nat.lt_irrefl, Nat.reduceBEq, tys0, tys1, tys2, tys3, tys4, tys5, tys6, tys7, tys8, tys9, tys10, tys11, tys12, tys13, tys14, tys15, tys16, tys17, tys18, tys19, tys20, tys21, tys22, tys23, Try.ntmps5, Try.results5, cmpR]
  refine RunL.callp rfl rfl ok_f15 (toPositionS_ok g gl gs) (by simp only [pureL, pureB, pg, Bool.and_self]) rfl ?_
  simp only [run0, run1, run2, run3, run4, run5, run6, run7, run8, run9, run10, run11, run12, run13, run14, run15, run16, run17, run18, run19, run20, run21, run22, reduceCtorEq, Nat.reduceEqDiff, Nat.reduceAdd, Nat.reduceSub, Nat.reduceLeDiff, indexAddrA, indexRefA, appendA, strA, Nat.reduceMul, Nat.zero_mul, Nat.reduceMod, Int.reduceEq, Int.reduceLT, Int.reduceLE, Nat.reduceLT, Nat.lt_irrefl, Nat.reduceBEq, tys0, tys1, tys2, tys3, tys4, tys5, tys6, tys7, tys8, tys9, tys10, tys11, tys12, tys13, tys14, tys15, tys16, tys17, tys18, tys19, tys20, tys21, tys22, tys23, Try.ntmps5, Try.results5]
  refine RunL.callp rfl rfl ok_f23 (implCompareG_ok g x1 x2 gl gs) (by simp only [pureL, pureB, pg, Bool.and_self]) rfl ?_
  simp only [run0, run1, run2, run3, run4, run5, run6, run7, run8, run9, run10, run11, run12, run13, run14, run15, run16, run17, run18, run19, run20, run21, run22, reduceCtorEq, Nat.reduceEqDiff, Nat.reduceAdd, Nat.reduceSub, Nat.reduceLeDiff, indexAddrA, indexRefA, appendA, strA, Nat.reduceMul, Nat.zero_mul, Nat.reduceMod, Int.reduceEq, Int.reduceLT, Int.reduceLE, Nat.reduceLT, Nat.lt_irrefl, Nat.reduceBEq, tys0, tys1, tys2, tys3, tys4, tys5, tys6, tys7, tys8, tys9, tys10, tys11, tys12, tys13, tys14, tys15, tys16, tys17, tys18, tys19, tys20, tys21, tys22, tys23, Try.ntmps5, Try.results5, cmpR, bne_self_eq_false]
  refine RunL.callp rfl rfl ok_f15 (toPositionS_ok g gl gs) (by simp only [pureL, pureB, pg, Bool.and_self]) rfl ?_
  simp only [run0, run1, run2, run3, run4, run5, run6, run7, run8, run9, run10, run11, run12, run13, run14, run15, run16, run17, run18, run19, run20, run21, run22, reduceCtorEq, Nat.reduceEqDiff, Nat.reduceAdd, Nat.reduceSub, Nat.reduceLeDiff, indexAddrA, indexRefA, appendA, strA, Nat.reduceMul, Nat.zero_mul, Nat.reduceMod, Int.reduceEq, Int.reduceLT, Int.reduceLE, Nat.reduceLT, Nat.lt_irrefl, Nat.reduceBEq, tys0, tys1, tys2, tys3, tys4, tys5, tys6, tys7, tys8, tys9, tys10, tys11, tys12, tys13, tys14, tys15, tys16, tys17, tys18, tys19, tys20, tys21, tys22, tys23, Try.ntmps5, Try.results5]
  refine RunL.callp rfl rfl ok_f17 (eqPositionS_ok g gl gs) (by simp only [pureL, pureB, pg, Bool.and_self]) rfl ?_
  simp only [run0, run1, run2, run3, run4, run5, run6, run7, run8, run9, run10, run11, run12, run13, run14, run15, run16, run17, run18, run19, run20, run21, run22, reduceCtorEq, Nat.reduceEqDiff, Nat.reduceAdd, Nat.reduceSub, Nat.reduceLeDiff, indexAddrA, indexRefA, appendA, strA, Nat.reduceMul, Nat.zero_mul, Nat.reduceMod, Int.reduceEq, Int.reduceLT, Int.reduceLE, Nat.reduceLT, Nat.lt_irrefl, Nat.reduceBEq, tys0, tys1, tys2, tys3, tys4, tys5, tys6, tys7, tys8, tys9, tys10, tys11, tys12, tys13, tys14, tys15, tys16, tys17, tys18, tys19, tys20, tys21, tys22, tys23, Try.ntmps5, Try.results5]
  exact Fin.eq rfl rfl


/-! ### who wins -/
def outS (c : Int) : ByteArray := if c = 1 then ⟨#[108, 101, 102, 116]⟩ else if c = -1 then ⟨#[114, 105, 103, 104, 116]⟩ else if c = 0 then ⟨#[115, 101, 99, 111, 110, 100]⟩ else ⟨#[102, 105, 114, 115, 116]⟩
theorem nb : ((-1 : Int) == 1) = false ∧ ((0 : Int) == 1) = false ∧ ((2 : Int) == 1) = false ∧ ((0 : Int) == -1) = false ∧ ((2 : Int) == -1) = false ∧ ((2 : Int) == 0) = false ∧ ((1 : Int) == 1) = true ∧ ((-1 : Int) == -1) = true ∧ ((0 : Int) == 0) = true ∧ ((1 : Int) == 0) = false ∧ ((-1 : Int) == 0) = false ∧ ((1 : Int) == -1) = false := by decide
def outR (g : List GP) (a : Int) : AV := .tup [.str (if hasB g a then outS (cmpG g a.toNat 0) else ⟨#[]⟩), .bool (hasB g a)]
theorem hasB_zero {g : List GP} {a : Int} (h : hasB g a = true) : hasB g 0 = true := by
  simp only [hasB, Bool.and_eq_true, inB, decide_eq_true_eq] at h ⊢
  exact ⟨h.1, by omega, by omega⟩
theorem cmpG_val (g : List GP) (a b : Nat) : cmpG g a b = 1 ∨ cmpG g a b = -1 ∨ cmpG g a b = 0 ∨ cmpG g a b = 2 := by
  unfold cmpG ordI
  cases leG g a b <;> cases leG g b a <;> simp
theorem implOut_ok (g : List GP) (a : Int) (hl : g.length ≤ 1048576) (hs : ∀ p ∈ g, smallP p) : Ct Try.prog 25 [.sl false (g.map posE), .int .i64 a] [] (outR g a) [] := by
  have pg := posL_pure g
  refine Ct.by_ hmix [] Try.func25 rfl ?_
  simp only [run0, run1, run2, run3, run4, run5, run6, run7, run8, run9, run10, run11, run12, run13, run14, run15, run16, run17, run18, run19, run20, run21, run22, reduceCtorEq, Nat.reduceEqDiff, Nat.reduceAdd, Nat.reduceSub, Nat.reduceLeDiff, indexAddrA, indexRefA, appendA, strA, Nat.reduceMul, Nat.zero_mul, Nat.reduceMod, Int.reduceEq, Int.reduceLT, Int.reduceLE, Nat.reduceLT, Nat.lt_irrefl, Nat.reduceBEq, tys0, tys1, tys2, tys3, tys4, tys5, tys6, tys7, tys8, tys9, tys10, tys11, tys12, tys13, tys14, tys15, tys16, tys17, tys18, tys19, tys20, tys21, tys22, tys23, Try.ntmps25, Try.results25]
  refine RunL.callp rfl rfl ok_f23 (implCompareG_ok g a 0 hl hs) (by simp only [pureL, pureB, pg, Bool.and_self]) rfl ?_
  cases h1 : hasB g a
  · simp only [run0, run1, run2, run3, run4, run5, run6, run7, run8, run9, run10, run11, run12, run13, run14, run15, run16, run17, run18, run19, run20, run21, run22, reduceCtorEq, Nat.reduceEqDiff, Nat.reduceAdd, Nat.reduceSub, Nat.reduceLeDiff, indexAddrA, indexRefA, appendA, strA, Nat.reduceMul, Nat.zero_mul, Nat.reduceMod, Int.reduceEq, Int.reduceLT, Int.reduceLE, Nat.reduceLT, Nat.lt_irrefl, Nat.reduceBEq, tys0, tys1, tys2, tys3, tys4, tys5, tys6, tys7, tys8, tys9, tys10, tys11, tys12, tys13, tys14, tys15, tys16, tys17, tys18, tys19, tys20, tys21, tys22, tys23, Try.ntmps25, Try.results25, cmpR, h1]
    exact Fin.eq (by simp [outR, h1]) rfl
  have h0 := hasB_zero h1
  unfold outR
  rw [h1, if_pos rfl]
  rcases cmpG_val g a.toNat 0 with h | h | h | h <;> simp only [run0, run1, run2, run3, run4, run5, run6, run7, run8, run9, run10, run11, run12, run13, run14, run15, run16, run17, run18, run19, run20, run21, run22, reduceCtorEq, Nat.reduceEqDiff, Nat.reduceAdd, Nat.reduceSub, Nat.reduceLeDiff, indexAddrA, indexRefA, appendA, strA, Nat.reduceMul, Nat.zero_mul, Nat.reduceMod, Int.reduceEq, Int.reduceLT, Int.reduceLE, Nat.reduceLT, Nat.lt_irrefl, Nat.reduceBEq, tys0, tys1, tys2, tys3, tys4, tys5, tys6, tys7, tys8, tys9, tys10, tys11, tys12, tys13, tys14, tys15, tys16, tys17, tys18, tys19, tys20, tys21, tys22, tys23, Try.ntmps25, Try.results25, cmpR, h1, h0, Int.toNat_zero, h, nb] <;> exact Fin.eq rfl rfl
theorem specOut_ok (g : List GP) (a : Int) (hl : g.length ≤ 1048576) (hs : ∀ p ∈ g, smallP p) : Ct Try.prog 24 [.sl false (g.map posE), .int .i64 a] [] (outR g a) [] := by
  have pg := posL_pure g
  have pt := tabG_pure g
  refine Ct.by_ hmix [] Try.func24 rfl ?_
  simp only [run0, run1, run2, run3, run4, run5, run6, run7, run8, run9, run10, run11, run12, run13, run14, run15, run16, run17, run18, run19, run20, run21, run22, reduceCtorEq, Nat.reduceEqDiff, Nat.reduceAdd, Nat.reduceSub, Nat.reduceLeDiff, indexAddrA, indexRefA, appendA, strA, Nat.reduceMul, Nat.zero_mul, Nat.reduceMod, Int.reduceEq, Int.reduceLT, Int.reduceLE, Nat.reduceLT, Nat.lt_irrefl, Nat.reduceBEq, tys0, tys1, tys2, tys3, tys4, tys5, tys6, tys7, tys8, tys9, tys10, tys11, tys12, tys13, tys14, tys15, tys16, tys17, tys18, tys19, tys20, tys21, tys22, tys23, Try.ntmps24, Try.results24]
  refine RunL.callp rfl rfl ok_f63 (gaHas_ok g a hl hs) (by simp only [pureL, pureB, pg, Bool.and_self]) rfl ?_
  cases h1 : hasB g a
  · simp only [run0, run1, run2, run3, run4, run5, run6, run7, run8, run9, run10, run11, run12, run13, run14, run15, run16, run17, run18, run19, run20, run21, run22, reduceCtorEq, Nat.reduceEqDiff, Nat.reduceAdd, Nat.reduceSub, Nat.reduceLeDiff, indexAddrA, indexRefA, appendA, strA, Nat.reduceMul, Nat.zero_mul, Nat.reduceMod, Int.reduceEq, Int.reduceLT, Int.reduceLE, Nat.reduceLT, Nat.lt_irrefl, Nat.reduceBEq, tys0, tys1, tys2, tys3, tys4, tys5, tys6, tys7, tys8, tys9, tys10, tys11, tys12, tys13, tys14, tys15, tys16, tys17, tys18, tys19, tys20, tys21, tys22, tys23, Try.ntmps24, Try.results24]
    exact Fin.eq (by simp [outR, h1]) rfl
  unfold outR
  rw [h1, if_pos rfl]
  obtain ⟨hgb, a, rfl, ha⟩ := hasB_ok h1
  have hg := (gameB_ok hgb).1
  have ho := orderG_ok g a 0 ha (by omega)
  rw [Int.natCast_zero] at ho
  simp only [run0, run1, run2, run3, run4, run5, run6, run7, run8, run9, run10, run11, run12, run13, run14, run15, run16, run17, run18, run19, run20, run21, run22, reduceCtorEq, Nat.reduceEqDiff, Nat.reduceAdd, Nat.reduceSub, Nat.reduceLeDiff, indexAddrA, indexRefA, appendA, strA, Nat.reduceMul, Nat.zero_mul, Nat.reduceMod, Int.reduceEq, Int.reduceLT, Int.reduceLE, Nat.reduceLT, Nat.lt_irrefl, Nat.reduceBEq, tys0, tys1, tys2, tys3, tys4, tys5, tys6, tys7, tys8, tys9, tys10, tys11, tys12, tys13, tys14, tys15, tys16, tys17, tys18, tys19, tys20, tys21, tys22, tys23, Try.ntmps24, Try.results24]
  refine RunL.callp rfl rfl ok_f55 (gaAtMost_ok g hg hl) (by simp only [pureL, pureB, pg, Bool.and_self]) rfl ?_
  simp only [run0, run1, run2, run3, run4, run5, run6, run7, run8, run9, run10, run11, run12, run13, run14, run15, run16, run17, run18, run19, run20, run21, run22, reduceCtorEq, Nat.reduceEqDiff, Nat.reduceAdd, Nat.reduceSub, Nat.reduceLeDiff, indexAddrA, indexRefA, appendA, strA, Nat.reduceMul, Nat.zero_mul, Nat.reduceMod, Int.reduceEq, Int.reduceLT, Int.reduceLE, Nat.reduceLT, Nat.lt_irrefl, Nat.reduceBEq, tys0, tys1, tys2, tys3, tys4, tys5, tys6, tys7, tys8, tys9, tys10, tys11, tys12, tys13, tys14, tys15, tys16, tys17, tys18, tys19, tys20, tys21, tys22, tys23, Try.ntmps24, Try.results24]
  refine RunL.callp rfl rfl ok_f65 ho (by simp only [pureL, pureB, pt, Bool.and_self]) rfl ?_
  rcases cmpG_val g a 0 with h | h | h | h <;> simp only [run0, run1, run2, run3, run4, run5, run6, run7, run8, run9, run10, run11, run12, run13, run14, run15, run16, run17, run18, run19, run20, run21, run22, reduceCtorEq, Nat.reduceEqDiff, Nat.reduceAdd, Nat.reduceSub, Nat.reduceLeDiff, indexAddrA, indexRefA, appendA, strA, Nat.reduceMul, Nat.zero_mul, Nat.reduceMod, Int.reduceEq, Int.reduceLT, Int.reduceLE, Nat.reduceLT, Nat.lt_irrefl, Nat.reduceBEq, tys0, tys1, tys2, tys3, tys4, tys5, tys6, tys7, tys8, tys9, tys10, tys11, tys12, tys13, tys14, tys15, tys16, tys17, tys18, tys19, tys20, tys21, tys22, tys23, Try.ntmps24, Try.results24, h, nb] <;> exact Fin.eq (by rw [Int.toNat_natCast, h]; rfl) rfl
theorem FnExactOutcomeOf_ok {a0 a1 : AV} (h0 : IsOf Try.prog 22 a0) (h1 : IsOf Try.prog 3 a1) : Ct Try.prog 6 [a0, a1] [] (.bool true) [] := by
  obtain ⟨g, rfl, hl, hf⟩ := laws_isPoS h0
  obtain ⟨x1, rfl⟩ := int_in h1
  have pg := posL_pure g
  refine Ct.by_ hmix [] Try.func6 rfl ?_
  simp only [run0, run1, run2, run3, run4, run5, run6, run7, run8, run9, run10, run11, run12, run13, run14, run15, run16, run17, run18, run19, run20, run21, run22, reduceCtorEq, Nat.reduceEqDiff, Nat.reduceAdd, Nat.reduceSub, Nat.reduceLeDiff, indexAddrA, indexRefA, appendA, strA, Nat.reduceMul, Nat.zero_mul, Nat.reduceMod, Int.reduceEq, Int.reduceLT, Int.reduceLE, Nat.reduceLT, Nat.lt_irrefl, Nat.reduceBEq, tys0, tys1, tys2, tys3, tys4, tys5, tys6, tys7, tys8, tys9, tys10, tys11, tys12, tys13, tys14, tys15, tys16, tys17, tys18, tys19, tys20, tys21, tys22, tys23, Try.ntmps6, Try.results6]
  refine RunL.callp rfl rfl ok_f13 (szPositionS_ok g 1048576 hl hf (by omega) (by omega)) (by simp only [pureL, pureB, pg, Bool.and_self]) rfl ?_
  rcases szN_spec (g.length + gsz g) 1048576 with ⟨g1, g2⟩ | ⟨g1, g2⟩
  case inr =>
    have e1 : szN (g.length + gsz g) 1048576 < 0 := by omega
    simp only [run0, run1, run2, run3, run4, run5, run6, run7, run8, run9, run10, run11, run12, run13, run14, run15, run16, run17, run18, run19, run20, run21, run22, reduceCtorEq, Nat.reduceEqDiff, Nat.reduceAdd, Nat.reduceSub, Nat.reduceLeDiff, indexAddrA, indexRefA, appendA, strA, Nat.reduceMul, Nat.zero_mul, Nat.reduceMod, Int.reduceEq, Int.reduceLT, Int.reduceLE, Nat.reduceLT, Nat.lt_irrefl, Nat.reduceBEq, tys0, tys1, tys2, tys3, tys4, tys5, tys6, tys7, tys8, tys9, tys10, tys11, tys12, tys13, tys14, tys15, tys16, tys17, tys18, tys19, tys20, tys21, tys22, tys23, Try.ntmps6, Try.results6, e1]
    exact Fin.eq rfl rfl
  have e1 : ¬ szN (g.length + gsz g) 1048576 < 0 := by omega
  have gl : g.length ≤ 1048576 := by omega
  have gs : ∀ p ∈ g, smallP p := fun p hp => by have := gsz_mem hp; unfold psz at this; exact ⟨by omega, by omega⟩
  simp only [run0, run1, run2, run3, run4, run5, run6, run7, run8, run9, run10, run11, run12, run13, run14, run15, run16, run17, run18, run19, run20, run21, run22, reduceCtorEq, Nat.reduceEqDiff, Nat.reduceAdd, Nat.reduceSub, Nat.reduceLeDiff, indexAddrA, indexRefA, appendA, strA, Nat.reduceMul, Nat.zero_mul, Nat.reduceMod, Int.reduceEq, Int.reduceLT, Int.reduceLE, Nat.reduceLT, Nat.lt_irrefl, Nat.reduceBEq, tys0, tys1, tys2, tys3, tys4, tys5, tys6, tys7, tys8, tys9, tys10, tys11, tys12, tys13, tys14, tys15, tys16, tys17, tys18, tys19, tys20, tys21, tys22, tys23, Try.ntmps6, Try.results6, e1]
  refine RunL.callp rfl rfl ok_f15 (toPositionS_ok g gl gs) (by simp only [pureL, pureB, pg, Bool.and_self]) rfl ?_
  simp only [run0, run1, run2, run3, run4, run5, run6, run7, run8, run9, run10, run11, run12, run13, run14, run15, run16, run17, run18, run19, run20, run21, run22, reduceCtorEq, Nat.reduceEqDiff, Nat.reduceAdd, Nat.reduceSub, Nat.reduceLeDiff, indexAddrA, indexRefA, appendA, strA, Nat.reduceMul, Nat.zero_mul, Nat.reduceMod, Int.reduceEq, Int.reduceLT, Int.reduceLE, Nat.reduceLT, Nat.lt_irrefl, Nat.reduceBEq, tys0, tys1, tys2, tys3, tys4, tys5, tys6, tys7, tys8, tys9, tys10, tys11, tys12, tys13, tys14, tys15, tys16, tys17, tys18, tys19, tys20, tys21, tys22, tys23, Try.ntmps6, Try.results6]
  refine RunL.callp rfl rfl ok_f24 (specOut_ok g x1 gl gs) (by simp only [pureL, pureB, pg, Bool.and_self]) rfl ?_
  simp only [run0, run1, run2, run3, run4, run5, run6, run7, run8, run9, run10, run11, run12, run13, run14, run15, run16, run17, run18, run19, run20, run21, run22, reduceCtorEq, Nat.reduceEqDiff, Nat.reduceAdd, Nat.reduceSub, Nat.reduceLeDiff, indexAddrA, indexRefA, appendA, strA, Nat.reduceMul, Nat.zero_mul, Nat.reduceMod, Int.reduceEq, Int.reduceLT, Int.reduceLE, Nat.reduceLT, Nat.lt_irrefl, Nat.reduceBEq, tys0, tys1, tys2, tys3, tys4, tys5, tys6, tys7, tys8, tys9, tys10, tys11, tys12, tys13, tys14, tys15, tys16, tys17, tys18, tys19, tys20, tys21, tys22, tys23, Try.ntmps6, Try.results6, outR]
  refine RunL.callp rfl rfl ok_f15 (toPositionS_ok g gl gs) (by simp only [pureL, pureB, pg, Bool.and_self]) rfl ?_
  simp only [run0, run1, run2, run3, run4, run5, run6, run7, run8, run9, run10, run11, run12, run13, run14, run15, run16, run17, run18, run19, run20, run21, run22, reduceCtorEq, Nat.reduceEqDiff, Nat.reduceAdd, Nat.reduceSub, Nat.reduceLeDiff, indexAddrA, indexRefA, appendA, strA, Nat.reduceMul, Nat.zero_mul, Nat.reduceMod, Int.reduceEq, Int.reduceLT, Int.reduceLE, Nat.reduceLT, Nat.lt_irrefl, Nat.reduceBEq, tys0, tys1, tys2, tys3, tys4, tys5, tys6, tys7, tys8, tys9, tys10, tys11, tys12, tys13, tys14, tys15, tys16, tys17, tys18, tys19, tys20, tys21, tys22, tys23, Try.ntmps6, Try.results6]
  refine RunL.callp rfl rfl ok_f25 (implOut_ok g x1 gl gs) (by simp only [pureL, pureB, pg, Bool.and_self]) rfl ?_
  simp only [run0, run1, run2, run3, run4, run5, run6, run7, run8, run9, run10, run11, run12, run13, run14, run15, run16, run17, run18, run19, run20, run21, run22, reduceCtorEq, Nat.reduceEqDiff, Nat.reduceAdd, Nat.reduceSub, Nat.reduceLeDiff, indexAddrA, indexRefA, appendA, strA, Nat.reduceMul, Nat.zero_mul, Nat.reduceMod, Int.reduceEq, Int.reduceLT, Int.reduceLE, Nat.reduceLT, Nat.lt_irrefl, Nat.reduceBEq, tys0, tys1, tys2, tys3, tys4, tys5, tys6, tys7, tys8, tys9, tys10, tys11, tys12, tys13, tys14, tys15, tys16, tys17, tys18, tys19, tys20, tys21, tys22, tys23, Try.ntmps6, Try.results6, outR, bne_self_eq_false]
  refine RunL.callp rfl rfl ok_f15 (toPositionS_ok g gl gs) (by simp only [pureL, pureB, pg, Bool.and_self]) rfl ?_
  simp only [run0, run1, run2, run3, run4, run5, run6, run7, run8, run9, run10, run11, run12, run13, run14, run15, run16, run17, run18, run19, run20, run21, run22, reduceCtorEq, Nat.reduceEqDiff, Nat.reduceAdd, Nat.reduceSub, Nat.reduceLeDiff, indexAddrA, indexRefA, appendA, strA, Nat.reduceMul, Nat.zero_mul, Nat.reduceMod, Int.reduceEq, Int.reduceLT, Int.reduceLE, Nat.reduceLT, Nat.lt_irrefl, Nat.reduceBEq, tys0, tys1, tys2, tys3, tys4, tys5, tys6, tys7, tys8, tys9, tys10, tys11, tys12, tys13, tys14, tys15, tys16, tys17, tys18, tys19, tys20, tys21, tys22, tys23, Try.ntmps6, Try.results6]
  refine RunL.callp rfl rfl ok_f17 (eqPositionS_ok g gl gs) (by simp only [pureL, pureB, pg, Bool.and_self]) rfl ?_
  simp only [run0, run1, run2, run3, run4, run5, run6, run7, run8, run9, run10, run11, run12, run13, run14, run15, run16, run17, run18, run19, run20, run21, run22, reduceCtorEq, Nat.reduceEqDiff, Nat.reduceAdd, Nat.reduceSub, Nat.reduceLeDiff, indexAddrA, indexRefA, appendA, strA, Nat.reduceMul, Nat.zero_mul, Nat.reduceMod, Int.reduceEq, Int.reduceLT, Int.reduceLE, Nat.reduceLT, Nat.lt_irrefl, Nat.reduceBEq, tys0, tys1, tys2, tys3, tys4, tys5, tys6, tys7, tys8, tys9, tys10, tys11, tys12, tys13, tys14, tys15, tys16, tys17, tys18, tys19, tys20, tys21, tys22, tys23, Try.ntmps6, Try.results6]
  exact Fin.eq rfl rfl


end Go.Proofs.Ytllcljajlemmaaa
/-
  Games that are numbers: the reference.
-/
namespace Go.Proofs.Ytllcljajlemmaaa
open Go K
set_option linter.unusedSimpArgs false
set_option linter.unusedVariables false
set_option maxHeartbeats 1600000
set_option maxRecDepth 8000

def wtE (w : Wt) : AV := .agg [.bool w.num, .bool w.told, .int .i64 w.val.1, .int .i64 w.val.2]
theorem wts_pure : ∀ l : List Wt, pureL (l.map wtE) = true
  | [] => rfl
  | x :: r => by simp only [List.map_cons, pureL, wtE, pureB, wts_pure r, Bool.and_self]
theorem wts_noOwn (l : List Wt) : noOwn (l.map wtE) = true := by
  refine List.all_eq_true.2 fun e he => ?_
  obtain ⟨w, _, rfl⟩ := List.mem_map.1 he; rfl
theorem wt_get {ws : List Wt} {x : Int} (h : 0 ≤ x ∧ x < (ws.length : Int)) : (ws.map wtE)[x.toNat]? = some (.agg [.bool (wAt ws x).num, .bool (wAt ws x).told, .int .i64 (wAt ws x).val.1, .int .i64 (wAt ws x).val.2]) := by
  have h2 : x.toNat < ws.length := by omega
  unfold wAt
  rw [List.getD_eq_getElem?_getD, List.getElem?_map, List.getElem?_eq_getElem h2]
  rfl
def inW (ws : List Wt) (l : List Int) : Prop := ∀ x ∈ l, 0 ≤ x ∧ x < (ws.length : Int)
theorem gaKnowing_ok (ws : List Wt) (l : List Int) (h : inW ws l) (hl : l.length ≤ 1048576) : Ct Try.prog 162 [.sl false (ws.map wtE), .sl false (ints l)] [] (.tup [.bool (l.all fun x => (wAt ws x).told), .bool (l.all fun x => (wAt ws x).num)]) [] := by
  refine Ct.by_ hmix [] Try.func162 rfl ?_
  simp only [run0, run1, run2, run3, run4, run5, run6, run7, run8, run9, run10, run11, run12, run13, run14, run15, run16, run17, run18, run19, run20, run21, run22, reduceCtorEq, Nat.reduceEqDiff, Nat.reduceAdd, Nat.reduceSub, Nat.reduceLeDiff, indexAddrA, indexRefA, appendA, strA, Nat.reduceMul, Nat.zero_mul, Nat.reduceMod, Int.reduceEq, Int.reduceLT, Int.reduceLE, Nat.reduceLT, Nat.lt_irrefl, Nat.reduceBEq, tys0, tys1, tys2, tys3, tys4, tys5, tys6, tys7, tys8, tys9, tys10, tys11, tys12, tys13, tys14, tys15, tys16, tys17, tys18, tys19, tys20, tys21, tys22, tys23, Try.ntmps162, Try.results162, ints_length]
  refine AWp.loop_inv (ι := List Int × List Int) (fun q => ⟨[.sl false (ws.map wtE), .junk, .junk, .junk, .bool false, .bool false, .bool (q.1.all fun x => (wAt ws x).told), .bool (q.1.all fun x => (wAt ws x).num), .junk, .junk, .sl false (ints l), .int .i64 l.length, .int .i64 q.1.length, .junk, .junk, .junk, .junk, .junk, .junk, .junk, .junk, .junk, .junk, .junk, .junk, .junk, .junk, .junk, .junk, .junk, .junk, .junk, .junk, .junk, .junk], []⟩)
    (fun q => l = q.1 ++ q.2) (fun q => q.2.length) ([], l) rfl ⟨by simp only [List.length_nil, Int.natCast_zero, List.all_nil]; repeat constructor, rfl⟩ ?_
  rintro ⟨d, r⟩ ha
  refine W.sound hmix (E := []) ?_
  simp only at ha
  cases r with
  | nil =>
    have e1 := int_end ha
    rw [List.append_nil] at ha
    subst ha
    simp only [run0, run1, run2, run3, run4, run5, run6, run7, run8, run9, run10, run11, run12, run13, run14, run15, run16, run17, run18, run19, run20, run21, run22, reduceCtorEq, Nat.reduceEqDiff, Nat.reduceAdd, Nat.reduceSub, Nat.reduceLeDiff, indexAddrA, indexRefA, appendA, strA, Nat.reduceMul, Nat.zero_mul, Nat.reduceMod, Int.reduceEq, Int.reduceLT, Int.reduceLE, Nat.reduceLT, Nat.lt_irrefl, Nat.reduceBEq, tys0, tys1, tys2, tys3, tys4, tys5, tys6, tys7, tys8, tys9, tys10, tys11, tys12, tys13, tys14, tys15, tys16, tys17, tys18, tys19, tys20, tys21, tys22, tys23, Try.ntmps162, Try.results162, e1]
    exact Fin.eq rfl rfl
  | cons e r =>
    obtain ⟨e1, e2, e5⟩ := int_split ha hl
    have he := h e (by rw [ha]; simp)
    have h3 := wt_get he
    have k1 : (((d ++ [e]).all fun x => (wAt ws x).told) = ((d.all fun x => (wAt ws x).told) && (wAt ws e).told)) := by simp
    have k2 : (((d ++ [e]).all fun x => (wAt ws x).num) = ((d.all fun x => (wAt ws x).num) && (wAt ws e).num)) := by simp
    have key : ∀ t n : Bool, t = ((d ++ [e]).all fun x => (wAt ws x).told) → n = ((d ++ [e]).all fun x => (wAt ws x).num) → _ = _ → True := fun _ _ _ _ (_ : (0 : Nat) = 0) => trivial
    clear key
    have o1 := he.1
    have o2 := he.2
    generalize hT : (d.all fun x => (wAt ws x).told) = T at *
    generalize hN : (d.all fun x => (wAt ws x).num) = N at *
    cases T <;> cases N
    all_goals
      simp only [run0, run1, run2, run3, run4, run5, run6, run7, run8, run9, run10, run11, run12, run13, run14, run15, run16, run17, run18, run19, run20, run21, run22, reduceCtorEq, Nat.reduceEqDiff, Nat.reduceAdd, Nat.reduceSub, Nat.reduceLeDiff, indexAddrA, indexRefA, appendA, strA, Nat.reduceMul, Nat.zero_mul, Nat.reduceMod, Int.reduceEq, Int.reduceLT, Int.reduceLE, Nat.reduceLT, Nat.lt_irrefl, Nat.reduceBEq, tys0, tys1, tys2, tys3, tys4, tys5, tys6, tys7, tys8, tys9, tys10, tys11, tys12, tys13, tys14, tys15, tys16, tys17, tys18, tys19, tys20, tys21, tys22, tys23, Try.ntmps162, Try.results162, e1, e2, e5, h3, o1, o2, List.length_map, Int.toNat_natCast, Int.natCast_nonneg]
      exact ⟨(d ++ [e], r), by simp [ha], by simp, by simp only [k1, k2, Bool.false_and, Bool.true_and, List.length_append, List.length_cons, List.length_nil]; repeat constructor⟩
structure GvS where
  d : List Int
  r : List Int
theorem gaValues_ok (ws : List Wt) (l : List Int) (h : inW ws l) (hl : l.length ≤ 1048576) : Ct Try.prog 163 [.sl false (ws.map wtE), .sl false (ints l)] [] (.sl false ((vals ws l).map frE)) [] := by
  refine Ct.by_ hmix [] Try.func163 rfl ?_
  simp only [run0, run1, run2, run3, run4, run5, run6, run7, run8, run9, run10, run11, run12, run13, run14, run15, run16, run17, run18, run19, run20, run21, run22, reduceCtorEq, Nat.reduceEqDiff, Nat.reduceAdd, Nat.reduceSub, Nat.reduceLeDiff, indexAddrA, indexRefA, appendA, strA, Nat.reduceMul, Nat.zero_mul, Nat.reduceMod, Int.reduceEq, Int.reduceLT, Int.reduceLE, Nat.reduceLT, Nat.lt_irrefl, Nat.reduceBEq, tys0, tys1, tys2, tys3, tys4, tys5, tys6, tys7, tys8, tys9, tys10, tys11, tys12, tys13, tys14, tys15, tys16, tys17, tys18, tys19, tys20, tys21, tys22, tys23, Try.ntmps163, Try.results163, ints_length]
  refine AWp.nil 5 42 2 rfl ?_
  refine AWp.loop_inv (ι := List Int × List Int) (fun q => ⟨[.sl false (ws.map wtE), .junk, .junk, .junk, nilV, .ref 0 [] q.1.length q.1.length, .junk, .junk, .sl false (ints l), .int .i64 l.length, .int .i64 q.1.length, .junk, .junk, .junk, .junk, .junk, .junk, .junk, .junk, .junk, .junk, .junk, .junk, .junk], [.vec 42 2 q.1.length ((vals ws q.1).map frE)]⟩)
    (fun q => l = q.1 ++ q.2) (fun q => q.2.length) ([], l) rfl ⟨by simp only [List.length_nil, Int.natCast_zero]; repeat constructor, rfl⟩ ?_
  rintro ⟨d, r⟩ ha
  refine W.sound hmix (E := []) ?_
  simp only at ha
  cases r with
  | nil =>
    have e1 := int_end ha
    rw [List.append_nil] at ha
    subst ha
    simp only [run0, run1, run2, run3, run4, run5, run6, run7, run8, run9, run10, run11, run12, run13, run14, run15, run16, run17, run18, run19, run20, run21, run22, reduceCtorEq, Nat.reduceEqDiff, Nat.reduceAdd, Nat.reduceSub, Nat.reduceLeDiff, indexAddrA, indexRefA, appendA, strA, Nat.reduceMul, Nat.zero_mul, Nat.reduceMod, Int.reduceEq, Int.reduceLT, Int.reduceLE, Nat.reduceLT, Nat.lt_irrefl, Nat.reduceBEq, tys0, tys1, tys2, tys3, tys4, tys5, tys6, tys7, tys8, tys9, tys10, tys11, tys12, tys13, tys14, tys15, tys16, tys17, tys18, tys19, tys20, tys21, tys22, tys23, Try.ntmps163, Try.results163, e1]
    exact Fin.value (Vw_frs rfl rfl (by simp [vals]))
  | cons e r =>
    obtain ⟨e1, e2, e5⟩ := int_split ha hl
    have he := h e (by rw [ha]; simp)
    have h3 := wt_get he
    have o1 := he.1
    have o2 := he.2
    have hda : l.length = d.length + (r.length + 1) := by rw [ha]; simp
    have f3 : d.length + 1 ≤ 137438953472 := by omega
    have f4 := frs_noOwn (vals ws d)
    have f5 : (vals ws d).length = d.length := by simp [vals]
    simp only [run0, run1, run2, run3, run4, run5, run6, run7, run8, run9, run10, run11, run12, run13, run14, run15, run16, run17, run18, run19, run20, run21, run22, reduceCtorEq, Nat.reduceEqDiff, Nat.reduceAdd, Nat.reduceSub, Nat.reduceLeDiff, indexAddrA, indexRefA, appendA, strA, Nat.reduceMul, Nat.zero_mul, Nat.reduceMod, Int.reduceEq, Int.reduceLT, Int.reduceLE, Nat.reduceLT, Nat.lt_irrefl, Nat.reduceBEq, tys0, tys1, tys2, tys3, tys4, tys5, tys6, tys7, tys8, tys9, tys10, tys11, tys12, tys13, tys14, tys15, tys16, tys17, tys18, tys19, tys20, tys21, tys22, tys23, Try.ntmps163, Try.results163, e1, e2, e5, h3, o1, o2, f3, f4, f5, List.length_map, Int.toNat_natCast, Int.natCast_nonneg]
    exact ⟨(d ++ [e], r), by simp [ha], by simp, by simp only [List.length_append, List.length_cons, List.length_nil]; repeat constructor, by simp [frE, vals]⟩
theorem apart_split (d r : List Fr) (e : Fr) (R : List Fr) : apartB (d ++ e :: r) R = (apartB d R && (R.all (fun y => decide (cmpQ e y < 0)) && apartB r R)) := by
  unfold apartB
  rw [List.all_append, List.all_cons]
structure ApS where
  d : List Fr
  r : List Fr
  X : List AObj
theorem gaApart_ok (l r : List Fr) (hl : l.length ≤ 1048576) (hr : r.length ≤ 1048576) : Ct Try.prog 164 [.sl false (l.map frE), .sl false (r.map frE)] [] (.bool (apartB l r)) [] := by
  refine Ct.by_ hmix [] Try.func164 rfl ?_
  simp only [run0, run1, run2, run3, run4, run5, run6, run7, run8, run9, run10, run11, run12, run13, run14, run15, run16, run17, run18, run19, run20, run21, run22, reduceCtorEq, Nat.reduceEqDiff, Nat.reduceAdd, Nat.reduceSub, Nat.reduceLeDiff, indexAddrA, indexRefA, appendA, strA, Nat.reduceMul, Nat.zero_mul, Nat.reduceMod, Int.reduceEq, Int.reduceLT, Int.reduceLE, Nat.reduceLT, Nat.lt_irrefl, Nat.reduceBEq, tys0, tys1, tys2, tys3, tys4, tys5, tys6, tys7, tys8, tys9, tys10, tys11, tys12, tys13, tys14, tys15, tys16, tys17, tys18, tys19, tys20, tys21, tys22, tys23, Try.ntmps164, Try.results164, List.length_map]
  refine AWp.loop_inv (ι := ApS) (fun q => ⟨[.junk, .sl false (r.map frE), .junk, .junk, .bool false, .junk, .junk, .junk, .junk, .sl false (l.map frE), .int .i64 l.length, .int .i64 q.d.length, .junk, .junk, .junk, .junk, .junk, .junk, .junk, .junk, .junk, .junk, .junk, .junk, .junk, .junk, .junk], q.X⟩)
    (fun q => l = q.d ++ q.r ∧ apartB q.d r = true) (fun q => q.r.length) ⟨[], l, []⟩ ⟨rfl, rfl⟩ ⟨by simp only [List.length_nil, Int.natCast_zero]; repeat constructor, rfl⟩ ?_
  rintro ⟨d, s, X⟩ ⟨ha, hd⟩
  refine W.sound hmix (E := []) ?_
  simp only at ha hd
  cases s with
  | nil =>
    have e1 := frs_end ha
    rw [List.append_nil] at ha
    subst ha
    simp only [run0, run1, run2, run3, run4, run5, run6, run7, run8, run9, run10, run11, run12, run13, run14, run15, run16, run17, run18, run19, run20, run21, run22, reduceCtorEq, Nat.reduceEqDiff, Nat.reduceAdd, Nat.reduceSub, Nat.reduceLeDiff, indexAddrA, indexRefA, appendA, strA, Nat.reduceMul, Nat.zero_mul, Nat.reduceMod, Int.reduceEq, Int.reduceLT, Int.reduceLE, Nat.reduceLT, Nat.lt_irrefl, Nat.reduceBEq, tys0, tys1, tys2, tys3, tys4, tys5, tys6, tys7, tys8, tys9, tys10, tys11, tys12, tys13, tys14, tys15, tys16, tys17, tys18, tys19, tys20, tys21, tys22, tys23, Try.ntmps164, Try.results164, e1]
    exact Fin.eq (by rw [hd]) rfl
  | cons e s =>
    obtain ⟨e1, e2, e5⟩ := frs_split ha hl
    simp only [run0, run1, run2, run3, run4, run5, run6, run7, run8, run9, run10, run11, run12, run13, run14, run15, run16, run17, run18, run19, run20, run21, run22, reduceCtorEq, Nat.reduceEqDiff, Nat.reduceAdd, Nat.reduceSub, Nat.reduceLeDiff, indexAddrA, indexRefA, appendA, strA, Nat.reduceMul, Nat.zero_mul, Nat.reduceMod, Int.reduceEq, Int.reduceLT, Int.reduceLE, Nat.reduceLT, Nat.lt_irrefl, Nat.reduceBEq, tys0, tys1, tys2, tys3, tys4, tys5, tys6, tys7, tys8, tys9, tys10, tys11, tys12, tys13, tys14, tys15, tys16, tys17, tys18, tys19, tys20, tys21, tys22, tys23, Try.ntmps164, Try.results164, e1, e2, List.length_map, Int.toNat_natCast, Int.natCast_nonneg]
    refine AWp.loop_inv (ι := ApS) (fun q => ⟨[.junk, .sl false (r.map frE), .junk, .junk, .bool false, .junk, .ptr X.length 0, .junk, .junk, .sl false (l.map frE), .int .i64 l.length, .int .i64 d.length, .junk, .junk, .junk, .sl false (r.map frE), .int .i64 r.length, .int .i64 q.d.length, .junk, .junk, .junk, .junk, .junk, .junk, .junk, .junk, .junk], q.X⟩)
      (fun q => r = q.d ++ q.r ∧ q.d.all (fun y => decide (cmpQ e y < 0)) = true ∧ q.X[X.length]? = some (.box 42 [.int .i64 e.1, .int .i64 e.2])) (fun q => q.r.length) ⟨[], r, X ++ [.box 42 [.int .i64 e.1, .int .i64 e.2]]⟩ ⟨rfl, rfl, by simp⟩ ⟨by simp only [List.length_nil, Int.natCast_zero]; repeat constructor, by first | rfl | simp⟩ ?_
    rintro ⟨d2, s2, Y⟩ ⟨hb, hd2, hY⟩
    refine W.sound hmix (E := []) ?_
    simp only at hb hd2 hY
    cases s2 with
    | nil =>
      have k1 := frs_end hb
      rw [List.append_nil] at hb
      subst hb
      simp only [run0, run1, run2, run3, run4, run5, run6, run7, run8, run9, run10, run11, run12, run13, run14, run15, run16, run17, run18, run19, run20, run21, run22, reduceCtorEq, Nat.reduceEqDiff, Nat.reduceAdd, Nat.reduceSub, Nat.reduceLeDiff, indexAddrA, indexRefA, appendA, strA, Nat.reduceMul, Nat.zero_mul, Nat.reduceMod, Int.reduceEq, Int.reduceLT, Int.reduceLE, Nat.reduceLT, Nat.lt_irrefl, Nat.reduceBEq, tys0, tys1, tys2, tys3, tys4, tys5, tys6, tys7, tys8, tys9, tys10, tys11, tys12, tys13, tys14, tys15, tys16, tys17, tys18, tys19, tys20, tys21, tys22, tys23, Try.ntmps164, Try.results164, k1, e5]
      exact ⟨⟨d ++ [e], s, Y⟩, ⟨by simp [ha], by rw [apart_split, hd, hd2]; rfl⟩, by simp, by simp only [List.length_append, List.length_cons, List.length_nil]; repeat constructor, rfl⟩
    | cons b s2 =>
      obtain ⟨k1, k2, k5⟩ := frs_split hb hr
      have hc := cmpQ_ok e b
      simp only [fr] at hc
      have hY2 : ∀ b, (Y ++ [b])[X.length]? = some (.box 42 [.int .i64 e.1, .int .i64 e.2]) := fun b => by
        rw [List.getElem?_append_left (List.getElem?_eq_some_iff.1 hY).1]; exact hY
      have hY3 : ∀ b, (Y ++ [b])[Y.length]? = some b := fun b => by rw [List.getElem?_append_right (Nat.le_refl _), Nat.sub_self]; rfl
      have hY4 : ∀ b c, (Y ++ [b]).set Y.length c = Y ++ [c] := fun b c => by rw [List.set_append_right _ _ (Nat.le_refl _), Nat.sub_self]; rfl
      simp only [run0, run1, run2, run3, run4, run5, run6, run7, run8, run9, run10, run11, run12, run13, run14, run15, run16, run17, run18, run19, run20, run21, run22, reduceCtorEq, Nat.reduceEqDiff, Nat.reduceAdd, Nat.reduceSub, Nat.reduceLeDiff, indexAddrA, indexRefA, appendA, strA, Nat.reduceMul, Nat.zero_mul, Nat.reduceMod, Int.reduceEq, Int.reduceLT, Int.reduceLE, Nat.reduceLT, Nat.lt_irrefl, Nat.reduceBEq, tys0, tys1, tys2, tys3, tys4, tys5, tys6, tys7, tys8, tys9, tys10, tys11, tys12, tys13, tys14, tys15, tys16, tys17, tys18, tys19, tys20, tys21, tys22, tys23, Try.ntmps164, Try.results164, k1, k2, hY2, hY3, hY4, List.length_map, Int.toNat_natCast, Int.natCast_nonneg]
      refine RunL.callp rfl rfl ok_f78 (hc) (by first | rfl | simp only [pureL, pureB, Bool.and_self, Bool.and_true, Bool.true_and]) rfl ?_
      by_cases hq : 0 ≤ cmpQ e b
      · simp only [run0, run1, run2, run3, run4, run5, run6, run7, run8, run9, run10, run11, run12, run13, run14, run15, run16, run17, run18, run19, run20, run21, run22, reduceCtorEq, Nat.reduceEqDiff, Nat.reduceAdd, Nat.reduceSub, Nat.reduceLeDiff, indexAddrA, indexRefA, appendA, strA, Nat.reduceMul, Nat.zero_mul, Nat.reduceMod, Int.reduceEq, Int.reduceLT, Int.reduceLE, Nat.reduceLT, Nat.lt_irrefl, Nat.reduceBEq, tys0, tys1, tys2, tys3, tys4, tys5, tys6, tys7, tys8, tys9, tys10, tys11, tys12, tys13, tys14, tys15, tys16, tys17, tys18, tys19, tys20, tys21, tys22, tys23, Try.ntmps164, Try.results164, hq]
        refine Fin.eq ?_ rfl
        have : apartB l r = false := by
          rw [ha, apart_split, hd, hb]
          simp only [List.all_append, List.all_cons]
          rw [show decide (cmpQ e b < 0) = false by simp; omega]
          simp
        rw [this]
      · simp only [run0, run1, run2, run3, run4, run5, run6, run7, run8, run9, run10, run11, run12, run13, run14, run15, run16, run17, run18, run19, run20, run21, run22, reduceCtorEq, Nat.reduceEqDiff, Nat.reduceAdd, Nat.reduceSub, Nat.reduceLeDiff, indexAddrA, indexRefA, appendA, strA, Nat.reduceMul, Nat.zero_mul, Nat.reduceMod, Int.reduceEq, Int.reduceLT, Int.reduceLE, Nat.reduceLT, Nat.lt_irrefl, Nat.reduceBEq, tys0, tys1, tys2, tys3, tys4, tys5, tys6, tys7, tys8, tys9, tys10, tys11, tys12, tys13, tys14, tys15, tys16, tys17, tys18, tys19, tys20, tys21, tys22, tys23, Try.ntmps164, Try.results164, hq, k5]
        exact ⟨⟨d2 ++ [b], s2, _⟩, ⟨by simp [hb], by rw [List.all_append, hd2]; simp; omega, hY2 _⟩, by simp, by simp only [List.length_append, List.length_cons, List.length_nil]; repeat constructor, rfl⟩

end Go.Proofs.Ytllcljajlemmaaa
/-
  Games that are numbers: the reference, what a position is worth.
-/
namespace Go.Proofs.Ytllcljajlemmaaa
open Go K
set_option linter.unusedSimpArgs false
set_option linter.unusedVariables false
set_option maxHeartbeats 1600000
set_option maxRecDepth 8000

theorem ints_one (l : List Int) : ((ints l).all fun z => z.cells.length == 1) = true := by
  refine List.all_eq_true.2 fun e he => ?_
  obtain ⟨w, _, rfl⟩ := List.mem_map.1 he; rfl
theorem ints_sh (k : Nat) (l : List Int) : (ints l).map (shA k) = ints l := by
  simp only [ints, List.map_map]
  exact List.map_congr_left fun x _ => rfl
theorem l1OwnI_ok (l : List Int) (hl : l.length ≤ 1048576) : Ct Try.prog 57 [.sl false (ints l)] [] (.ref 0 [] 1 l.length) [.vec 3 1 1 (ints l)] := by
  have f3 : l.length ≤ 137438953472 := by omega
  have f4 := ints_noOwn l
  refine Ct.by_ hmix [] Try.func57 rfl ?_
  have f5 := ints_one l
  simp only [run0, run1, run2, run3, run4, run5, run6, run7, run8, run9, run10, run11, run12, run13, run14, run15, run16, run17, run18, run19, run20, run21, run22, reduceCtorEq, Nat.reduceEqDiff, Nat.reduceAdd, Nat.reduceSub, Nat.reduceLeDiff, indexAddrA, indexRefA, appendA, strA, Nat.reduceMul, Nat.zero_mul, Nat.reduceMod, Int.reduceEq, Int.reduceLT, Int.reduceLE, Nat.reduceLT, Nat.lt_irrefl, Nat.reduceBEq, tys0, tys1, tys2, tys3, tys4, tys5, tys6, tys7, tys8, tys9, tys10, tys11, tys12, tys13, tys14, tys15, tys16, tys17, tys18, tys19, tys20, tys21, tys22, tys23, Try.ntmps57, Try.results57, ints_length, f3, f4, f5, Nat.zero_add, List.nil_append]
  exact Fin.own rfl rfl
theorem Vw_wts {L : List AObj} {id g n : Nat} {T : TypeId} {l : List Wt} {o : Bool} (hL : L[id]? = some (.vec T 4 g (l.map wtE))) (hn : n = l.length) : Vw L (.ref id [] g n) (.sl o (l.map wtE)) := by
  subst hn
  have := Vw.refPur (L := L) (id := id) (g := g) (n := l.length) (o := o) hL (by simp) (fun e he c hc => by
    obtain ⟨e', _, rfl⟩ := List.mem_map.1 he
    simp only [wtE, AV.cells, List.mem_cons, List.not_mem_nil, or_false] at hc
    rcases hc with rfl | rfl | rfl | rfl <;> exact ⟨.of rfl, fun xs h => by cases h⟩)
  rwa [List.take_of_length_le (by simp)] at this
theorem gaNumber_ok (p : GP) (ws : List Wt) (h1 : inW ws p.1) (h2 : inW ws p.2) (l1 : p.1.length ≤ 1000) (l2 : p.2.length ≤ 1000)
    (hF : ((p.1 ++ p.2).all fun x => (wAt ws x).told) = true → ((p.1 ++ p.2).all fun x => (wAt ws x).num) = true → (∀ a ∈ vals ws p.1, FB a) ∧ ∀ a ∈ vals ws p.2, FB a) :
    Ct Try.prog 137 [.agg [.sl false (ints p.1), .sl false (ints p.2)], .sl false (ws.map wtE)] [] (wtE (wS p ws)) [] := by
  have hW : ∀ i, isW (kindE [8000000, 2000000 + 57, 3000000 + 162]) i = false ∧ rowsAt (kindE [8000000, 2000000 + 57, 3000000 + 162]) i = false := fun i => ⟨by rw [isW_none i rfl]; rfl, by rw [rowsAt_E]; rfl⟩
  have hk := gaKnowing_ok ws (p.1 ++ p.2) (fun x hx => by rcases List.mem_append.1 hx with h | h; exact h1 x h; exact h2 x h) (by simp; omega)
  have hv1 := gaValues_ok ws p.1 h1 (by omega)
  have hv2 := gaValues_ok ws p.2 h2 (by omega)
  have ha := gaApart_ok (vals ws p.1) (vals ws p.2) (by simp [vals]; omega) (by simp [vals]; omega)
  have hs : (((p.1 ++ p.2).all fun x => (wAt ws x).told) = true → ((p.1 ++ p.2).all fun x => (wAt ws x).num) = true → _) := fun q1 q2 => shSimplest_ok (vals ws p.1) (vals ws p.2) (by simp [vals]; omega) (by simp [vals]; omega) (hF q1 q2).1 (hF q1 q2).2
  have pw := wts_pure ws
  have f3 : p.1.length + p.2.length ≤ 137438953472 := by omega
  have f4 := ints_noOwn p.1
  have f5 := ints_noOwn p.2
  unfold wS
  generalize (p.1 ++ p.2).all (fun x => (wAt ws x).told) = T at *
  generalize (p.1 ++ p.2).all (fun x => (wAt ws x).num) = N at *
  refine Ct.by_ hmix [ 8000000, 2000000 + 57, 3000000 + 162] Try.func137 rfl ?_
  simp only [run0, run1, run2, run3, run4, run5, run6, run7, run8, run9, run10, run11, run12, run13, run14, run15, run16, run17, run18, run19, run20, run21, run22, reduceCtorEq, Nat.reduceEqDiff, Nat.reduceAdd, Nat.reduceSub, Nat.reduceLeDiff, indexAddrA, indexRefA, appendA, strA, Nat.reduceMul, Nat.zero_mul, Nat.reduceMod, Int.reduceEq, Int.reduceLT, Int.reduceLE, Nat.reduceLT, Nat.lt_irrefl, Nat.reduceBEq, tys0, tys1, tys2, tys3, tys4, tys5, tys6, tys7, tys8, tys9, tys10, tys11, tys12, tys13, tys14, tys15, tys16, tys17, tys18, tys19, tys20, tys21, tys22, tys23, Try.ntmps137, Try.results137]
  refine ⟨[0, 1, 2, 4, 5, 3, 6, 7, 8, 9, 10, 11, 12], by kernel_rfl, ?_⟩
  simp only [run0, run1, run2, run3, run4, run5, run6, run7, run8, run9, run10, run11, run12, run13, run14, run15, run16, run17, run18, run19, run20, run21, run22, reduceCtorEq, Nat.reduceEqDiff, Nat.reduceAdd, Nat.reduceSub, Nat.reduceLeDiff, indexAddrA, indexRefA, appendA, strA, Nat.reduceMul, Nat.zero_mul, Nat.reduceMod, Int.reduceEq, Int.reduceLT, Int.reduceLE, Nat.reduceLT, Nat.lt_irrefl, Nat.reduceBEq, tys0, tys1, tys2, tys3, tys4, tys5, tys6, tys7, tys8, tys9, tys10, tys11, tys12, tys13, tys14, tys15, tys16, tys17, tys18, tys19, tys20, tys21, tys22, tys23, Try.ntmps137, Try.results137]
  refine RunL.callgp rfl rfl ok_f57 rfl (l1OwnI_ok p.1 (by omega)) (by simp only [pureL, pureB, ints_pure, Bool.and_self]) rfl ?_
  have f6 := ints_one p.2
  simp only [run0, run1, run2, run3, run4, run5, run6, run7, run8, run9, run10, run11, run12, run13, run14, run15, run16, run17, run18, run19, run20, run21, run22, reduceCtorEq, Nat.reduceEqDiff, Nat.reduceAdd, Nat.reduceSub, Nat.reduceLeDiff, indexAddrA, indexRefA, appendA, strA, Nat.reduceMul, Nat.zero_mul, Nat.reduceMod, Int.reduceEq, Int.reduceLT, Int.reduceLE, Nat.reduceLT, Nat.lt_irrefl, Nat.reduceBEq, tys0, tys1, tys2, tys3, tys4, tys5, tys6, tys7, tys8, tys9, tys10, tys11, tys12, tys13, tys14, tys15, tys16, tys17, tys18, tys19, tys20, tys21, tys22, tys23, Try.ntmps137, Try.results137, shR, sh1, shA, shO, ints_sh, List.map_cons, List.map_nil, List.append_assoc, List.cons_append, List.nil_append, ints_length, f3, f4, f5, f6, Nat.zero_add]
  refine RunL.lendB rfl rfl ok_f162 rfl hW hk rfl (fun X => .cons (.pur (.of (show pureB (.sl false (ws.map wtE)) = true by simp only [pureB, pw]))) (.cons (Vw_ints (id := 2) (g := 2) (n := p.1.length + p.2.length) (sz := 1) (T := 3) (es := ints p.1 ++ ints p.2) (a := p.1 ++ p.2) rfl (by simp [ints]) (by simp)) .nil)) rfl ?_
  simp only [run0, run1, run2, run3, run4, run5, run6, run7, run8, run9, run10, run11, run12, run13, run14, run15, run16, run17, run18, run19, run20, run21, run22, reduceCtorEq, Nat.reduceEqDiff, Nat.reduceAdd, Nat.reduceSub, Nat.reduceLeDiff, indexAddrA, indexRefA, appendA, strA, Nat.reduceMul, Nat.zero_mul, Nat.reduceMod, Int.reduceEq, Int.reduceLT, Int.reduceLE, Nat.reduceLT, Nat.lt_irrefl, Nat.reduceBEq, tys0, tys1, tys2, tys3, tys4, tys5, tys6, tys7, tys8, tys9, tys10, tys11, tys12, tys13, tys14, tys15, tys16, tys17, tys18, tys19, tys20, tys21, tys22, tys23, Try.ntmps137, Try.results137]
  refine ⟨[0, 1, 2, 3, 4, 5, 6, 7, 8, 9], by kernel_rfl, ?_⟩
  simp only [run0, run1, run2, run3, run4, run5, run6, run7, run8, run9, run10, run11, run12, run13, run14, run15, run16, run17, run18, run19, run20, run21, run22, reduceCtorEq, Nat.reduceEqDiff, Nat.reduceAdd, Nat.reduceSub, Nat.reduceLeDiff, indexAddrA, indexRefA, appendA, strA, Nat.reduceMul, Nat.zero_mul, Nat.reduceMod, Int.reduceEq, Int.reduceLT, Int.reduceLE, Nat.reduceLT, Nat.lt_irrefl, Nat.reduceBEq, tys0, tys1, tys2, tys3, tys4, tys5, tys6, tys7, tys8, tys9, tys10, tys11, tys12, tys13, tys14, tys15, tys16, tys17, tys18, tys19, tys20, tys21, tys22, tys23, Try.ntmps137, Try.results137]
  refine RunL.callp rfl rfl ok_f163 hv1 (by simp only [pureL, pureB, pw, ints_pure, Bool.and_self]) rfl ?_
  simp only [run0, run1, run2, run3, run4, run5, run6, run7, run8, run9, run10, run11, run12, run13, run14, run15, run16, run17, run18, run19, run20, run21, run22, reduceCtorEq, Nat.reduceEqDiff, Nat.reduceAdd, Nat.reduceSub, Nat.reduceLeDiff, indexAddrA, indexRefA, appendA, strA, Nat.reduceMul, Nat.zero_mul, Nat.reduceMod, Int.reduceEq, Int.reduceLT, Int.reduceLE, Nat.reduceLT, Nat.lt_irrefl, Nat.reduceBEq, tys0, tys1, tys2, tys3, tys4, tys5, tys6, tys7, tys8, tys9, tys10, tys11, tys12, tys13, tys14, tys15, tys16, tys17, tys18, tys19, tys20, tys21, tys22, tys23, Try.ntmps137, Try.results137]
  refine RunL.callp rfl rfl ok_f163 hv2 (by simp only [pureL, pureB, pw, ints_pure, Bool.and_self]) rfl ?_
  cases T
  · simp only [run0, run1, run2, run3, run4, run5, run6, run7, run8, run9, run10, run11, run12, run13, run14, run15, run16, run17, run18, run19, run20, run21, run22, reduceCtorEq, Nat.reduceEqDiff, Nat.reduceAdd, Nat.reduceSub, Nat.reduceLeDiff, indexAddrA, indexRefA, appendA, strA, Nat.reduceMul, Nat.zero_mul, Nat.reduceMod, Int.reduceEq, Int.reduceLT, Int.reduceLE, Nat.reduceLT, Nat.lt_irrefl, Nat.reduceBEq, tys0, tys1, tys2, tys3, tys4, tys5, tys6, tys7, tys8, tys9, tys10, tys11, tys12, tys13, tys14, tys15, tys16, tys17, tys18, tys19, tys20, tys21, tys22, tys23, Try.ntmps137, Try.results137]
    exact Fin.eq rfl rfl
  cases N
  · simp only [run0, run1, run2, run3, run4, run5, run6, run7, run8, run9, run10, run11, run12, run13, run14, run15, run16, run17, run18, run19, run20, run21, run22, reduceCtorEq, Nat.reduceEqDiff, Nat.reduceAdd, Nat.reduceSub, Nat.reduceLeDiff, indexAddrA, indexRefA, appendA, strA, Nat.reduceMul, Nat.zero_mul, Nat.reduceMod, Int.reduceEq, Int.reduceLT, Int.reduceLE, Nat.reduceLT, Nat.lt_irrefl, Nat.reduceBEq, tys0, tys1, tys2, tys3, tys4, tys5, tys6, tys7, tys8, tys9, tys10, tys11, tys12, tys13, tys14, tys15, tys16, tys17, tys18, tys19, tys20, tys21, tys22, tys23, Try.ntmps137, Try.results137]
    exact Fin.eq rfl rfl
  have pv1 := frs_pure (vals ws p.1)
  have pv2 := frs_pure (vals ws p.2)
  simp only [run0, run1, run2, run3, run4, run5, run6, run7, run8, run9, run10, run11, run12, run13, run14, run15, run16, run17, run18, run19, run20, run21, run22, reduceCtorEq, Nat.reduceEqDiff, Nat.reduceAdd, Nat.reduceSub, Nat.reduceLeDiff, indexAddrA, indexRefA, appendA, strA, Nat.reduceMul, Nat.zero_mul, Nat.reduceMod, Int.reduceEq, Int.reduceLT, Int.reduceLE, Nat.reduceLT, Nat.lt_irrefl, Nat.reduceBEq, tys0, tys1, tys2, tys3, tys4, tys5, tys6, tys7, tys8, tys9, tys10, tys11, tys12, tys13, tys14, tys15, tys16, tys17, tys18, tys19, tys20, tys21, tys22, tys23, Try.ntmps137, Try.results137]
  refine RunL.callp rfl rfl ok_f164 ha (by simp only [pureL, pureB, pv1, pv2, Bool.and_self]) rfl ?_
  cases hap : apartB (vals ws p.1) (vals ws p.2)
  · simp only [run0, run1, run2, run3, run4, run5, run6, run7, run8, run9, run10, run11, run12, run13, run14, run15, run16, run17, run18, run19, run20, run21, run22, reduceCtorEq, Nat.reduceEqDiff, Nat.reduceAdd, Nat.reduceSub, Nat.reduceLeDiff, indexAddrA, indexRefA, appendA, strA, Nat.reduceMul, Nat.zero_mul, Nat.reduceMod, Int.reduceEq, Int.reduceLT, Int.reduceLE, Nat.reduceLT, Nat.lt_irrefl, Nat.reduceBEq, tys0, tys1, tys2, tys3, tys4, tys5, tys6, tys7, tys8, tys9, tys10, tys11, tys12, tys13, tys14, tys15, tys16, tys17, tys18, tys19, tys20, tys21, tys22, tys23, Try.ntmps137, Try.results137]
    exact Fin.eq rfl rfl
  have hs := hs rfl rfl
  unfold simR at hs
  simp only [run0, run1, run2, run3, run4, run5, run6, run7, run8, run9, run10, run11, run12, run13, run14, run15, run16, run17, run18, run19, run20, run21, run22, reduceCtorEq, Nat.reduceEqDiff, Nat.reduceAdd, Nat.reduceSub, Nat.reduceLeDiff, indexAddrA, indexRefA, appendA, strA, Nat.reduceMul, Nat.zero_mul, Nat.reduceMod, Int.reduceEq, Int.reduceLT, Int.reduceLE, Nat.reduceLT, Nat.lt_irrefl, Nat.reduceBEq, tys0, tys1, tys2, tys3, tys4, tys5, tys6, tys7, tys8, tys9, tys10, tys11, tys12, tys13, tys14, tys15, tys16, tys17, tys18, tys19, tys20, tys21, tys22, tys23, Try.ntmps137, Try.results137]
  refine RunL.callp rfl rfl ok_f80 hs (by simp only [pureL, pureB, pv1, pv2, Bool.and_self]) rfl ?_
  cases hb : cutBad (vals ws p.1) (vals ws p.2)
  · simp only [run0, run1, run2, run3, run4, run5, run6, run7, run8, run9, run10, run11, run12, run13, run14, run15, run16, run17, run18, run19, run20, run21, run22, reduceCtorEq, Nat.reduceEqDiff, Nat.reduceAdd, Nat.reduceSub, Nat.reduceLeDiff, indexAddrA, indexRefA, appendA, strA, Nat.reduceMul, Nat.zero_mul, Nat.reduceMod, Int.reduceEq, Int.reduceLT, Int.reduceLE, Nat.reduceLT, Nat.lt_irrefl, Nat.reduceBEq, tys0, tys1, tys2, tys3, tys4, tys5, tys6, tys7, tys8, tys9, tys10, tys11, tys12, tys13, tys14, tys15, tys16, tys17, tys18, tys19, tys20, tys21, tys22, tys23, Try.ntmps137, Try.results137, frE]
    exact Fin.eq rfl rfl
  · simp only [run0, run1, run2, run3, run4, run5, run6, run7, run8, run9, run10, run11, run12, run13, run14, run15, run16, run17, run18, run19, run20, run21, run22, reduceCtorEq, Nat.reduceEqDiff, Nat.reduceAdd, Nat.reduceSub, Nat.reduceLeDiff, indexAddrA, indexRefA, appendA, strA, Nat.reduceMul, Nat.zero_mul, Nat.reduceMod, Int.reduceEq, Int.reduceLT, Int.reduceLE, Nat.reduceLT, Nat.lt_irrefl, Nat.reduceBEq, tys0, tys1, tys2, tys3, tys4, tys5, tys6, tys7, tys8, tys9, tys10, tys11, tys12, tys13, tys14, tys15, tys16, tys17, tys18, tys19, tys20, tys21, tys22, tys23, Try.ntmps137, Try.results137, frE]
    exact Fin.eq rfl rfl

end Go.Proofs.Ytllcljajlemmaaa
/-
  Games that are numbers: the reference's two answers.
-/
namespace Go.Proofs.Ytllcljajlemmaaa
open Go K
set_option linter.unusedSimpArgs false
set_option linter.unusedVariables false
set_option maxHeartbeats 1600000
set_option maxRecDepth 8000

theorem wsG_inW {g : List GP} (hg : GameOk g) (k : Nat) : inW (wsG g k) (lefts g k) ∧ inW (wsG g k) (rights g k) := by
  refine ⟨fun x hx => ?_, fun x hx => ?_⟩
  · rw [wsG_len]; exact lefts_lt hg hx
  · rw [wsG_len]; exact rights_lt hg hx
theorem wsG_FB {g : List GP} (hg : GameOk g) (k : Nat) {l : List Int} (hl : inW (wsG g k) l) (h : (l.all fun x => (wAt (wsG g k) x).num) = true) : ∀ a ∈ vals (wsG g k) l, FB a := fun a ha => by
  obtain ⟨x, hx, rfl⟩ := List.mem_map.1 ha
  have h1 := List.all_eq_true.1 h x hx
  have h2 := hl x hx
  rw [wsG_len] at h2
  rw [wAt_wsG g h2.1 h2.2] at h1 ⊢
  exact num_FB hg _ _ (Nat.lt_succ_self _) h1
theorem gaNumberG_ok {g : List GP} (hg : GameOk g) (hs : ∀ p ∈ g, p.1.length ≤ 40 ∧ p.2.length ≤ 40) (k : Nat) (hk : k < g.length) :
    Ct Try.prog 137 [.agg [.sl false (ints (lefts g k)), .sl false (ints (rights g k))], .sl false ((wsG g k).map wtE)] [] (wtE (wG g k)) [] := by
  have hm : g.getD k ([], []) ∈ g := by
    rw [List.getD_eq_getElem?_getD, List.getElem?_eq_getElem hk]; exact List.getElem_mem _
  have h1 := (hs _ hm).1
  have h2 := (hs _ hm).2
  have hi := wsG_inW hg k
  exact gaNumber_ok (lefts g k, rights g k) (wsG g k) hi.1 hi.2 (show (g.getD k ([], [])).1.length ≤ 1000 by omega) (show (g.getD k ([], [])).2.length ≤ 1000 by omega) (fun _ hN => by
    simp only [List.all_append, Bool.and_eq_true] at hN
    exact ⟨wsG_FB hg k hi.1 hN.1, wsG_FB hg k hi.2 hN.2⟩)
theorem gaWorthOf_ok {g : List GP} (hg : GameOk g) (hl : g.length ≤ 40) (hs : ∀ p ∈ g, p.1.length ≤ 40 ∧ p.2.length ≤ 40) (a : Nat) (ha : a < g.length) :
    Ct Try.prog 87 [.sl false (g.map posE), .int .i64 a] [] (wtE (wG g a)) [] := by
  have pg := posL_pure g
  refine Ct.by_ hmix [] Try.func87 rfl ?_
  simp only [run0, run1, run2, run3, run4, run5, run6, run7, run8, run9, run10, run11, run12, run13, run14, run15, run16, run17, run18, run19, run20, run21, run22, reduceCtorEq, Nat.reduceEqDiff, Nat.reduceAdd, Nat.reduceSub, Nat.reduceLeDiff, indexAddrA, indexRefA, appendA, strA, Nat.reduceMul, Nat.zero_mul, Nat.reduceMod, Int.reduceEq, Int.reduceLT, Int.reduceLE, Nat.reduceLT, Nat.lt_irrefl, Nat.reduceBEq, tys0, tys1, tys2, tys3, tys4, tys5, tys6, tys7, tys8, tys9, tys10, tys11, tys12, tys13, tys14, tys15, tys16, tys17, tys18, tys19, tys20, tys21, tys22, tys23, Try.ntmps87, Try.results87]
  refine AWp.nil 5 107 4 rfl ?_
  refine AWp.loop_inv (ι := Nat) (fun k => ⟨[.sl false (g.map posE), .int .i64 a, .junk, .junk, .ptr 0 0, .ref 1 [] k k, .int .i64 k, .junk, .junk, .junk, .junk, .junk, .junk, .junk, .junk, .junk, .junk, .junk, .junk, .junk, .junk, .junk, .junk, .junk, .junk], [.box 107 [.bool false, .bool false, .int .i64 0, .int .i64 0], .vec 107 4 k ((wsG g k).map wtE)]⟩)
    (fun k => k ≤ a + 1) (fun k => a + 1 - k) 0 (Nat.zero_le _) ⟨by simp only [Int.natCast_zero]; repeat constructor, rfl⟩ ?_
  intro k hk
  refine W.sound hmix (E := []) ?_
  by_cases hka : k ≤ a
  · have e1 : (k : Int) ≤ (a : Int) := by omega
    have e2 : (k : Int) < (g.length : Int) := by omega
    have e3 := pos_at (g := g) (a := k) (by omega)
    have e5 : IntKind.i64.wrap ((k : Int) + 1) = ((k + 1 : Nat) : Int) := by rw [i64_id (by omega) (by omega)]; simp
    have f3 : k + 1 ≤ 137438953472 := by omega
    have f4 := wts_noOwn (wsG g k)
    have f5 := wsG_len g k
    simp only [run0, run1, run2, run3, run4, run5, run6, run7, run8, run9, run10, run11, run12, run13, run14, run15, run16, run17, run18, run19, run20, run21, run22, reduceCtorEq, Nat.reduceEqDiff, Nat.reduceAdd, Nat.reduceSub, Nat.reduceLeDiff, indexAddrA, indexRefA, appendA, strA, Nat.reduceMul, Nat.zero_mul, Nat.reduceMod, Int.reduceEq, Int.reduceLT, Int.reduceLE, Nat.reduceLT, Nat.lt_irrefl, Nat.reduceBEq, tys0, tys1, tys2, tys3, tys4, tys5, tys6, tys7, tys8, tys9, tys10, tys11, tys12, tys13, tys14, tys15, tys16, tys17, tys18, tys19, tys20, tys21, tys22, tys23, Try.ntmps87, Try.results87, e1, e2, e3, List.length_map, Int.toNat_natCast, Int.natCast_nonneg]
    refine RunL.lendV (ys := [.agg [.sl false (ints (lefts g k)), .sl false (ints (rights g k))], .sl false ((wsG g k).map wtE)]) rfl rfl ok_f137 rfl (gaNumberG_ok hg hs k (by omega)) (.cons (.pur (.of (by simp only [pureB, pureL, ints_pure, Bool.and_self]))) (.cons (Vw_wts (T := 107) rfl (by rw [f5])) .nil)) rfl rfl ?_
    simp only [run0, run1, run2, run3, run4, run5, run6, run7, run8, run9, run10, run11, run12, run13, run14, run15, run16, run17, run18, run19, run20, run21, run22, reduceCtorEq, Nat.reduceEqDiff, Nat.reduceAdd, Nat.reduceSub, Nat.reduceLeDiff, indexAddrA, indexRefA, appendA, strA, Nat.reduceMul, Nat.zero_mul, Nat.reduceMod, Int.reduceEq, Int.reduceLT, Int.reduceLE, Nat.reduceLT, Nat.lt_irrefl, Nat.reduceBEq, tys0, tys1, tys2, tys3, tys4, tys5, tys6, tys7, tys8, tys9, tys10, tys11, tys12, tys13, tys14, tys15, tys16, tys17, tys18, tys19, tys20, tys21, tys22, tys23, Try.ntmps87, Try.results87, wtE, e5, f3, f4, f5, List.length_map, Int.toNat_natCast, Int.natCast_nonneg]
    have e6 : (wsG g (k + 1)).map wtE = (wsG g k).map wtE ++ [.agg [.bool (wG g k).num, .bool (wG g k).told, .int .i64 (wG g k).val.1, .int .i64 (wG g k).val.2]] := by simp [wsG, wG, wtE]
    exact ⟨k + 1, by omega, by omega, by repeat constructor, by rw [e6]⟩
  · obtain rfl : k = a + 1 := by omega
    have e1 : ¬ (((a + 1 : Nat) : Int) ≤ (a : Int)) := by omega
    have e2 : ((wsG g (a + 1)).map wtE)[a]? = some (.agg [.bool (wG g a).num, .bool (wG g a).told, .int .i64 (wG g a).val.1, .int .i64 (wG g a).val.2]) := by
      rw [List.getElem?_map, wsG_get g (a + 1) a (by omega)]; rfl
    have e3 : (a : Int) < ((a + 1 : Nat) : Int) := by omega
    have f4 := wts_noOwn (wsG g (a + 1))
    have f5 := wsG_len g (a + 1)
    simp only [run0, run1, run2, run3, run4, run5, run6, run7, run8, run9, run10, run11, run12, run13, run14, run15, run16, run17, run18, run19, run20, run21, run22, reduceCtorEq, Nat.reduceEqDiff, Nat.reduceAdd, Nat.reduceSub, Nat.reduceLeDiff, indexAddrA, indexRefA, appendA, strA, Nat.reduceMul, Nat.zero_mul, Nat.reduceMod, Int.reduceEq, Int.reduceLT, Int.reduceLE, Nat.reduceLT, Nat.lt_irrefl, Nat.reduceBEq, tys0, tys1, tys2, tys3, tys4, tys5, tys6, tys7, tys8, tys9, tys10, tys11, tys12, tys13, tys14, tys15, tys16, tys17, tys18, tys19, tys20, tys21, tys22, tys23, Try.ntmps87, Try.results87, e1, e2, e3, f4, f5, List.length_map, List.mapIdx_cons, List.mapIdx_nil, viewC, Int.toNat_natCast, Int.natCast_nonneg]
    exact Fin.eq rfl rfl

/-! ### the two answers -/
def isNumR (g : List GP) (a : Int) : AV := if hasB g a && (wG g a.toNat).told then .tup [.bool (wG g a.toNat).num, .bool true] else .tup [.bool false, .bool false]
def numR (g : List GP) (a : Int) : AV := if hasB g a && (wG g a.toNat).num then .tup [.agg [.int .i64 (wG g a.toNat).val.1, .int .i64 (wG g a.toNat).val.2], .bool true] else .tup [.agg [.int .i64 0, .int .i64 0], .bool false]
theorem specIsNum_ok (g : List GP) (a : Int) (hl : g.length ≤ 1048576) (hs : ∀ p ∈ g, smallP p) : Ct Try.prog 41 [.sl false (g.map posE), .int .i64 a] [] (isNumR g a) [] := by
  have pg := posL_pure g
  unfold isNumR
  refine Ct.by_ hmix [] Try.func41 rfl ?_
  simp only [run0, run1, run2, run3, run4, run5, run6, run7, run8, run9, run10, run11, run12, run13, run14, run15, run16, run17, run18, run19, run20, run21, run22, reduceCtorEq, Nat.reduceEqDiff, Nat.reduceAdd, Nat.reduceSub, Nat.reduceLeDiff, indexAddrA, indexRefA, appendA, strA, Nat.reduceMul, Nat.zero_mul, Nat.reduceMod, Int.reduceEq, Int.reduceLT, Int.reduceLE, Nat.reduceLT, Nat.lt_irrefl, Nat.reduceBEq, tys0, tys1, tys2, tys3, tys4, tys5, tys6, tys7, tys8, tys9, tys10, tys11, tys12, tys13, tys14, tys15, tys16, tys17, tys18, tys19, tys20, tys21, tys22, tys23, Try.ntmps41, Try.results41]
  refine RunL.callp rfl rfl ok_f63 (gaHas_ok g a hl hs) (by simp only [pureL, pureB, pg, Bool.and_self]) rfl ?_
  cases h1 : hasB g a
  · simp only [run0, run1, run2, run3, run4, run5, run6, run7, run8, run9, run10, run11, run12, run13, run14, run15, run16, run17, run18, run19, run20, run21, run22, reduceCtorEq, Nat.reduceEqDiff, Nat.reduceAdd, Nat.reduceSub, Nat.reduceLeDiff, indexAddrA, indexRefA, appendA, strA, Nat.reduceMul, Nat.zero_mul, Nat.reduceMod, Int.reduceEq, Int.reduceLT, Int.reduceLE, Nat.reduceLT, Nat.lt_irrefl, Nat.reduceBEq, tys0, tys1, tys2, tys3, tys4, tys5, tys6, tys7, tys8, tys9, tys10, tys11, tys12, tys13, tys14, tys15, tys16, tys17, tys18, tys19, tys20, tys21, tys22, tys23, Try.ntmps41, Try.results41]
    exact Fin.eq rfl rfl
  obtain ⟨hgb, a, rfl, ha⟩ := hasB_ok h1
  have hg := gameB_ok hgb
  have hw := gaWorthOf_ok hg.1 hg.2.2.1 hg.2.2.2 a ha
  unfold wtE at hw
  simp only [run0, run1, run2, run3, run4, run5, run6, run7, run8, run9, run10, run11, run12, run13, run14, run15, run16, run17, run18, run19, run20, run21, run22, reduceCtorEq, Nat.reduceEqDiff, Nat.reduceAdd, Nat.reduceSub, Nat.reduceLeDiff, indexAddrA, indexRefA, appendA, strA, Nat.reduceMul, Nat.zero_mul, Nat.reduceMod, Int.reduceEq, Int.reduceLT, Int.reduceLE, Nat.reduceLT, Nat.lt_irrefl, Nat.reduceBEq, tys0, tys1, tys2, tys3, tys4, tys5, tys6, tys7, tys8, tys9, tys10, tys11, tys12, tys13, tys14, tys15, tys16, tys17, tys18, tys19, tys20, tys21, tys22, tys23, Try.ntmps41, Try.results41]
  refine RunL.callp rfl rfl ok_f87 hw (by simp only [pureL, pureB, pg, Bool.and_self]) rfl ?_
  rw [Int.toNat_natCast]
  cases h2 : (wG g a).told
  · simp only [run0, run1, run2, run3, run4, run5, run6, run7, run8, run9, run10, run11, run12, run13, run14, run15, run16, run17, run18, run19, run20, run21, run22, reduceCtorEq, Nat.reduceEqDiff, Nat.reduceAdd, Nat.reduceSub, Nat.reduceLeDiff, indexAddrA, indexRefA, appendA, strA, Nat.reduceMul, Nat.zero_mul, Nat.reduceMod, Int.reduceEq, Int.reduceLT, Int.reduceLE, Nat.reduceLT, Nat.lt_irrefl, Nat.reduceBEq, tys0, tys1, tys2, tys3, tys4, tys5, tys6, tys7, tys8, tys9, tys10, tys11, tys12, tys13, tys14, tys15, tys16, tys17, tys18, tys19, tys20, tys21, tys22, tys23, Try.ntmps41, Try.results41]
    exact Fin.eq rfl rfl
  rw [h2] at hw
  simp only [run0, run1, run2, run3, run4, run5, run6, run7, run8, run9, run10, run11, run12, run13, run14, run15, run16, run17, run18, run19, run20, run21, run22, reduceCtorEq, Nat.reduceEqDiff, Nat.reduceAdd, Nat.reduceSub, Nat.reduceLeDiff, indexAddrA, indexRefA, appendA, strA, Nat.reduceMul, Nat.zero_mul, Nat.reduceMod, Int.reduceEq, Int.reduceLT, Int.reduceLE, Nat.reduceLT, Nat.lt_irrefl, Nat.reduceBEq, tys0, tys1, tys2, tys3, tys4, tys5, tys6, tys7, tys8, tys9, tys10, tys11, tys12, tys13, tys14, tys15, tys16, tys17, tys18, tys19, tys20, tys21, tys22, tys23, Try.ntmps41, Try.results41]
  refine RunL.callp rfl rfl ok_f87 hw (by simp only [pureL, pureB, pg, Bool.and_self]) rfl ?_
  simp only [run0, run1, run2, run3, run4, run5, run6, run7, run8, run9, run10, run11, run12, run13, run14, run15, run16, run17, run18, run19, run20, run21, run22, reduceCtorEq, Nat.reduceEqDiff, Nat.reduceAdd, Nat.reduceSub, Nat.reduceLeDiff, indexAddrA, indexRefA, appendA, strA, Nat.reduceMul, Nat.zero_mul, Nat.reduceMod, Int.reduceEq, Int.reduceLT, Int.reduceLE, Nat.reduceLT, Nat.lt_irrefl, Nat.reduceBEq, tys0, tys1, tys2, tys3, tys4, tys5, tys6, tys7, tys8, tys9, tys10, tys11, tys12, tys13, tys14, tys15, tys16, tys17, tys18, tys19, tys20, tys21, tys22, tys23, Try.ntmps41, Try.results41]
  exact Fin.eq rfl rfl
theorem specNum_ok (g : List GP) (a : Int) (hl : g.length ≤ 1048576) (hs : ∀ p ∈ g, smallP p) : Ct Try.prog 43 [.sl false (g.map posE), .int .i64 a] [] (numR g a) [] := by
  have pg := posL_pure g
  unfold numR
  refine Ct.by_ hmix [] Try.func43 rfl ?_
  simp only [run0, run1, run2, run3, run4, run5, run6, run7, run8, run9, run10, run11, run12, run13, run14, run15, run16, run17, run18, run19, run20, run21, run22, reduceCtorEq, Nat.reduceEqDiff, Nat.reduceAdd, Nat.reduceSub, Nat.reduceLeDiff, indexAddrA, indexRefA, appendA, strA, Nat.reduceMul, Nat.zero_mul, Nat.reduceMod, Int.reduceEq, Int.reduceLT, Int.reduceLE, Nat.reduceLT, Nat.lt_irrefl, Nat.reduceBEq, tys0, tys1, tys2, tys3, tys4, tys5, tys6, tys7, tys8, tys9, tys10, tys11, tys12, tys13, tys14, tys15, tys16, tys17, tys18, tys19, tys20, tys21, tys22, tys23, Try.ntmps43, Try.results43]
  refine RunL.callp rfl rfl ok_f63 (gaHas_ok g a hl hs) (by simp only [pureL, pureB, pg, Bool.and_self]) rfl ?_
  cases h1 : hasB g a
  · simp only [run0, run1, run2, run3, run4, run5, run6, run7, run8, run9, run10, run11, run12, run13, run14, run15, run16, run17, run18, run19, run20, run21, run22, reduceCtorEq, Nat.reduceEqDiff, Nat.reduceAdd, Nat.reduceSub, Nat.reduceLeDiff, indexAddrA, indexRefA, appendA, strA, Nat.reduceMul, Nat.zero_mul, Nat.reduceMod, Int.reduceEq, Int.reduceLT, Int.reduceLE, Nat.reduceLT, Nat.lt_irrefl, Nat.reduceBEq, tys0, tys1, tys2, tys3, tys4, tys5, tys6, tys7, tys8, tys9, tys10, tys11, tys12, tys13, tys14, tys15, tys16, tys17, tys18, tys19, tys20, tys21, tys22, tys23, Try.ntmps43, Try.results43]
    exact Fin.eq rfl rfl
  obtain ⟨hgb, a, rfl, ha⟩ := hasB_ok h1
  have hg := gameB_ok hgb
  have hw := gaWorthOf_ok hg.1 hg.2.2.1 hg.2.2.2 a ha
  unfold wtE at hw
  simp only [run0, run1, run2, run3, run4, run5, run6, run7, run8, run9, run10, run11, run12, run13, run14, run15, run16, run17, run18, run19, run20, run21, run22, reduceCtorEq, Nat.reduceEqDiff, Nat.reduceAdd, Nat.reduceSub, Nat.reduceLeDiff, indexAddrA, indexRefA, appendA, strA, Nat.reduceMul, Nat.zero_mul, Nat.reduceMod, Int.reduceEq, Int.reduceLT, Int.reduceLE, Nat.reduceLT, Nat.lt_irrefl, Nat.reduceBEq, tys0, tys1, tys2, tys3, tys4, tys5, tys6, tys7, tys8, tys9, tys10, tys11, tys12, tys13, tys14, tys15, tys16, tys17, tys18, tys19, tys20, tys21, tys22, tys23, Try.ntmps43, Try.results43]
  refine RunL.callp rfl rfl ok_f87 hw (by simp only [pureL, pureB, pg, Bool.and_self]) rfl ?_
  rw [Int.toNat_natCast]
  cases h2 : (wG g a).num
  · simp only [run0, run1, run2, run3, run4, run5, run6, run7, run8, run9, run10, run11, run12, run13, run14, run15, run16, run17, run18, run19, run20, run21, run22, reduceCtorEq, Nat.reduceEqDiff, Nat.reduceAdd, Nat.reduceSub, Nat.reduceLeDiff, indexAddrA, indexRefA, appendA, strA, Nat.reduceMul, Nat.zero_mul, Nat.reduceMod, Int.reduceEq, Int.reduceLT, Int.reduceLE, Nat.reduceLT, Nat.lt_irrefl, Nat.reduceBEq, tys0, tys1, tys2, tys3, tys4, tys5, tys6, tys7, tys8, tys9, tys10, tys11, tys12, tys13, tys14, tys15, tys16, tys17, tys18, tys19, tys20, tys21, tys22, tys23, Try.ntmps43, Try.results43]
    exact Fin.eq rfl rfl
  rw [h2] at hw
  simp only [run0, run1, run2, run3, run4, run5, run6, run7, run8, run9, run10, run11, run12, run13, run14, run15, run16, run17, run18, run19, run20, run21, run22, reduceCtorEq, Nat.reduceEqDiff, Nat.reduceAdd, Nat.reduceSub, Nat.reduceLeDiff, indexAddrA, indexRefA, appendA, strA, Nat.reduceMul, Nat.zero_mul, Nat.reduceMod, Int.reduceEq, Int.reduceLT, Int.reduceLE, Nat.reduceLT, Nat.lt_irrefl, Nat.reduceBEq, tys0, tys1, tys2, tys3, tys4, tys5, tys6, tys7, tys8, tys9, tys10, tys11, tys12, tys13, tys14, tys15, tys16, tys17, tys18, tys19, tys20, tys21, tys22, tys23, Try.ntmps43, Try.results43]
  refine RunL.callp rfl rfl ok_f87 hw (by simp only [pureL, pureB, pg, Bool.and_self]) rfl ?_
  simp only [run0, run1, run2, run3, run4, run5, run6, run7, run8, run9, run10, run11, run12, run13, run14, run15, run16, run17, run18, run19, run20, run21, run22, reduceCtorEq, Nat.reduceEqDiff, Nat.reduceAdd, Nat.reduceSub, Nat.reduceLeDiff, indexAddrA, indexRefA, appendA, strA, Nat.reduceMul, Nat.zero_mul, Nat.reduceMod, Int.reduceEq, Int.reduceLT, Int.reduceLE, Nat.reduceLT, Nat.lt_irrefl, Nat.reduceBEq, tys0, tys1, tys2, tys3, tys4, tys5, tys6, tys7, tys8, tys9, tys10, tys11, tys12, tys13, tys14, tys15, tys16, tys17, tys18, tys19, tys20, tys21, tys22, tys23, Try.ntmps43, Try.results43]
  exact Fin.eq rfl rfl

end Go.Proofs.Ytllcljajlemmaaa
/-
  An address of an array's element: the array lies in a variable of the call's own.
-/
namespace Go.Proofs.Ytllcljajlemmaaa.K
open Go Go.RowKit
set_option maxRecDepth 8000

theorem run_indexArr {P : Program} {t e : TypeId} {len : Nat} (w : World) (ht : P.underlying t = some (.array len e)) (hi : (P.info? e).isSome = true) (k : IntKind) (i : Int) (b off : Nat)
    (h0 : 0 ≤ i) (h1 : i < (len : Int)) :
    (Instr.indexAt t (.pointer (some ⟨b, off, none⟩)) (.int k i)).run P w = .ok (.pointer (some ⟨b, off + i.toNat * P.cellsOf e, none⟩)) w := by
  have hadd : (⟨b, off, none⟩ : Addr).add (i.toNat * P.cellsOf e) = ⟨b, off + i.toNat * P.cellsOf e, none⟩ := by unfold Addr.add; split <;> simp_all
  simp [Instr.indexAt, asIntOf, run_underlying ht, Instr.sureAddr, h0, h1, run_sizeOf w hi, hadd]
theorem indexArr_sound {P : Program} {o : Oper} {s : St} {t e : TypeId} {x i : Operand} {id off len : Nat} {ik : IntKind} {n : Int} (ho : o.op = .indexAddr t x i) (hx : s.ev x = .ptr id off) (hi : s.ev i = .int ik n)
    (ht : P.underlying t = some (.array len e)) (hsz : (P.info? e).isSome = true) (h0 : 0 ≤ n) (h1 : n < (len : Int)) : OpS P o s (s.put o.dst (.ptr id (off + n.toNat * P.cellsOf e))) := by
  refine OpS.pure fun γ a w hr => ?_
  have e1 := hr.ev x
  have e2 := hr.ev i
  rw [hx] at e1
  rw [hi] at e2
  unfold execOp
  rw [ho]
  generalize hu : a.eval x = u at e1
  generalize hv : a.eval i = v at e2
  cases e1 with
  | ptr _ _ b c T cs hL hb =>
    cases e2
    have := run_indexArr (P := P) w ht hsz ik n b off h0 h1
    exact ⟨_, by simp [hu, hv, this], .ptr _ _ _ _ _ _ hL hb⟩
/-- The address of an element of an own array. -/
theorem RunL.indexArr {P : Program} {k : Oper → Knd} {ops : Array Oper} {K : St → Prop} {o : Oper} {rest : List Oper} {s : St} {t e : TypeId} {x i : Operand} {id off len : Nat} {ik : IntKind} {n : Int}
    (hg : guardA ops s o = some true) (ho : o.op = .indexAddr t x i) (ht : P.underlying t = some (.array len e)) (hx : s.ev x = .ptr id off) (hi : s.ev i = .int ik n) (hsz : (P.info? e).isSome = true) (h0 : 0 ≤ n) (h1 : n < (len : Int))
    (h : R P k ops rest (s.put o.dst (.ptr id (off + n.toNat * P.cellsOf e))) K) : RunL P k ops (o :: rest) s K := by
  refine .op ⟨.A, .ptr id (off + n.toNat * P.cellsOf e), []⟩ rfl ⟨⟨fun _ h => (by cases h), fun h => (by cases h)⟩, fun s1 ha _ => ⟨by rw [agree_guard ha]; exact hg, ?_⟩⟩ (R.sound h)
  exact indexArr_sound ho (by rw [agree_ev ha (by rw [ho]; simp [Op.operands])]; exact hx) (by rw [agree_ev ha (by rw [ho]; simp [Op.operands])]; exact hi) ht hsz h0 h1
/-- A load that may look at a variable that results go to. -/
theorem RunL.loadX {P : Program} {k : Oper → Knd} {ops : Array Oper} {K : St → Prop} {o : Oper} {rest : List Oper} {s : St} {x : AV} (hg : guardA ops s o = some true) (hk : k o = .D) (hx : pureA P s o.op = some x)
    (h : R P k ops rest (s.put o.dst x) K) : RunL P k ops (o :: rest) s K := .loadD hg hk hx (R.sound h)

end Go.Proofs.Ytllcljajlemmaaa.K
/-
  Games that are numbers: the program, what positions are worth.
-/
namespace Go.Proofs.Ytllcljajlemmaaa
open Go K
set_option linter.unusedSimpArgs false
set_option linter.unusedVariables false
set_option maxHeartbeats 3200000
set_option maxRecDepth 8000

def woE (w : Wo) : AV := .agg [.bool w.num, .bool w.lost, .int .i64 w.val.1, .int .i64 w.val.2]
theorem wos_noOwn (l : List Wo) : noOwn (l.map woE) = true := by
  refine List.all_eq_true.2 fun e he => ?_
  obtain ⟨w, _, rfl⟩ := List.mem_map.1 he; rfl
theorem wo_get {ws : List Wo} {x : Int} (h : 0 ≤ x ∧ x < (ws.length : Int)) : (ws.map woE)[x.toNat]? = some (.agg [.bool (iAt ws x).num, .bool (iAt ws x).lost, .int .i64 (iAt ws x).val.1, .int .i64 (iAt ws x).val.2]) := by
  have h2 : x.toNat < ws.length := by omega
  unfold iAt
  rw [List.getD_eq_getElem?_getD, List.getElem?_map, List.getElem?_eq_getElem h2]
  rfl
theorem setXn {α : Type} (X ys : List α) (n : Nat) (y : α) : (X ++ ys).set (X.length + n) y = X ++ ys.set n y := by
  rw [List.set_append_right _ _ (by omega)]; congr 2; omega
def wsT (pre : List AObj) (L R : List Int) (n l : Bool) (dl dr : List Fr) : List AObj :=
  [.box 70 [.sl false (ints L), .sl false (ints R)], .box 110 [.bool n, .bool l, .int .i64 0, .int .i64 0], .box 154 [.ref (pre.length + 3) [] dl.length dl.length, .ref (pre.length + 4) [] dr.length dr.length],
    .vec 42 2 dl.length (dl.map frE), .vec 42 2 dr.length (dr.map frE)]
structure WoS where
  k : Nat
  pre : List AObj
  m : Memo
structure WoI (g : List GP) (p : WoS) : Prop where
  k : p.k ≤ g.length
  out : p.pre[0]? = some (.vec 110 4 p.k ((wiG g p.k).map woE))
  mem : p.pre[1]? = some (memO p.m)
  judge : p.pre[2]? = some (.box 126 [.sl false (g.map posE), .map 1])
  ok : MemOk g p.m
theorem Vw_wos {L : List AObj} {id g n : Nat} {T : TypeId} {l : List Wo} {o : Bool} (hL : L[id]? = some (.vec T 4 g (l.map woE))) (hn : n = l.length) : Vw L (.ref id [] g n) (.sl o (l.map woE)) := by
  subst hn
  have := Vw.refPur (L := L) (id := id) (g := g) (n := l.length) (o := o) hL (by simp) (fun e he c hc => by
    obtain ⟨e', _, rfl⟩ := List.mem_map.1 he
    simp only [woE, AV.cells, List.mem_cons, List.not_mem_nil, or_false] at hc
    rcases hc with rfl | rfl | rfl | rfl <;> exact ⟨.of rfl, fun xs h => by cases h⟩)
  rwa [List.take_of_length_le (by simp)] at this
def numA (ws : List Wo) (l : List Int) : Bool := l.all fun x => (iAt ws x).num
def lostA (ws : List Wo) (l : List Int) : Bool := l.any fun x => (iAt ws x).lost
theorem ix0 (l r : List Int) : indexA Try.prog 155 (.agg [.sl false (ints l), .sl false (ints r)]) (.int .i64 0) = some (.sl false (ints l)) := by kernel_rfl
theorem ix1 (l r : List Int) : indexA Try.prog 155 (.agg [.sl false (ints l), .sl false (ints r)]) (.int .i64 1) = some (.sl false (ints r)) := by kernel_rfl
theorem und154 : Try.prog.underlying 154 = some (.array 2 50) := by kernel_rfl
theorem set_same {α : Type} {L : List α} {i : Nat} {a : α} (h : L[i]? = some a) : L.set i a = L := by
  obtain ⟨hl, e⟩ := List.getElem?_eq_some_iff.1 h
  rw [← e]; exact List.set_getElem_self hl
def JM (pre : List AObj) (P S V0 V1 w : AObj) (s : JS) : List AObj := jsL (pre ++ [P, w, S, V0, V1]) 1 s
section
variable (pre : List AObj) (P S V0 V1 : AObj)
theorem JM_P (h : 3 ≤ pre.length) (w : AObj) (s : JS) : (JM pre P S V0 V1 w s)[pre.length]? = some P := jsL_old (by simp) (by omega)
theorem JM_W (h : 3 ≤ pre.length) (w : AObj) (s : JS) : (JM pre P S V0 V1 w s)[pre.length + 1]? = some w := jsL_old (by simp) (by omega)
theorem JM_S (h : 3 ≤ pre.length) (w : AObj) (s : JS) : (JM pre P S V0 V1 w s)[pre.length + 2]? = some S := jsL_old (by simp) (by omega)
theorem JM_V (h : 3 ≤ pre.length) (w : AObj) (s : JS) : (JM pre P S V0 V1 w s)[pre.length + 3]? = some V0 ∧ (JM pre P S V0 V1 w s)[pre.length + 4]? = some V1 := ⟨jsL_old (by simp) (by omega), jsL_old (by simp) (by omega)⟩
theorem JM_set (h : 3 ≤ pre.length) (w w' : AObj) (s : JS) : (JM pre P S V0 V1 w s).set (pre.length + 1) w' = JM pre P S V0 V1 w' s := by
  unfold JM jsL
  rw [List.set_append_left _ _ (by simp), List.set_comm _ _ (by omega), setXn]
  rfl
theorem JM_at {g : List GP} (hg : GameOk g) (hl : g.length ≤ 1048576) (h : 3 ≤ pre.length) (hj : pre[2]? = some (.box 126 [.sl false (g.map posE), .map 1])) (w : AObj) (f a b : Nat) (s : JS) (ha : a < g.length) (hb : b < g.length) (hf : a + b < f) (hm : MemOk g s.1) :
    Ct Try.prog 115 [.ptr 2 0, .int .i64 a, .int .i64 b] (JM pre P S V0 V1 w s) (.bool (atM g f s a b).1) (JM pre P S V0 V1 w (atM g f s a b).2) :=
  atMost_ok g hg hl f a b ha hb hf _ 2 1 s (by rw [List.getElem?_append_left (by omega)]; exact hj) (by simp only [List.length_append, List.length_cons, List.length_nil]; omega) (by omega) hm
theorem JM_out (h : 3 ≤ pre.length) {o : AObj} (ho : pre[0]? = some o) (w : AObj) (s : JS) : (JM pre P S V0 V1 w s)[0]? = some o := jsL_old (by rw [List.getElem?_append_left (by omega)]; exact ho) (by omega)
theorem JM_start (h : 3 ≤ pre.length) {m : Memo} (hm : pre[1]? = some (memO m)) (w : AObj) : pre ++ [P, w, S, V0, V1] = JM pre P S V0 V1 w (m, []) := by
  unfold JM jsL
  rw [List.append_nil, set_same]
  rw [List.getElem?_append_left (by omega)]; exact hm
theorem JM_mem (h : 3 ≤ pre.length) {o : AObj} (ho : pre[2]? = some o) (w : AObj) (s : JS) : (JM pre P S V0 V1 w s)[1]? = some (memO s.1) ∧ (JM pre P S V0 V1 w s)[2]? = some o ∧ 0 < (JM pre P S V0 V1 w s).length :=
  ⟨jsL_map (by simp only [List.length_append, List.length_cons, List.length_nil]; omega), jsL_old (by rw [List.getElem?_append_left (by omega)]; exact ho) (by omega), by unfold JM; rw [jsL_len]; simp only [List.length_append, List.length_cons, List.length_nil]; omega⟩
end
structure PrS where
  d : List Int
  r : List Int
  s : JS
structure SdS where
  s : Nat
  dl : List Int
  dr : List Int
def SdI (L R : List Int) (q : SdS) : Prop := (q.s = 0 ∧ q.dl = [] ∧ q.dr = []) ∨ (q.s = 1 ∧ q.dl = L ∧ q.dr = []) ∨ (q.s = 2 ∧ q.dl = L ∧ q.dr = R)
theorem worths_ok (g : List GP) (hg : GameOk g) (hl : g.length ≤ 40) (hs : ∀ p ∈ g, p.1.length ≤ 40 ∧ p.2.length ≤ 40) : Ct Try.prog 88 [.sl false (g.map posE)] [] (.sl false ((wiG g g.length).map woE)) [] := by
  have pg := posL_pure g
  refine Ct.by_ hmix [ 903, 7000062, 7000063, 9000045, 9000054, 9000067] Try.func88 rfl ?_
  simp only [run0, run1, run2, run3, run4, run5, run6, run7, run8, run9, run10, run11, run12, run13, run14, run15, run16, run17, run18, run19, run20, run21, run22, reduceCtorEq, Nat.reduceEqDiff, Nat.reduceAdd, Nat.reduceSub, Nat.reduceLeDiff, indexAddrA, indexRefA, appendA, strA, Nat.reduceMul, Nat.zero_mul, Nat.reduceMod, Int.reduceEq, Int.reduceLT, Int.reduceLE, Nat.reduceLT, Nat.lt_irrefl, Nat.reduceBEq, tys0, tys1, tys2, tys3, tys4, tys5, tys6, tys7, tys8, tys9, tys10, tys11, tys12, tys13, tys14, tys15, tys16, tys17, tys18, tys19, tys20, tys21, tys22, tys23, Try.ntmps88, Try.results88]
  refine RunL.callM rfl rfl ok_f59 rfl rfl (newJudge_ok g _) rfl ?_
  simp only [run0, run1, run2, run3, run4, run5, run6, run7, run8, run9, run10, run11, run12, run13, run14, run15, run16, run17, run18, run19, run20, run21, run22, reduceCtorEq, Nat.reduceEqDiff, Nat.reduceAdd, Nat.reduceSub, Nat.reduceLeDiff, indexAddrA, indexRefA, appendA, strA, Nat.reduceMul, Nat.zero_mul, Nat.reduceMod, Int.reduceEq, Int.reduceLT, Int.reduceLE, Nat.reduceLT, Nat.lt_irrefl, Nat.reduceBEq, tys0, tys1, tys2, tys3, tys4, tys5, tys6, tys7, tys8, tys9, tys10, tys11, tys12, tys13, tys14, tys15, tys16, tys17, tys18, tys19, tys20, tys21, tys22, tys23, Try.ntmps88, Try.results88, List.length_map]
  refine AWp.loop_inv (ι := WoS) (fun p => ⟨[.sl false (g.map posE), .junk, nilV, .ref 0 [] p.k p.k, .ptr 2 0, .junk, .junk, .junk, .junk, .junk, .junk, .junk, .junk, .junk, .junk, .junk, .junk, .junk, .junk, .junk, .junk, .sl false (g.map posE), .int .i64 g.length, .int .i64 p.k, .junk, .junk, .junk, .junk, .junk, .junk, .junk, .junk, .junk, .junk, .junk, .junk, .junk, .junk, .junk, .junk, .junk, .junk, .junk, .junk, .junk, .junk, .junk, .junk, .junk, .junk, .junk, .junk, .junk, .junk, .junk, .junk, .junk, .junk, .junk, .junk, .junk, .junk, .junk, .junk, .junk, .junk, .junk, .junk, .junk, .junk, .junk, .junk, .junk, .junk, .junk, .junk, .junk, .junk, .junk, .junk, .junk, .junk, .junk, .junk, .junk, .junk, .junk, .junk, .junk, .junk, .junk, .junk, .junk, .junk, .junk, .junk, .junk, .junk, .junk, .junk, .junk, .junk, .junk, .junk, .junk, .junk, .junk, .junk, .junk, .junk, .junk, .junk, .junk, .junk, .junk, .junk, .junk, .junk, .junk, .junk, .junk, .junk, .junk, .junk, .junk, .junk, .junk, .junk, .junk], p.pre⟩)
    (WoI g) (fun p => g.length - p.k) ⟨0, [.vec 110 4 0 [], memO [], .box 126 [.sl false (g.map posE), .map 1]], []⟩ ⟨Nat.zero_le _, rfl, rfl, rfl, MemOk.nil g⟩ ⟨by simp only [Int.natCast_zero]; repeat constructor, rfl⟩ ?_
  rintro ⟨k, pre, m⟩ ⟨hk, hout, hmem, hjudge, hok⟩
  simp only at hk hout hmem hjudge hok
  have hpl : 3 ≤ pre.length := (List.getElem?_eq_some_iff.1 hjudge).1
  refine W.sound hmix (E := [903, 7000062, 7000063, 9000045, 9000054, 9000067]) ?_
  by_cases hkn : k < g.length
  case neg =>
    obtain rfl : k = g.length := by omega
    have e1 : ¬ ((g.length : Int) < (g.length : Int)) := by omega
    simp only [run0, run1, run2, run3, run4, run5, run6, run7, run8, run9, run10, run11, run12, run13, run14, run15, run16, run17, run18, run19, run20, run21, run22, reduceCtorEq, Nat.reduceEqDiff, Nat.reduceAdd, Nat.reduceSub, Nat.reduceLeDiff, indexAddrA, indexRefA, appendA, strA, Nat.reduceMul, Nat.zero_mul, Nat.reduceMod, Int.reduceEq, Int.reduceLT, Int.reduceLE, Nat.reduceLT, Nat.lt_irrefl, Nat.reduceBEq, tys0, tys1, tys2, tys3, tys4, tys5, tys6, tys7, tys8, tys9, tys10, tys11, tys12, tys13, tys14, tys15, tys16, tys17, tys18, tys19, tys20, tys21, tys22, tys23, Try.ntmps88, Try.results88, Int.lt_irrefl]
    exact Fin.value (Vw_wos hout (wiG_len g _).symm)
  have e1 : (k : Int) < (g.length : Int) := by omega
  have e3 := pos_at (g := g) (a := k) hkn
  have hX : ∀ (ys : List AObj), (pre ++ ys)[0]? = some (.vec 110 4 k ((wiG g k).map woE)) := fun ys => by rw [List.getElem?_append_left (by omega)]; exact hout
  simp only [run0, run1, run2, run3, run4, run5, run6, run7, run8, run9, run10, run11, run12, run13, run14, run15, run16, run17, run18, run19, run20, run21, run22, reduceCtorEq, Nat.reduceEqDiff, Nat.reduceAdd, Nat.reduceSub, Nat.reduceLeDiff, indexAddrA, indexRefA, appendA, strA, Nat.reduceMul, Nat.zero_mul, Nat.reduceMod, Int.reduceEq, Int.reduceLT, Int.reduceLE, Nat.reduceLT, Nat.lt_irrefl, Nat.reduceBEq, tys0, tys1, tys2, tys3, tys4, tys5, tys6, tys7, tys8, tys9, tys10, tys11, tys12, tys13, tys14, tys15, tys16, tys17, tys18, tys19, tys20, tys21, tys22, tys23, Try.ntmps88, Try.results88, e1, e3, List.length_map, Int.toNat_natCast, Int.natCast_nonneg, setXn]
  refine AWp.nilB (pre.length + 2) 0 42 2 (by simp only [getXn, getX2]; rfl) rfl ?_
  simp only [setXn, List.set_cons_succ, List.set_cons_zero, List.append_assoc, List.cons_append, List.nil_append, List.length_append, List.length_cons, List.length_nil, Nat.zero_add, Nat.reduceAdd]
  refine AWp.nilB (pre.length + 2) 1 42 2 (by simp only [getXn, getX2]; rfl) rfl ?_
  simp only [setXn, List.set_cons_succ, List.set_cons_zero, List.append_assoc, List.cons_append, List.nil_append, List.length_append, List.length_cons, List.length_nil, Nat.zero_add, Nat.reduceAdd]
  refine AWp.loop_inv (ι := SdS) (fun q => ⟨[.sl false (g.map posE), .junk, nilV, .ref 0 [] k k, .ptr 2 0, .junk, .ptr pre.length 0, .ptr (pre.length + 1) 0, .ptr (pre.length + 2) 0, .junk, .junk, .junk, .junk, .junk, .junk, .junk, .junk, .junk, .junk, .junk, .junk, .sl false (g.map posE), .int .i64 g.length, .int .i64 k, .junk, .junk, .junk, .junk, .junk, .junk, .junk, .junk, .junk, .agg [.sl false (ints (lefts g k)), .sl false (ints (rights g k))], .int .i64 q.s, .junk, .junk, .junk, .junk, .junk, .junk, .junk, .junk, .junk, .junk, .junk, .junk, .junk, .junk, .junk, .junk, .junk, .junk, .junk, .junk, .junk, .junk, .junk, .junk, .junk, .junk, .junk, .junk, .junk, .junk, .junk, .junk, .junk, .junk, .junk, .junk, .junk, .junk, .junk, .junk, .junk, .junk, .junk, .junk, .junk, .junk, .junk, .junk, .junk, .junk, .junk, .junk, .junk, .junk, .junk, .junk, .junk, .junk, .junk, .junk, .junk, .junk, .junk, .junk, .junk, .junk, .junk, .junk, .junk, .junk, .junk, .junk, .junk, .junk, .junk, .junk, .junk, .junk, .junk, .junk, .junk, .junk, .junk, .junk, .junk, .junk, .junk, .junk, .junk, .junk, .junk, .junk, .junk, .junk], pre ++ wsT pre (lefts g k) (rights g k) (numA (wiG g k) (q.dl ++ q.dr)) (lostA (wiG g k) (q.dl ++ q.dr)) (ivals (wiG g k) q.dl) (ivals (wiG g k) q.dr)⟩)
    (SdI (lefts g k) (rights g k)) (fun q => 2 - q.s) ⟨0, [], []⟩ (.inl ⟨rfl, rfl, rfl⟩) ⟨by simp only [Int.natCast_zero]; repeat constructor, by simp [wsT, numA, lostA, ivals]⟩ ?_
  rintro ⟨s, dl, dr⟩ hq
  refine W.sound hmix (E := [903, 7000062, 7000063, 9000045, 9000054, 9000067]) ?_
  have hm : g.getD k ([], []) ∈ g := by
    rw [List.getD_eq_getElem?_getD, List.getElem?_eq_getElem hkn]; exact List.getElem_mem _
  have s1 : (lefts g k).length ≤ 40 := (hs _ hm).1
  have s2 : (rights g k).length ≤ 40 := (hs _ hm).2
  have c2 : ((2 : Nat) : Int) = 2 := rfl
  have d1 : 2 ≤ pre.length := by omega
  have d2 : 1 ≤ pre.length := by omega
  have e4 : ((0 : Int) < 2) ∧ ((1 : Int) < 2) ∧ ¬ ((2 : Int) < 2) := by decide
  unfold SdI at hq
  simp only at hq
  rcases hq with hq | hq | hq
  · -- side 0
    have lS : ((lefts g k)).length ≤ 1048576 := by omega
    obtain ⟨rfl, rfl, rfl⟩ := hq
    simp only [run0, run1, run2, run3, run4, run5, run6, run7, run8, run9, run10, run11, run12, run13, run14, run15, run16, run17, run18, run19, run20, run21, run22, reduceCtorEq, Nat.reduceEqDiff, Nat.reduceAdd, Nat.reduceSub, Nat.reduceLeDiff, indexAddrA, indexRefA, appendA, strA, Nat.reduceMul, Nat.zero_mul, Nat.reduceMod, Int.reduceEq, Int.reduceLT, Int.reduceLE, Nat.reduceLT, Nat.lt_irrefl, Nat.reduceBEq, tys0, tys1, tys2, tys3, tys4, tys5, tys6, tys7, tys8, tys9, tys10, tys11, tys12, tys13, tys14, tys15, tys16, tys17, tys18, tys19, tys20, tys21, tys22, tys23, Try.ntmps88, Try.results88, e4, ix0, ix1, ints_length, Int.natCast_zero, Int.natCast_one]
    refine AWp.loop_inv (ι := List Int × List Int) (fun q => ⟨[.sl false (g.map posE), .junk, nilV, .ref 0 [] k k, .ptr 2 0, .junk, .ptr pre.length 0, .ptr (pre.length + 1) 0, .ptr (pre.length + 2) 0, .int .i64 0, .junk, .junk, .junk, .junk, .junk, .junk, .junk, .junk, .junk, .junk, .junk, .sl false (g.map posE), .int .i64 g.length, .int .i64 k, .junk, .junk, .junk, .junk, .junk, .junk, .junk, .junk, .junk, .agg [.sl false (ints (lefts g k)), .sl false (ints (rights g k))], .int .i64 0, .junk, .junk, .junk, .sl false (ints (lefts g k)), .int .i64 ((lefts g k)).length, .int .i64 q.1.length, .junk, .junk, .junk, .junk, .junk, .junk, .junk, .junk, .junk, .junk, .junk, .junk, .junk, .junk, .junk, .junk, .junk, .junk, .junk, .junk, .junk, .junk, .junk, .junk, .junk, .junk, .junk, .junk, .junk, .junk, .junk, .junk, .junk, .junk, .junk, .junk, .junk, .junk, .junk, .junk, .junk, .junk, .junk, .junk, .junk, .junk, .junk, .junk, .junk, .junk, .junk, .junk, .junk, .junk, .junk, .junk, .junk, .junk, .junk, .junk, .junk, .junk, .junk, .junk, .junk, .junk, .junk, .junk, .junk, .junk, .junk, .junk, .junk, .junk, .junk, .junk, .junk, .junk, .junk, .junk, .junk, .junk, .junk, .junk, .junk, .junk, .junk, .junk], pre ++ wsT pre (lefts g k) (rights g k) (numA (wiG g k) ( q.1)) (lostA (wiG g k) ( q.1)) (ivals (wiG g k) q.1) []⟩)
      (fun q => (lefts g k) = q.1 ++ q.2) (fun q => q.2.length) ([], (lefts g k)) rfl ⟨by simp only [List.length_nil, Int.natCast_zero]; repeat constructor, by simp [wsT, ivals]⟩ ?_
    rintro ⟨d, r⟩ ha
    refine W.sound hmix (E := [903, 7000062, 7000063, 9000045, 9000054, 9000067]) ?_
    simp only at ha
    cases r with
    | nil =>
      have k1 := int_end ha
      rw [List.append_nil] at ha
      simp only [run0, run1, run2, run3, run4, run5, run6, run7, run8, run9, run10, run11, run12, run13, run14, run15, run16, run17, run18, run19, run20, run21, run22, reduceCtorEq, Nat.reduceEqDiff, Nat.reduceAdd, Nat.reduceSub, Nat.reduceLeDiff, indexAddrA, indexRefA, appendA, strA, Nat.reduceMul, Nat.zero_mul, Nat.reduceMod, Int.reduceEq, Int.reduceLT, Int.reduceLE, Nat.reduceLT, Nat.lt_irrefl, Nat.reduceBEq, tys0, tys1, tys2, tys3, tys4, tys5, tys6, tys7, tys8, tys9, tys10, tys11, tys12, tys13, tys14, tys15, tys16, tys17, tys18, tys19, tys20, tys21, tys22, tys23, Try.ntmps88, Try.results88, k1]
      exact ⟨⟨1, lefts g k, []⟩, (.inr (.inl ⟨rfl, rfl, rfl⟩)), by simp, by simp only [Int.natCast_one, c2]; repeat constructor, by simp [← ha, ivals]⟩
    | cons e r =>
      obtain ⟨k1, k2, k5⟩ := int_split ha lS
      have he : 0 ≤ e ∧ e < (k : Int) := lefts_lt hg (a := k) (by rw [ha]; simp)
      have o1 := he.1
      have o2 := he.2
      have h3 := wo_get (ws := wiG g k) (x := e) (by rw [wiG_len]; exact he)
      have ha2 : numA (wiG g k) ( (d ++ [e])) = (numA (wiG g k) ( d) && (iAt (wiG g k) e).num) := by simp [numA, Bool.and_assoc]
      have ha3 : lostA (wiG g k) ( (d ++ [e])) = (lostA (wiG g k) ( d) || (iAt (wiG g k) e).lost) := by simp [lostA, Bool.or_assoc]
      have f3 : ((ivals (wiG g k) d).length) + 1 ≤ 137438953472 := by simp [ivals]; omega
      have f4 := frs_noOwn (ivals (wiG g k) d)
      generalize hN : numA (wiG g k) ( d) = N at *
      generalize hT : lostA (wiG g k) ( d) = T at *
      unfold wsT
      simp only [run0, run1, run2, run3, run4, run5, run6, run7, run8, run9, run10, run11, run12, run13, run14, run15, run16, run17, run18, run19, run20, run21, run22, reduceCtorEq, Nat.reduceEqDiff, Nat.reduceAdd, Nat.reduceSub, Nat.reduceLeDiff, indexAddrA, indexRefA, appendA, strA, Nat.reduceMul, Nat.zero_mul, Nat.reduceMod, Int.reduceEq, Int.reduceLT, Int.reduceLE, Nat.reduceLT, Nat.lt_irrefl, Nat.reduceBEq, tys0, tys1, tys2, tys3, tys4, tys5, tys6, tys7, tys8, tys9, tys10, tys11, tys12, tys13, tys14, tys15, tys16, tys17, tys18, tys19, tys20, tys21, tys22, tys23, Try.ntmps88, Try.results88, k1, k2, o1, o2, d1, d2, Int.toNat_natCast, Int.natCast_nonneg]
      refine ⟨by kernel_rfl, ?_⟩
      refine RunL.loadX (x := .bool N) rfl rfl ?_ ?_
      · simp only [run0, run1, run2, run3, run4, run5, run6, run7, run8, run9, run10, run11, run12, run13, run14, run15, run16, run17, run18, run19, run20, run21, run22, reduceCtorEq, Nat.reduceEqDiff, Nat.reduceAdd, Nat.reduceSub, Nat.reduceLeDiff, indexAddrA, indexRefA, appendA, strA, Nat.reduceMul, Nat.zero_mul, Nat.reduceMod, Int.reduceEq, Int.reduceLT, Int.reduceLE, Nat.reduceLT, Nat.lt_irrefl, Nat.reduceBEq, tys0, tys1, tys2, tys3, tys4, tys5, tys6, tys7, tys8, tys9, tys10, tys11, tys12, tys13, tys14, tys15, tys16, tys17, tys18, tys19, tys20, tys21, tys22, tys23, Try.ntmps88, Try.results88]
      cases N <;> cases T
      · simp only [run0, run1, run2, run3, run4, run5, run6, run7, run8, run9, run10, run11, run12, run13, run14, run15, run16, run17, run18, run19, run20, run21, run22, reduceCtorEq, Nat.reduceEqDiff, Nat.reduceAdd, Nat.reduceSub, Nat.reduceLeDiff, indexAddrA, indexRefA, appendA, strA, Nat.reduceMul, Nat.zero_mul, Nat.reduceMod, Int.reduceEq, Int.reduceLT, Int.reduceLE, Nat.reduceLT, Nat.lt_irrefl, Nat.reduceBEq, tys0, tys1, tys2, tys3, tys4, tys5, tys6, tys7, tys8, tys9, tys10, tys11, tys12, tys13, tys14, tys15, tys16, tys17, tys18, tys19, tys20, tys21, tys22, tys23, Try.ntmps88, Try.results88, hX, h3, o1, o2, d1, d2, wiG_len, List.length_map, Int.toNat_natCast, Int.natCast_nonneg, List.mapIdx_cons, List.mapIdx_nil, viewC, setXn]
        refine RunL.loadX (x := .bool false) rfl rfl ?_ ?_
        · simp only [run0, run1, run2, run3, run4, run5, run6, run7, run8, run9, run10, run11, run12, run13, run14, run15, run16, run17, run18, run19, run20, run21, run22, reduceCtorEq, Nat.reduceEqDiff, Nat.reduceAdd, Nat.reduceSub, Nat.reduceLeDiff, indexAddrA, indexRefA, appendA, strA, Nat.reduceMul, Nat.zero_mul, Nat.reduceMod, Int.reduceEq, Int.reduceLT, Int.reduceLE, Nat.reduceLT, Nat.lt_irrefl, Nat.reduceBEq, tys0, tys1, tys2, tys3, tys4, tys5, tys6, tys7, tys8, tys9, tys10, tys11, tys12, tys13, tys14, tys15, tys16, tys17, tys18, tys19, tys20, tys21, tys22, tys23, Try.ntmps88, Try.results88]
        simp only [run0, run1, run2, run3, run4, run5, run6, run7, run8, run9, run10, run11, run12, run13, run14, run15, run16, run17, run18, run19, run20, run21, run22, reduceCtorEq, Nat.reduceEqDiff, Nat.reduceAdd, Nat.reduceSub, Nat.reduceLeDiff, indexAddrA, indexRefA, appendA, strA, Nat.reduceMul, Nat.zero_mul, Nat.reduceMod, Int.reduceEq, Int.reduceLT, Int.reduceLE, Nat.reduceLT, Nat.lt_irrefl, Nat.reduceBEq, tys0, tys1, tys2, tys3, tys4, tys5, tys6, tys7, tys8, tys9, tys10, tys11, tys12, tys13, tys14, tys15, tys16, tys17, tys18, tys19, tys20, tys21, tys22, tys23, Try.ntmps88, Try.results88, hX, h3, o1, o2, d1, d2, wiG_len, List.length_map, Int.toNat_natCast, Int.natCast_nonneg, List.mapIdx_cons, List.mapIdx_nil, viewC, setXn]
        refine ⟨by kernel_rfl, ?_⟩
        refine RunL.indexArr (t := 154) (len := 2) (e := 50) rfl rfl und154 rfl rfl (by kernel_rfl) (by decide) (by decide) ?_
        simp only [run0, run1, run2, run3, run4, run5, run6, run7, run8, run9, run10, run11, run12, run13, run14, run15, run16, run17, run18, run19, run20, run21, run22, reduceCtorEq, Nat.reduceEqDiff, Nat.reduceAdd, Nat.reduceSub, Nat.reduceLeDiff, indexAddrA, indexRefA, appendA, strA, Nat.reduceMul, Nat.zero_mul, Nat.reduceMod, Int.reduceEq, Int.reduceLT, Int.reduceLE, Nat.reduceLT, Nat.lt_irrefl, Nat.reduceBEq, tys0, tys1, tys2, tys3, tys4, tys5, tys6, tys7, tys8, tys9, tys10, tys11, tys12, tys13, tys14, tys15, tys16, tys17, tys18, tys19, tys20, tys21, tys22, tys23, Try.ntmps88, Try.results88, hX, h3, o1, o2, d1, d2, wiG_len, List.length_map, Int.toNat_natCast, Int.natCast_nonneg, List.mapIdx_cons, List.mapIdx_nil, viewC, setXn, Int.toNat_zero, Int.toNat_one, Nat.zero_mul, Nat.one_mul]
        refine RunL.loadX (x := .ref (pre.length + 3) [] (ivals (wiG g k) d).length (ivals (wiG g k) d).length) rfl rfl ?_ ?_
        · simp only [run0, run1, run2, run3, run4, run5, run6, run7, run8, run9, run10, run11, run12, run13, run14, run15, run16, run17, run18, run19, run20, run21, run22, reduceCtorEq, Nat.reduceEqDiff, Nat.reduceAdd, Nat.reduceSub, Nat.reduceLeDiff, indexAddrA, indexRefA, appendA, strA, Nat.reduceMul, Nat.zero_mul, Nat.reduceMod, Int.reduceEq, Int.reduceLT, Int.reduceLE, Nat.reduceLT, Nat.lt_irrefl, Nat.reduceBEq, tys0, tys1, tys2, tys3, tys4, tys5, tys6, tys7, tys8, tys9, tys10, tys11, tys12, tys13, tys14, tys15, tys16, tys17, tys18, tys19, tys20, tys21, tys22, tys23, Try.ntmps88, Try.results88]
        simp only [run0, run1, run2, run3, run4, run5, run6, run7, run8, run9, run10, run11, run12, run13, run14, run15, run16, run17, run18, run19, run20, run21, run22, reduceCtorEq, Nat.reduceEqDiff, Nat.reduceAdd, Nat.reduceSub, Nat.reduceLeDiff, indexAddrA, indexRefA, appendA, strA, Nat.reduceMul, Nat.zero_mul, Nat.reduceMod, Int.reduceEq, Int.reduceLT, Int.reduceLE, Nat.reduceLT, Nat.lt_irrefl, Nat.reduceBEq, tys0, tys1, tys2, tys3, tys4, tys5, tys6, tys7, tys8, tys9, tys10, tys11, tys12, tys13, tys14, tys15, tys16, tys17, tys18, tys19, tys20, tys21, tys22, tys23, Try.ntmps88, Try.results88, hX, h3, o1, o2, d1, d2, wiG_len, List.length_map, Int.toNat_natCast, Int.natCast_nonneg, List.mapIdx_cons, List.mapIdx_nil, viewC, setXn, f3, f4]
        refine RunL.indexArr (t := 154) (len := 2) (e := 50) rfl rfl und154 rfl rfl (by kernel_rfl) (by decide) (by decide) ?_
        simp only [run0, run1, run2, run3, run4, run5, run6, run7, run8, run9, run10, run11, run12, run13, run14, run15, run16, run17, run18, run19, run20, run21, run22, reduceCtorEq, Nat.reduceEqDiff, Nat.reduceAdd, Nat.reduceSub, Nat.reduceLeDiff, indexAddrA, indexRefA, appendA, strA, Nat.reduceMul, Nat.zero_mul, Nat.reduceMod, Int.reduceEq, Int.reduceLT, Int.reduceLE, Nat.reduceLT, Nat.lt_irrefl, Nat.reduceBEq, tys0, tys1, tys2, tys3, tys4, tys5, tys6, tys7, tys8, tys9, tys10, tys11, tys12, tys13, tys14, tys15, tys16, tys17, tys18, tys19, tys20, tys21, tys22, tys23, Try.ntmps88, Try.results88, hX, h3, o1, o2, d1, d2, wiG_len, List.length_map, Int.toNat_natCast, Int.natCast_nonneg, List.mapIdx_cons, List.mapIdx_nil, viewC, setXn, f3, f4, k5, Int.toNat_zero, Int.toNat_one, Nat.zero_mul, Nat.one_mul]
        exact ⟨(d ++ [e], r), by simp [ha], by simp, by simp only [List.length_append, List.length_cons, List.length_nil]; repeat constructor, by simp [wsT, ha2, ha3, ivals, frE]⟩
      · simp only [run0, run1, run2, run3, run4, run5, run6, run7, run8, run9, run10, run11, run12, run13, run14, run15, run16, run17, run18, run19, run20, run21, run22, reduceCtorEq, Nat.reduceEqDiff, Nat.reduceAdd, Nat.reduceSub, Nat.reduceLeDiff, indexAddrA, indexRefA, appendA, strA, Nat.reduceMul, Nat.zero_mul, Nat.reduceMod, Int.reduceEq, Int.reduceLT, Int.reduceLE, Nat.reduceLT, Nat.lt_irrefl, Nat.reduceBEq, tys0, tys1, tys2, tys3, tys4, tys5, tys6, tys7, tys8, tys9, tys10, tys11, tys12, tys13, tys14, tys15, tys16, tys17, tys18, tys19, tys20, tys21, tys22, tys23, Try.ntmps88, Try.results88, hX, h3, o1, o2, d1, d2, wiG_len, List.length_map, Int.toNat_natCast, Int.natCast_nonneg, List.mapIdx_cons, List.mapIdx_nil, viewC, setXn]
        refine RunL.loadX (x := .bool true) rfl rfl ?_ ?_
        · simp only [run0, run1, run2, run3, run4, run5, run6, run7, run8, run9, run10, run11, run12, run13, run14, run15, run16, run17, run18, run19, run20, run21, run22, reduceCtorEq, Nat.reduceEqDiff, Nat.reduceAdd, Nat.reduceSub, Nat.reduceLeDiff, indexAddrA, indexRefA, appendA, strA, Nat.reduceMul, Nat.zero_mul, Nat.reduceMod, Int.reduceEq, Int.reduceLT, Int.reduceLE, Nat.reduceLT, Nat.lt_irrefl, Nat.reduceBEq, tys0, tys1, tys2, tys3, tys4, tys5, tys6, tys7, tys8, tys9, tys10, tys11, tys12, tys13, tys14, tys15, tys16, tys17, tys18, tys19, tys20, tys21, tys22, tys23, Try.ntmps88, Try.results88]
        simp only [run0, run1, run2, run3, run4, run5, run6, run7, run8, run9, run10, run11, run12, run13, run14, run15, run16, run17, run18, run19, run20, run21, run22, reduceCtorEq, Nat.reduceEqDiff, Nat.reduceAdd, Nat.reduceSub, Nat.reduceLeDiff, indexAddrA, indexRefA, appendA, strA, Nat.reduceMul, Nat.zero_mul, Nat.reduceMod, Int.reduceEq, Int.reduceLT, Int.reduceLE, Nat.reduceLT, Nat.lt_irrefl, Nat.reduceBEq, tys0, tys1, tys2, tys3, tys4, tys5, tys6, tys7, tys8, tys9, tys10, tys11, tys12, tys13, tys14, tys15, tys16, tys17, tys18, tys19, tys20, tys21, tys22, tys23, Try.ntmps88, Try.results88, hX, h3, o1, o2, d1, d2, wiG_len, List.length_map, Int.toNat_natCast, Int.natCast_nonneg, List.mapIdx_cons, List.mapIdx_nil, viewC, setXn]
        refine ⟨by kernel_rfl, ?_⟩
        refine RunL.indexArr (t := 154) (len := 2) (e := 50) rfl rfl und154 rfl rfl (by kernel_rfl) (by decide) (by decide) ?_
        simp only [run0, run1, run2, run3, run4, run5, run6, run7, run8, run9, run10, run11, run12, run13, run14, run15, run16, run17, run18, run19, run20, run21, run22, reduceCtorEq, Nat.reduceEqDiff, Nat.reduceAdd, Nat.reduceSub, Nat.reduceLeDiff, indexAddrA, indexRefA, appendA, strA, Nat.reduceMul, Nat.zero_mul, Nat.reduceMod, Int.reduceEq, Int.reduceLT, Int.reduceLE, Nat.reduceLT, Nat.lt_irrefl, Nat.reduceBEq, tys0, tys1, tys2, tys3, tys4, tys5, tys6, tys7, tys8, tys9, tys10, tys11, tys12, tys13, tys14, tys15, tys16, tys17, tys18, tys19, tys20, tys21, tys22, tys23, Try.ntmps88, Try.results88, hX, h3, o1, o2, d1, d2, wiG_len, List.length_map, Int.toNat_natCast, Int.natCast_nonneg, List.mapIdx_cons, List.mapIdx_nil, viewC, setXn, Int.toNat_zero, Int.toNat_one, Nat.zero_mul, Nat.one_mul]
        refine RunL.loadX (x := .ref (pre.length + 3) [] (ivals (wiG g k) d).length (ivals (wiG g k) d).length) rfl rfl ?_ ?_
        · simp only [run0, run1, run2, run3, run4, run5, run6, run7, run8, run9, run10, run11, run12, run13, run14, run15, run16, run17, run18, run19, run20, run21, run22, reduceCtorEq, Nat.reduceEqDiff, Nat.reduceAdd, Nat.reduceSub, Nat.reduceLeDiff, indexAddrA, indexRefA, appendA, strA, Nat.reduceMul, Nat.zero_mul, Nat.reduceMod, Int.reduceEq, Int.reduceLT, Int.reduceLE, Nat.reduceLT, Nat.lt_irrefl, Nat.reduceBEq, tys0, tys1, tys2, tys3, tys4, tys5, tys6, tys7, tys8, tys9, tys10, tys11, tys12, tys13, tys14, tys15, tys16, tys17, tys18, tys19, tys20, tys21, tys22, tys23, Try.ntmps88, Try.results88]
        simp only [run0, run1, run2, run3, run4, run5, run6, run7, run8, run9, run10, run11, run12, run13, run14, run15, run16, run17, run18, run19, run20, run21, run22, reduceCtorEq, Nat.reduceEqDiff, Nat.reduceAdd, Nat.reduceSub, Nat.reduceLeDiff, indexAddrA, indexRefA, appendA, strA, Nat.reduceMul, Nat.zero_mul, Nat.reduceMod, Int.reduceEq, Int.reduceLT, Int.reduceLE, Nat.reduceLT, Nat.lt_irrefl, Nat.reduceBEq, tys0, tys1, tys2, tys3, tys4, tys5, tys6, tys7, tys8, tys9, tys10, tys11, tys12, tys13, tys14, tys15, tys16, tys17, tys18, tys19, tys20, tys21, tys22, tys23, Try.ntmps88, Try.results88, hX, h3, o1, o2, d1, d2, wiG_len, List.length_map, Int.toNat_natCast, Int.natCast_nonneg, List.mapIdx_cons, List.mapIdx_nil, viewC, setXn, f3, f4]
        refine RunL.indexArr (t := 154) (len := 2) (e := 50) rfl rfl und154 rfl rfl (by kernel_rfl) (by decide) (by decide) ?_
        simp only [run0, run1, run2, run3, run4, run5, run6, run7, run8, run9, run10, run11, run12, run13, run14, run15, run16, run17, run18, run19, run20, run21, run22, reduceCtorEq, Nat.reduceEqDiff, Nat.reduceAdd, Nat.reduceSub, Nat.reduceLeDiff, indexAddrA, indexRefA, appendA, strA, Nat.reduceMul, Nat.zero_mul, Nat.reduceMod, Int.reduceEq, Int.reduceLT, Int.reduceLE, Nat.reduceLT, Nat.lt_irrefl, Nat.reduceBEq, tys0, tys1, tys2, tys3, tys4, tys5, tys6, tys7, tys8, tys9, tys10, tys11, tys12, tys13, tys14, tys15, tys16, tys17, tys18, tys19, tys20, tys21, tys22, tys23, Try.ntmps88, Try.results88, hX, h3, o1, o2, d1, d2, wiG_len, List.length_map, Int.toNat_natCast, Int.natCast_nonneg, List.mapIdx_cons, List.mapIdx_nil, viewC, setXn, f3, f4, k5, Int.toNat_zero, Int.toNat_one, Nat.zero_mul, Nat.one_mul]
        exact ⟨(d ++ [e], r), by simp [ha], by simp, by simp only [List.length_append, List.length_cons, List.length_nil]; repeat constructor, by simp [wsT, ha2, ha3, ivals, frE]⟩
      · simp only [run0, run1, run2, run3, run4, run5, run6, run7, run8, run9, run10, run11, run12, run13, run14, run15, run16, run17, run18, run19, run20, run21, run22, reduceCtorEq, Nat.reduceEqDiff, Nat.reduceAdd, Nat.reduceSub, Nat.reduceLeDiff, indexAddrA, indexRefA, appendA, strA, Nat.reduceMul, Nat.zero_mul, Nat.reduceMod, Int.reduceEq, Int.reduceLT, Int.reduceLE, Nat.reduceLT, Nat.lt_irrefl, Nat.reduceBEq, tys0, tys1, tys2, tys3, tys4, tys5, tys6, tys7, tys8, tys9, tys10, tys11, tys12, tys13, tys14, tys15, tys16, tys17, tys18, tys19, tys20, tys21, tys22, tys23, Try.ntmps88, Try.results88, hX, h3, o1, o2, d1, d2, wiG_len, List.length_map, Int.toNat_natCast, Int.natCast_nonneg, List.mapIdx_cons, List.mapIdx_nil, viewC, setXn]
        refine RunL.loadX (x := .bool false) rfl rfl ?_ ?_
        · simp only [run0, run1, run2, run3, run4, run5, run6, run7, run8, run9, run10, run11, run12, run13, run14, run15, run16, run17, run18, run19, run20, run21, run22, reduceCtorEq, Nat.reduceEqDiff, Nat.reduceAdd, Nat.reduceSub, Nat.reduceLeDiff, indexAddrA, indexRefA, appendA, strA, Nat.reduceMul, Nat.zero_mul, Nat.reduceMod, Int.reduceEq, Int.reduceLT, Int.reduceLE, Nat.reduceLT, Nat.lt_irrefl, Nat.reduceBEq, tys0, tys1, tys2, tys3, tys4, tys5, tys6, tys7, tys8, tys9, tys10, tys11, tys12, tys13, tys14, tys15, tys16, tys17, tys18, tys19, tys20, tys21, tys22, tys23, Try.ntmps88, Try.results88]
        simp only [run0, run1, run2, run3, run4, run5, run6, run7, run8, run9, run10, run11, run12, run13, run14, run15, run16, run17, run18, run19, run20, run21, run22, reduceCtorEq, Nat.reduceEqDiff, Nat.reduceAdd, Nat.reduceSub, Nat.reduceLeDiff, indexAddrA, indexRefA, appendA, strA, Nat.reduceMul, Nat.zero_mul, Nat.reduceMod, Int.reduceEq, Int.reduceLT, Int.reduceLE, Nat.reduceLT, Nat.lt_irrefl, Nat.reduceBEq, tys0, tys1, tys2, tys3, tys4, tys5, tys6, tys7, tys8, tys9, tys10, tys11, tys12, tys13, tys14, tys15, tys16, tys17, tys18, tys19, tys20, tys21, tys22, tys23, Try.ntmps88, Try.results88, hX, h3, o1, o2, d1, d2, wiG_len, List.length_map, Int.toNat_natCast, Int.natCast_nonneg, List.mapIdx_cons, List.mapIdx_nil, viewC, setXn]
        refine ⟨by kernel_rfl, ?_⟩
        refine RunL.indexArr (t := 154) (len := 2) (e := 50) rfl rfl und154 rfl rfl (by kernel_rfl) (by decide) (by decide) ?_
        simp only [run0, run1, run2, run3, run4, run5, run6, run7, run8, run9, run10, run11, run12, run13, run14, run15, run16, run17, run18, run19, run20, run21, run22, reduceCtorEq, Nat.reduceEqDiff, Nat.reduceAdd, Nat.reduceSub, Nat.reduceLeDiff, indexAddrA, indexRefA, appendA, strA, Nat.reduceMul, Nat.zero_mul, Nat.reduceMod, Int.reduceEq, Int.reduceLT, Int.reduceLE, Nat.reduceLT, Nat.lt_irrefl, Nat.reduceBEq, tys0, tys1, tys2, tys3, tys4, tys5, tys6, tys7, tys8, tys9, tys10, tys11, tys12, tys13, tys14, tys15, tys16, tys17, tys18, tys19, tys20, tys21, tys22, tys23, Try.ntmps88, Try.results88, hX, h3, o1, o2, d1, d2, wiG_len, List.length_map, Int.toNat_natCast, Int.natCast_nonneg, List.mapIdx_cons, List.mapIdx_nil, viewC, setXn, Int.toNat_zero, Int.toNat_one, Nat.zero_mul, Nat.one_mul]
        refine RunL.loadX (x := .ref (pre.length + 3) [] (ivals (wiG g k) d).length (ivals (wiG g k) d).length) rfl rfl ?_ ?_
        · simp only [run0, run1, run2, run3, run4, run5, run6, run7, run8, run9, run10, run11, run12, run13, run14, run15, run16, run17, run18, run19, run20, run21, run22, reduceCtorEq, Nat.reduceEqDiff, Nat.reduceAdd, Nat.reduceSub, Nat.reduceLeDiff, indexAddrA, indexRefA, appendA, strA, Nat.reduceMul, Nat.zero_mul, Nat.reduceMod, Int.reduceEq, Int.reduceLT, Int.reduceLE, Nat.reduceLT, Nat.lt_irrefl, Nat.reduceBEq, tys0, tys1, tys2, tys3, tys4, tys5, tys6, tys7, tys8, tys9, tys10, tys11, tys12, tys13, tys14, tys15, tys16, tys17, tys18, tys19, tys20, tys21, tys22, tys23, Try.ntmps88, Try.results88]
        simp only [run0, run1, run2, run3, run4, run5, run6, run7, run8, run9, run10, run11, run12, run13, run14, run15, run16, run17, run18, run19, run20, run21, run22, reduceCtorEq, Nat.reduceEqDiff, Nat.reduceAdd, Nat.reduceSub, Nat.reduceLeDiff, indexAddrA, indexRefA, appendA, strA, Nat.reduceMul, Nat.zero_mul, Nat.reduceMod, Int.reduceEq, Int.reduceLT, Int.reduceLE, Nat.reduceLT, Nat.lt_irrefl, Nat.reduceBEq, tys0, tys1, tys2, tys3, tys4, tys5, tys6, tys7, tys8, tys9, tys10, tys11, tys12, tys13, tys14, tys15, tys16, tys17, tys18, tys19, tys20, tys21, tys22, tys23, Try.ntmps88, Try.results88, hX, h3, o1, o2, d1, d2, wiG_len, List.length_map, Int.toNat_natCast, Int.natCast_nonneg, List.mapIdx_cons, List.mapIdx_nil, viewC, setXn, f3, f4]
        refine RunL.indexArr (t := 154) (len := 2) (e := 50) rfl rfl und154 rfl rfl (by kernel_rfl) (by decide) (by decide) ?_
        simp only [run0, run1, run2, run3, run4, run5, run6, run7, run8, run9, run10, run11, run12, run13, run14, run15, run16, run17, run18, run19, run20, run21, run22, reduceCtorEq, Nat.reduceEqDiff, Nat.reduceAdd, Nat.reduceSub, Nat.reduceLeDiff, indexAddrA, indexRefA, appendA, strA, Nat.reduceMul, Nat.zero_mul, Nat.reduceMod, Int.reduceEq, Int.reduceLT, Int.reduceLE, Nat.reduceLT, Nat.lt_irrefl, Nat.reduceBEq, tys0, tys1, tys2, tys3, tys4, tys5, tys6, tys7, tys8, tys9, tys10, tys11, tys12, tys13, tys14, tys15, tys16, tys17, tys18, tys19, tys20, tys21, tys22, tys23, Try.ntmps88, Try.results88, hX, h3, o1, o2, d1, d2, wiG_len, List.length_map, Int.toNat_natCast, Int.natCast_nonneg, List.mapIdx_cons, List.mapIdx_nil, viewC, setXn, f3, f4, k5, Int.toNat_zero, Int.toNat_one, Nat.zero_mul, Nat.one_mul]
        exact ⟨(d ++ [e], r), by simp [ha], by simp, by simp only [List.length_append, List.length_cons, List.length_nil]; repeat constructor, by simp [wsT, ha2, ha3, ivals, frE]⟩
      · simp only [run0, run1, run2, run3, run4, run5, run6, run7, run8, run9, run10, run11, run12, run13, run14, run15, run16, run17, run18, run19, run20, run21, run22, reduceCtorEq, Nat.reduceEqDiff, Nat.reduceAdd, Nat.reduceSub, Nat.reduceLeDiff, indexAddrA, indexRefA, appendA, strA, Nat.reduceMul, Nat.zero_mul, Nat.reduceMod, Int.reduceEq, Int.reduceLT, Int.reduceLE, Nat.reduceLT, Nat.lt_irrefl, Nat.reduceBEq, tys0, tys1, tys2, tys3, tys4, tys5, tys6, tys7, tys8, tys9, tys10, tys11, tys12, tys13, tys14, tys15, tys16, tys17, tys18, tys19, tys20, tys21, tys22, tys23, Try.ntmps88, Try.results88, hX, h3, o1, o2, d1, d2, wiG_len, List.length_map, Int.toNat_natCast, Int.natCast_nonneg, List.mapIdx_cons, List.mapIdx_nil, viewC, setXn]
        refine RunL.loadX (x := .bool true) rfl rfl ?_ ?_
        · simp only [run0, run1, run2, run3, run4, run5, run6, run7, run8, run9, run10, run11, run12, run13, run14, run15, run16, run17, run18, run19, run20, run21, run22, reduceCtorEq, Nat.reduceEqDiff, Nat.reduceAdd, Nat.reduceSub, Nat.reduceLeDiff, indexAddrA, indexRefA, appendA, strA, Nat.reduceMul, Nat.zero_mul, Nat.reduceMod, Int.reduceEq, Int.reduceLT, Int.reduceLE, Nat.reduceLT, Nat.lt_irrefl, Nat.reduceBEq, tys0, tys1, tys2, tys3, tys4, tys5, tys6, tys7, tys8, tys9, tys10, tys11, tys12, tys13, tys14, tys15, tys16, tys17, tys18, tys19, tys20, tys21, tys22, tys23, Try.ntmps88, Try.results88]
        simp only [run0, run1, run2, run3, run4, run5, run6, run7, run8, run9, run10, run11, run12, run13, run14, run15, run16, run17, run18, run19, run20, run21, run22, reduceCtorEq, Nat.reduceEqDiff, Nat.reduceAdd, Nat.reduceSub, Nat.reduceLeDiff, indexAddrA, indexRefA, appendA, strA, Nat.reduceMul, Nat.zero_mul, Nat.reduceMod, Int.reduceEq, Int.reduceLT, Int.reduceLE, Nat.reduceLT, Nat.lt_irrefl, Nat.reduceBEq, tys0, tys1, tys2, tys3, tys4, tys5, tys6, tys7, tys8, tys9, tys10, tys11, tys12, tys13, tys14, tys15, tys16, tys17, tys18, tys19, tys20, tys21, tys22, tys23, Try.ntmps88, Try.results88, hX, h3, o1, o2, d1, d2, wiG_len, List.length_map, Int.toNat_natCast, Int.natCast_nonneg, List.mapIdx_cons, List.mapIdx_nil, viewC, setXn]
        refine ⟨by kernel_rfl, ?_⟩
        refine RunL.indexArr (t := 154) (len := 2) (e := 50) rfl rfl und154 rfl rfl (by kernel_rfl) (by decide) (by decide) ?_
        simp only [run0, run1, run2, run3, run4, run5, run6, run7, run8, run9, run10, run11, run12, run13, run14, run15, run16, run17, run18, run19, run20, run21, run22, reduceCtorEq, Nat.reduceEqDiff, Nat.reduceAdd, Nat.reduceSub, Nat.reduceLeDiff, indexAddrA, indexRefA, appendA, strA, Nat.reduceMul, Nat.zero_mul, Nat.reduceMod, Int.reduceEq, Int.reduceLT, Int.reduceLE, Nat.reduceLT, Nat.lt_irrefl, Nat.reduceBEq, tys0, tys1, tys2, tys3, tys4, tys5, tys6, tys7, tys8, tys9, tys10, tys11, tys12, tys13, tys14, tys15, tys16, tys17, tys18, tys19, tys20, tys21, tys22, tys23, Try.ntmps88, Try.results88, hX, h3, o1, o2, d1, d2, wiG_len, List.length_map, Int.toNat_natCast, Int.natCast_nonneg, List.mapIdx_cons, List.mapIdx_nil, viewC, setXn, Int.toNat_zero, Int.toNat_one, Nat.zero_mul, Nat.one_mul]
        refine RunL.loadX (x := .ref (pre.length + 3) [] (ivals (wiG g k) d).length (ivals (wiG g k) d).length) rfl rfl ?_ ?_
        · simp only [run0, run1, run2, run3, run4, run5, run6, run7, run8, run9, run10, run11, run12, run13, run14, run15, run16, run17, run18, run19, run20, run21, run22, reduceCtorEq, Nat.reduceEqDiff, Nat.reduceAdd, Nat.reduceSub, Nat.reduceLeDiff, indexAddrA, indexRefA, appendA, strA, Nat.reduceMul, Nat.zero_mul, Nat.reduceMod, Int.reduceEq, Int.reduceLT, Int.reduceLE, Nat.reduceLT, Nat.lt_irrefl, Nat.reduceBEq, tys0, tys1, tys2, tys3, tys4, tys5, tys6, tys7, tys8, tys9, tys10, tys11, tys12, tys13, tys14, tys15, tys16, tys17, tys18, tys19, tys20, tys21, tys22, tys23, Try.ntmps88, Try.results88]
        simp only [run0, run1, run2, run3, run4, run5, run6, run7, run8, run9, run10, run11, run12, run13, run14, run15, run16, run17, run18, run19, run20, run21, run22, reduceCtorEq, Nat.reduceEqDiff, Nat.reduceAdd, Nat.reduceSub, Nat.reduceLeDiff, indexAddrA, indexRefA, appendA, strA, Nat.reduceMul, Nat.zero_mul, Nat.reduceMod, Int.reduceEq, Int.reduceLT, Int.reduceLE, Nat.reduceLT, Nat.lt_irrefl, Nat.reduceBEq, tys0, tys1, tys2, tys3, tys4, tys5, tys6, tys7, tys8, tys9, tys10, tys11, tys12, tys13, tys14, tys15, tys16, tys17, tys18, tys19, tys20, tys21, tys22, tys23, Try.ntmps88, Try.results88, hX, h3, o1, o2, d1, d2, wiG_len, List.length_map, Int.toNat_natCast, Int.natCast_nonneg, List.mapIdx_cons, List.mapIdx_nil, viewC, setXn, f3, f4]
        refine RunL.indexArr (t := 154) (len := 2) (e := 50) rfl rfl und154 rfl rfl (by kernel_rfl) (by decide) (by decide) ?_
        simp only [run0, run1, run2, run3, run4, run5, run6, run7, run8, run9, run10, run11, run12, run13, run14, run15, run16, run17, run18, run19, run20, run21, run22, reduceCtorEq, Nat.reduceEqDiff, Nat.reduceAdd, Nat.reduceSub, Nat.reduceLeDiff, indexAddrA, indexRefA, appendA, strA, Nat.reduceMul, Nat.zero_mul, Nat.reduceMod, Int.reduceEq, Int.reduceLT, Int.reduceLE, Nat.reduceLT, Nat.lt_irrefl, Nat.reduceBEq, tys0, tys1, tys2, tys3, tys4, tys5, tys6, tys7, tys8, tys9, tys10, tys11, tys12, tys13, tys14, tys15, tys16, tys17, tys18, tys19, tys20, tys21, tys22, tys23, Try.ntmps88, Try.results88, hX, h3, o1, o2, d1, d2, wiG_len, List.length_map, Int.toNat_natCast, Int.natCast_nonneg, List.mapIdx_cons, List.mapIdx_nil, viewC, setXn, f3, f4, k5, Int.toNat_zero, Int.toNat_one, Nat.zero_mul, Nat.one_mul]
        exact ⟨(d ++ [e], r), by simp [ha], by simp, by simp only [List.length_append, List.length_cons, List.length_nil]; repeat constructor, by simp [wsT, ha2, ha3, ivals, frE]⟩
  · -- side 1
    have lS : ((rights g k)).length ≤ 1048576 := by omega
    obtain ⟨rfl, rfl, rfl⟩ := hq
    simp only [run0, run1, run2, run3, run4, run5, run6, run7, run8, run9, run10, run11, run12, run13, run14, run15, run16, run17, run18, run19, run20, run21, run22, reduceCtorEq, Nat.reduceEqDiff, Nat.reduceAdd, Nat.reduceSub, Nat.reduceLeDiff, indexAddrA, indexRefA, appendA, strA, Nat.reduceMul, Nat.zero_mul, Nat.reduceMod, Int.reduceEq, Int.reduceLT, Int.reduceLE, Nat.reduceLT, Nat.lt_irrefl, Nat.reduceBEq, tys0, tys1, tys2, tys3, tys4, tys5, tys6, tys7, tys8, tys9, tys10, tys11, tys12, tys13, tys14, tys15, tys16, tys17, tys18, tys19, tys20, tys21, tys22, tys23, Try.ntmps88, Try.results88, e4, ix0, ix1, ints_length, Int.natCast_zero, Int.natCast_one]
    refine AWp.loop_inv (ι := List Int × List Int) (fun q => ⟨[.sl false (g.map posE), .junk, nilV, .ref 0 [] k k, .ptr 2 0, .junk, .ptr pre.length 0, .ptr (pre.length + 1) 0, .ptr (pre.length + 2) 0, .int .i64 1, .junk, .junk, .junk, .junk, .junk, .junk, .junk, .junk, .junk, .junk, .junk, .sl false (g.map posE), .int .i64 g.length, .int .i64 k, .junk, .junk, .junk, .junk, .junk, .junk, .junk, .junk, .junk, .agg [.sl false (ints (lefts g k)), .sl false (ints (rights g k))], .int .i64 1, .junk, .junk, .junk, .sl false (ints (rights g k)), .int .i64 ((rights g k)).length, .int .i64 q.1.length, .junk, .junk, .junk, .junk, .junk, .junk, .junk, .junk, .junk, .junk, .junk, .junk, .junk, .junk, .junk, .junk, .junk, .junk, .junk, .junk, .junk, .junk, .junk, .junk, .junk, .junk, .junk, .junk, .junk, .junk, .junk, .junk, .junk, .junk, .junk, .junk, .junk, .junk, .junk, .junk, .junk, .junk, .junk, .junk, .junk, .junk, .junk, .junk, .junk, .junk, .junk, .junk, .junk, .junk, .junk, .junk, .junk, .junk, .junk, .junk, .junk, .junk, .junk, .junk, .junk, .junk, .junk, .junk, .junk, .junk, .junk, .junk, .junk, .junk, .junk, .junk, .junk, .junk, .junk, .junk, .junk, .junk, .junk, .junk, .junk, .junk, .junk, .junk], pre ++ wsT pre (lefts g k) (rights g k) (numA (wiG g k) (lefts g k ++ q.1)) (lostA (wiG g k) (lefts g k ++ q.1)) (ivals (wiG g k) (lefts g k)) (ivals (wiG g k) q.1)⟩)
      (fun q => (rights g k) = q.1 ++ q.2) (fun q => q.2.length) ([], (rights g k)) rfl ⟨by simp only [List.length_nil, Int.natCast_zero]; repeat constructor, by simp [wsT, ivals]⟩ ?_
    rintro ⟨d, r⟩ ha
    refine W.sound hmix (E := [903, 7000062, 7000063, 9000045, 9000054, 9000067]) ?_
    simp only at ha
    cases r with
    | nil =>
      have k1 := int_end ha
      rw [List.append_nil] at ha
      simp only [run0, run1, run2, run3, run4, run5, run6, run7, run8, run9, run10, run11, run12, run13, run14, run15, run16, run17, run18, run19, run20, run21, run22, reduceCtorEq, Nat.reduceEqDiff, Nat.reduceAdd, Nat.reduceSub, Nat.reduceLeDiff, indexAddrA, indexRefA, appendA, strA, Nat.reduceMul, Nat.zero_mul, Nat.reduceMod, Int.reduceEq, Int.reduceLT, Int.reduceLE, Nat.reduceLT, Nat.lt_irrefl, Nat.reduceBEq, tys0, tys1, tys2, tys3, tys4, tys5, tys6, tys7, tys8, tys9, tys10, tys11, tys12, tys13, tys14, tys15, tys16, tys17, tys18, tys19, tys20, tys21, tys22, tys23, Try.ntmps88, Try.results88, k1]
      exact ⟨⟨2, lefts g k, rights g k⟩, (.inr (.inr ⟨rfl, rfl, rfl⟩)), by simp, by simp only [Int.natCast_one, c2]; repeat constructor, by simp [← ha, ivals]⟩
    | cons e r =>
      obtain ⟨k1, k2, k5⟩ := int_split ha lS
      have he : 0 ≤ e ∧ e < (k : Int) := rights_lt hg (a := k) (by rw [ha]; simp)
      have o1 := he.1
      have o2 := he.2
      have h3 := wo_get (ws := wiG g k) (x := e) (by rw [wiG_len]; exact he)
      have ha2 : numA (wiG g k) (lefts g k ++ (d ++ [e])) = (numA (wiG g k) (lefts g k ++ d) && (iAt (wiG g k) e).num) := by simp [numA, Bool.and_assoc]
      have ha3 : lostA (wiG g k) (lefts g k ++ (d ++ [e])) = (lostA (wiG g k) (lefts g k ++ d) || (iAt (wiG g k) e).lost) := by simp [lostA, Bool.or_assoc]
      have f3 : ((ivals (wiG g k) d).length) + 1 ≤ 137438953472 := by simp [ivals]; omega
      have f4 := frs_noOwn (ivals (wiG g k) d)
      generalize hN : numA (wiG g k) (lefts g k ++ d) = N at *
      generalize hT : lostA (wiG g k) (lefts g k ++ d) = T at *
      unfold wsT
      simp only [run0, run1, run2, run3, run4, run5, run6, run7, run8, run9, run10, run11, run12, run13, run14, run15, run16, run17, run18, run19, run20, run21, run22, reduceCtorEq, Nat.reduceEqDiff, Nat.reduceAdd, Nat.reduceSub, Nat.reduceLeDiff, indexAddrA, indexRefA, appendA, strA, Nat.reduceMul, Nat.zero_mul, Nat.reduceMod, Int.reduceEq, Int.reduceLT, Int.reduceLE, Nat.reduceLT, Nat.lt_irrefl, Nat.reduceBEq, tys0, tys1, tys2, tys3, tys4, tys5, tys6, tys7, tys8, tys9, tys10, tys11, tys12, tys13, tys14, tys15, tys16, tys17, tys18, tys19, tys20, tys21, tys22, tys23, Try.ntmps88, Try.results88, k1, k2, o1, o2, d1, d2, Int.toNat_natCast, Int.natCast_nonneg]
      refine ⟨by kernel_rfl, ?_⟩
      refine RunL.loadX (x := .bool N) rfl rfl ?_ ?_
      · simp only [run0, run1, run2, run3, run4, run5, run6, run7, run8, run9, run10, run11, run12, run13, run14, run15, run16, run17, run18, run19, run20, run21, run22, reduceCtorEq, Nat.reduceEqDiff, Nat.reduceAdd, Nat.reduceSub, Nat.reduceLeDiff, indexAddrA, indexRefA, appendA, strA, Nat.reduceMul, Nat.zero_mul, Nat.reduceMod, Int.reduceEq, Int.reduceLT, Int.reduceLE, Nat.reduceLT, Nat.lt_irrefl, Nat.reduceBEq, tys0, tys1, tys2, tys3, tys4, tys5, tys6, tys7, tys8, tys9, tys10, tys11, tys12, tys13, tys14, tys15, tys16, tys17, tys18, tys19, tys20, tys21, tys22, tys23, Try.ntmps88, Try.results88]
      cases N <;> cases T
      · simp only [run0, run1, run2, run3, run4, run5, run6, run7, run8, run9, run10, run11, run12, run13, run14, run15, run16, run17, run18, run19, run20, run21, run22, reduceCtorEq, Nat.reduceEqDiff, Nat.reduceAdd, Nat.reduceSub, Nat.reduceLeDiff, indexAddrA, indexRefA, appendA, strA, Nat.reduceMul, Nat.zero_mul, Nat.reduceMod, Int.reduceEq, Int.reduceLT, Int.reduceLE, Nat.reduceLT, Nat.lt_irrefl, Nat.reduceBEq, tys0, tys1, tys2, tys3, tys4, tys5, tys6, tys7, tys8, tys9, tys10, tys11, tys12, tys13, tys14, tys15, tys16, tys17, tys18, tys19, tys20, tys21, tys22, tys23, Try.ntmps88, Try.results88, hX, h3, o1, o2, d1, d2, wiG_len, List.length_map, Int.toNat_natCast, Int.natCast_nonneg, List.mapIdx_cons, List.mapIdx_nil, viewC, setXn]
        refine RunL.loadX (x := .bool false) rfl rfl ?_ ?_
        · simp only [run0, run1, run2, run3, run4, run5, run6, run7, run8, run9, run10, run11, run12, run13, run14, run15, run16, run17, run18, run19, run20, run21, run22, reduceCtorEq, Nat.reduceEqDiff, Nat.reduceAdd, Nat.reduceSub, Nat.reduceLeDiff, indexAddrA, indexRefA, appendA, strA, Nat.reduceMul, Nat.zero_mul, Nat.reduceMod, Int.reduceEq, Int.reduceLT, Int.reduceLE, Nat.reduceLT, Nat.lt_irrefl, Nat.reduceBEq, tys0, tys1, tys2, tys3, tys4, tys5, tys6, tys7, tys8, tys9, tys10, tys11, tys12, tys13, tys14, tys15, tys16, tys17, tys18, tys19, tys20, tys21, tys22, tys23, Try.ntmps88, Try.results88]
        simp only [run0, run1, run2, run3, run4, run5, run6, run7, run8, run9, run10, run11, run12, run13, run14, run15, run16, run17, run18, run19, run20, run21, run22, reduceCtorEq, Nat.reduceEqDiff, Nat.reduceAdd, Nat.reduceSub, Nat.reduceLeDiff, indexAddrA, indexRefA, appendA, strA, Nat.reduceMul, Nat.zero_mul, Nat.reduceMod, Int.reduceEq, Int.reduceLT, Int.reduceLE, Nat.reduceLT, Nat.lt_irrefl, Nat.reduceBEq, tys0, tys1, tys2, tys3, tys4, tys5, tys6, tys7, tys8, tys9, tys10, tys11, tys12, tys13, tys14, tys15, tys16, tys17, tys18, tys19, tys20, tys21, tys22, tys23, Try.ntmps88, Try.results88, hX, h3, o1, o2, d1, d2, wiG_len, List.length_map, Int.toNat_natCast, Int.natCast_nonneg, List.mapIdx_cons, List.mapIdx_nil, viewC, setXn]
        refine ⟨by kernel_rfl, ?_⟩
        refine RunL.indexArr (t := 154) (len := 2) (e := 50) rfl rfl und154 rfl rfl (by kernel_rfl) (by decide) (by decide) ?_
        simp only [run0, run1, run2, run3, run4, run5, run6, run7, run8, run9, run10, run11, run12, run13, run14, run15, run16, run17, run18, run19, run20, run21, run22, reduceCtorEq, Nat.reduceEqDiff, Nat.reduceAdd, Nat.reduceSub, Nat.reduceLeDiff, indexAddrA, indexRefA, appendA, strA, Nat.reduceMul, Nat.zero_mul, Nat.reduceMod, Int.reduceEq, Int.reduceLT, Int.reduceLE, Nat.reduceLT, Nat.lt_irrefl, Nat.reduceBEq, tys0, tys1, tys2, tys3, tys4, tys5, tys6, tys7, tys8, tys9, tys10, tys11, tys12, tys13, tys14, tys15, tys16, tys17, tys18, tys19, tys20, tys21, tys22, tys23, Try.ntmps88, Try.results88, hX, h3, o1, o2, d1, d2, wiG_len, List.length_map, Int.toNat_natCast, Int.natCast_nonneg, List.mapIdx_cons, List.mapIdx_nil, viewC, setXn, Int.toNat_zero, Int.toNat_one, Nat.zero_mul, Nat.one_mul]
        refine RunL.loadX (x := .ref (pre.length + 4) [] (ivals (wiG g k) d).length (ivals (wiG g k) d).length) rfl rfl ?_ ?_
        · simp only [run0, run1, run2, run3, run4, run5, run6, run7, run8, run9, run10, run11, run12, run13, run14, run15, run16, run17, run18, run19, run20, run21, run22, reduceCtorEq, Nat.reduceEqDiff, Nat.reduceAdd, Nat.reduceSub, Nat.reduceLeDiff, indexAddrA, indexRefA, appendA, strA, Nat.reduceMul, Nat.zero_mul, Nat.reduceMod, Int.reduceEq, Int.reduceLT, Int.reduceLE, Nat.reduceLT, Nat.lt_irrefl, Nat.reduceBEq, tys0, tys1, tys2, tys3, tys4, tys5, tys6, tys7, tys8, tys9, tys10, tys11, tys12, tys13, tys14, tys15, tys16, tys17, tys18, tys19, tys20, tys21, tys22, tys23, Try.ntmps88, Try.results88]
        simp only [run0, run1, run2, run3, run4, run5, run6, run7, run8, run9, run10, run11, run12, run13, run14, run15, run16, run17, run18, run19, run20, run21, run22, reduceCtorEq, Nat.reduceEqDiff, Nat.reduceAdd, Nat.reduceSub, Nat.reduceLeDiff, indexAddrA, indexRefA, appendA, strA, Nat.reduceMul, Nat.zero_mul, Nat.reduceMod, Int.reduceEq, Int.reduceLT, Int.reduceLE, Nat.reduceLT, Nat.lt_irrefl, Nat.reduceBEq, tys0, tys1, tys2, tys3, tys4, tys5, tys6, tys7, tys8, tys9, tys10, tys11, tys12, tys13, tys14, tys15, tys16, tys17, tys18, tys19, tys20, tys21, tys22, tys23, Try.ntmps88, Try.results88, hX, h3, o1, o2, d1, d2, wiG_len, List.length_map, Int.toNat_natCast, Int.natCast_nonneg, List.mapIdx_cons, List.mapIdx_nil, viewC, setXn, f3, f4]
        refine RunL.indexArr (t := 154) (len := 2) (e := 50) rfl rfl und154 rfl rfl (by kernel_rfl) (by decide) (by decide) ?_
        simp only [run0, run1, run2, run3, run4, run5, run6, run7, run8, run9, run10, run11, run12, run13, run14, run15, run16, run17, run18, run19, run20, run21, run22, reduceCtorEq, Nat.reduceEqDiff, Nat.reduceAdd, Nat.reduceSub, Nat.reduceLeDiff, indexAddrA, indexRefA, appendA, strA, Nat.reduceMul, Nat.zero_mul, Nat.reduceMod, Int.reduceEq, Int.reduceLT, Int.reduceLE, Nat.reduceLT, Nat.lt_irrefl, Nat.reduceBEq, tys0, tys1, tys2, tys3, tys4, tys5, tys6, tys7, tys8, tys9, tys10, tys11, tys12, tys13, tys14, tys15, tys16, tys17, tys18, tys19, tys20, tys21, tys22, tys23, Try.ntmps88, Try.results88, hX, h3, o1, o2, d1, d2, wiG_len, List.length_map, Int.toNat_natCast, Int.natCast_nonneg, List.mapIdx_cons, List.mapIdx_nil, viewC, setXn, f3, f4, k5, Int.toNat_zero, Int.toNat_one, Nat.zero_mul, Nat.one_mul]
        exact ⟨(d ++ [e], r), by simp [ha], by simp, by simp only [List.length_append, List.length_cons, List.length_nil]; repeat constructor, by simp [wsT, ha2, ha3, ivals, frE]⟩
      · simp only [run0, run1, run2, run3, run4, run5, run6, run7, run8, run9, run10, run11, run12, run13, run14, run15, run16, run17, run18, run19, run20, run21, run22, reduceCtorEq, Nat.reduceEqDiff, Nat.reduceAdd, Nat.reduceSub, Nat.reduceLeDiff, indexAddrA, indexRefA, appendA, strA, Nat.reduceMul, Nat.zero_mul, Nat.reduceMod, Int.reduceEq, Int.reduceLT, Int.reduceLE, Nat.reduceLT, Nat.lt_irrefl, Nat.reduceBEq, tys0, tys1, tys2, tys3, tys4, tys5, tys6, tys7, tys8, tys9, tys10, tys11, tys12, tys13, tys14, tys15, tys16, tys17, tys18, tys19, tys20, tys21, tys22, tys23, Try.ntmps88, Try.results88, hX, h3, o1, o2, d1, d2, wiG_len, List.length_map, Int.toNat_natCast, Int.natCast_nonneg, List.mapIdx_cons, List.mapIdx_nil, viewC, setXn]
        refine RunL.loadX (x := .bool true) rfl rfl ?_ ?_
        · simp only [run0, run1, run2, run3, run4, run5, run6, run7, run8, run9, run10, run11, run12, run13, run14, run15, run16, run17, run18, run19, run20, run21, run22, reduceCtorEq, Nat.reduceEqDiff, Nat.reduceAdd, Nat.reduceSub, Nat.reduceLeDiff, indexAddrA, indexRefA, appendA, strA, Nat.reduceMul, Nat.zero_mul, Nat.reduceMod, Int.reduceEq, Int.reduceLT, Int.reduceLE, Nat.reduceLT, Nat.lt_irrefl, Nat.reduceBEq, tys0, tys1, tys2, tys3, tys4, tys5, tys6, tys7, tys8, tys9, tys10, tys11, tys12, tys13, tys14, tys15, tys16, tys17, tys18, tys19, tys20, tys21, tys22, tys23, Try.ntmps88, Try.results88]
        simp only [run0, run1, run2, run3, run4, run5, run6, run7, run8, run9, run10, run11, run12, run13, run14, run15, run16, run17, run18, run19, run20, run21, run22, reduceCtorEq, Nat.reduceEqDiff, Nat.reduceAdd, Nat.reduceSub, Nat.reduceLeDiff, indexAddrA, indexRefA, appendA, strA, Nat.reduceMul, Nat.zero_mul, Nat.reduceMod, Int.reduceEq, Int.reduceLT, Int.reduceLE, Nat.reduceLT, Nat.lt_irrefl, Nat.reduceBEq, tys0, tys1, tys2, tys3, tys4, tys5, tys6, tys7, tys8, tys9, tys10, tys11, tys12, tys13, tys14, tys15, tys16, tys17, tys18, tys19, tys20, tys21, tys22, tys23, Try.ntmps88, Try.results88, hX, h3, o1, o2, d1, d2, wiG_len, List.length_map, Int.toNat_natCast, Int.natCast_nonneg, List.mapIdx_cons, List.mapIdx_nil, viewC, setXn]
        refine ⟨by kernel_rfl, ?_⟩
        refine RunL.indexArr (t := 154) (len := 2) (e := 50) rfl rfl und154 rfl rfl (by kernel_rfl) (by decide) (by decide) ?_
        simp only [run0, run1, run2, run3, run4, run5, run6, run7, run8, run9, run10, run11, run12, run13, run14, run15, run16, run17, run18, run19, run20, run21, run22, reduceCtorEq, Nat.reduceEqDiff, Nat.reduceAdd, Nat.reduceSub, Nat.reduceLeDiff, indexAddrA, indexRefA, appendA, strA, Nat.reduceMul, Nat.zero_mul, Nat.reduceMod, Int.reduceEq, Int.reduceLT, Int.reduceLE, Nat.reduceLT, Nat.lt_irrefl, Nat.reduceBEq, tys0, tys1, tys2, tys3, tys4, tys5, tys6, tys7, tys8, tys9, tys10, tys11, tys12, tys13, tys14, tys15, tys16, tys17, tys18, tys19, tys20, tys21, tys22, tys23, Try.ntmps88, Try.results88, hX, h3, o1, o2, d1, d2, wiG_len, List.length_map, Int.toNat_natCast, Int.natCast_nonneg, List.mapIdx_cons, List.mapIdx_nil, viewC, setXn, Int.toNat_zero, Int.toNat_one, Nat.zero_mul, Nat.one_mul]
        refine RunL.loadX (x := .ref (pre.length + 4) [] (ivals (wiG g k) d).length (ivals (wiG g k) d).length) rfl rfl ?_ ?_
        · simp only [run0, run1, run2, run3, run4, run5, run6, run7, run8, run9, run10, run11, run12, run13, run14, run15, run16, run17, run18, run19, run20, run21, run22, reduceCtorEq, Nat.reduceEqDiff, Nat.reduceAdd, Nat.reduceSub, Nat.reduceLeDiff, indexAddrA, indexRefA, appendA, strA, Nat.reduceMul, Nat.zero_mul, Nat.reduceMod, Int.reduceEq, Int.reduceLT, Int.reduceLE, Nat.reduceLT, Nat.lt_irrefl, Nat.reduceBEq, tys0, tys1, tys2, tys3, tys4, tys5, tys6, tys7, tys8, tys9, tys10, tys11, tys12, tys13, tys14, tys15, tys16, tys17, tys18, tys19, tys20, tys21, tys22, tys23, Try.ntmps88, Try.results88]
        simp only [run0, run1, run2, run3, run4, run5, run6, run7, run8, run9, run10, run11, run12, run13, run14, run15, run16, run17, run18, run19, run20, run21, run22, reduceCtorEq, Nat.reduceEqDiff, Nat.reduceAdd, Nat.reduceSub, Nat.reduceLeDiff, indexAddrA, indexRefA, appendA, strA, Nat.reduceMul, Nat.zero_mul, Nat.reduceMod, Int.reduceEq, Int.reduceLT, Int.reduceLE, Nat.reduceLT, Nat.lt_irrefl, Nat.reduceBEq, tys0, tys1, tys2, tys3, tys4, tys5, tys6, tys7, tys8, tys9, tys10, tys11, tys12, tys13, tys14, tys15, tys16, tys17, tys18, tys19, tys20, tys21, tys22, tys23, Try.ntmps88, Try.results88, hX, h3, o1, o2, d1, d2, wiG_len, List.length_map, Int.toNat_natCast, Int.natCast_nonneg, List.mapIdx_cons, List.mapIdx_nil, viewC, setXn, f3, f4]
        refine RunL.indexArr (t := 154) (len := 2) (e := 50) rfl rfl und154 rfl rfl (by kernel_rfl) (by decide) (by decide) ?_
        simp only [run0, run1, run2, run3, run4, run5, run6, run7, run8, run9, run10, run11, run12, run13, run14, run15, run16, run17, run18, run19, run20, run21, run22, reduceCtorEq, Nat.reduceEqDiff, Nat.reduceAdd, Nat.reduceSub, Nat.reduceLeDiff, indexAddrA, indexRefA, appendA, strA, Nat.reduceMul, Nat.zero_mul, Nat.reduceMod, Int.reduceEq, Int.reduceLT, Int.reduceLE, Nat.reduceLT, Nat.lt_irrefl, Nat.reduceBEq, tys0, tys1, tys2, tys3, tys4, tys5, tys6, tys7, tys8, tys9, tys10, tys11, tys12, tys13, tys14, tys15, tys16, tys17, tys18, tys19, tys20, tys21, tys22, tys23, Try.ntmps88, Try.results88, hX, h3, o1, o2, d1, d2, wiG_len, List.length_map, Int.toNat_natCast, Int.natCast_nonneg, List.mapIdx_cons, List.mapIdx_nil, viewC, setXn, f3, f4, k5, Int.toNat_zero, Int.toNat_one, Nat.zero_mul, Nat.one_mul]
        exact ⟨(d ++ [e], r), by simp [ha], by simp, by simp only [List.length_append, List.length_cons, List.length_nil]; repeat constructor, by simp [wsT, ha2, ha3, ivals, frE]⟩
      · simp only [run0, run1, run2, run3, run4, run5, run6, run7, run8, run9, run10, run11, run12, run13, run14, run15, run16, run17, run18, run19, run20, run21, run22, reduceCtorEq, Nat.reduceEqDiff, Nat.reduceAdd, Nat.reduceSub, Nat.reduceLeDiff, indexAddrA, indexRefA, appendA, strA, Nat.reduceMul, Nat.zero_mul, Nat.reduceMod, Int.reduceEq, Int.reduceLT, Int.reduceLE, Nat.reduceLT, Nat.lt_irrefl, Nat.reduceBEq, tys0, tys1, tys2, tys3, tys4, tys5, tys6, tys7, tys8, tys9, tys10, tys11, tys12, tys13, tys14, tys15, tys16, tys17, tys18, tys19, tys20, tys21, tys22, tys23, Try.ntmps88, Try.results88, hX, h3, o1, o2, d1, d2, wiG_len, List.length_map, Int.toNat_natCast, Int.natCast_nonneg, List.mapIdx_cons, List.mapIdx_nil, viewC, setXn]
        refine RunL.loadX (x := .bool false) rfl rfl ?_ ?_
        · simp only [run0, run1, run2, run3, run4, run5, run6, run7, run8, run9, run10, run11, run12, run13, run14, run15, run16, run17, run18, run19, run20, run21, run22, reduceCtorEq, Nat.reduceEqDiff, Nat.reduceAdd, Nat.reduceSub, Nat.reduceLeDiff, indexAddrA, indexRefA, appendA, strA, Nat.reduceMul, Nat.zero_mul, Nat.reduceMod, Int.reduceEq, Int.reduceLT, Int.reduceLE, Nat.reduceLT, Nat.lt_irrefl, Nat.reduceBEq, tys0, tys1, tys2, tys3, tys4, tys5, tys6, tys7, tys8, tys9, tys10, tys11, tys12, tys13, tys14, tys15, tys16, tys17, tys18, tys19, tys20, tys21, tys22, tys23, Try.ntmps88, Try.results88]
        simp only [run0, run1, run2, run3, run4, run5, run6, run7, run8, run9, run10, run11, run12, run13, run14, run15, run16, run17, run18, run19, run20, run21, run22, reduceCtorEq, Nat.reduceEqDiff, Nat.reduceAdd, Nat.reduceSub, Nat.reduceLeDiff, indexAddrA, indexRefA, appendA, strA, Nat.reduceMul, Nat.zero_mul, Nat.reduceMod, Int.reduceEq, Int.reduceLT, Int.reduceLE, Nat.reduceLT, Nat.lt_irrefl, Nat.reduceBEq, tys0, tys1, tys2, tys3, tys4, tys5, tys6, tys7, tys8, tys9, tys10, tys11, tys12, tys13, tys14, tys15, tys16, tys17, tys18, tys19, tys20, tys21, tys22, tys23, Try.ntmps88, Try.results88, hX, h3, o1, o2, d1, d2, wiG_len, List.length_map, Int.toNat_natCast, Int.natCast_nonneg, List.mapIdx_cons, List.mapIdx_nil, viewC, setXn]
        refine ⟨by kernel_rfl, ?_⟩
        refine RunL.indexArr (t := 154) (len := 2) (e := 50) rfl rfl und154 rfl rfl (by kernel_rfl) (by decide) (by decide) ?_
        simp only [run0, run1, run2, run3, run4, run5, run6, run7, run8, run9, run10, run11, run12, run13, run14, run15, run16, run17, run18, run19, run20, run21, run22, reduceCtorEq, Nat.reduceEqDiff, Nat.reduceAdd, Nat.reduceSub, Nat.reduceLeDiff, indexAddrA, indexRefA, appendA, strA, Nat.reduceMul, Nat.zero_mul, Nat.reduceMod, Int.reduceEq, Int.reduceLT, Int.reduceLE, Nat.reduceLT, Nat.lt_irrefl, Nat.reduceBEq, tys0, tys1, tys2, tys3, tys4, tys5, tys6, tys7, tys8, tys9, tys10, tys11, tys12, tys13, tys14, tys15, tys16, tys17, tys18, tys19, tys20, tys21, tys22, tys23, Try.ntmps88, Try.results88, hX, h3, o1, o2, d1, d2, wiG_len, List.length_map, Int.toNat_natCast, Int.natCast_nonneg, List.mapIdx_cons, List.mapIdx_nil, viewC, setXn, Int.toNat_zero, Int.toNat_one, Nat.zero_mul, Nat.one_mul]
        refine RunL.loadX (x := .ref (pre.length + 4) [] (ivals (wiG g k) d).length (ivals (wiG g k) d).length) rfl rfl ?_ ?_
        · simp only [run0, run1, run2, run3, run4, run5, run6, run7, run8, run9, run10, run11, run12, run13, run14, run15, run16, run17, run18, run19, run20, run21, run22, reduceCtorEq, Nat.reduceEqDiff, Nat.reduceAdd, Nat.reduceSub, Nat.reduceLeDiff, indexAddrA, indexRefA, appendA, strA, Nat.reduceMul, Nat.zero_mul, Nat.reduceMod, Int.reduceEq, Int.reduceLT, Int.reduceLE, Nat.reduceLT, Nat.lt_irrefl, Nat.reduceBEq, tys0, tys1, tys2, tys3, tys4, tys5, tys6, tys7, tys8, tys9, tys10, tys11, tys12, tys13, tys14, tys15, tys16, tys17, tys18, tys19, tys20, tys21, tys22, tys23, Try.ntmps88, Try.results88]
        simp only [run0, run1, run2, run3, run4, run5, run6, run7, run8, run9, run10, run11, run12, run13, run14, run15, run16, run17, run18, run19, run20, run21, run22, reduceCtorEq, Nat.reduceEqDiff, Nat.reduceAdd, Nat.reduceSub, Nat.reduceLeDiff, indexAddrA, indexRefA, appendA, strA, Nat.reduceMul, Nat.zero_mul, Nat.reduceMod, Int.reduceEq, Int.reduceLT, Int.reduceLE, Nat.reduceLT, Nat.lt_irrefl, Nat.reduceBEq, tys0, tys1, tys2, tys3, tys4, tys5, tys6, tys7, tys8, tys9, tys10, tys11, tys12, tys13, tys14, tys15, tys16, tys17, tys18, tys19, tys20, tys21, tys22, tys23, Try.ntmps88, Try.results88, hX, h3, o1, o2, d1, d2, wiG_len, List.length_map, Int.toNat_natCast, Int.natCast_nonneg, List.mapIdx_cons, List.mapIdx_nil, viewC, setXn, f3, f4]
        refine RunL.indexArr (t := 154) (len := 2) (e := 50) rfl rfl und154 rfl rfl (by kernel_rfl) (by decide) (by decide) ?_
        simp only [run0, run1, run2, run3, run4, run5, run6, run7, run8, run9, run10, run11, run12, run13, run14, run15, run16, run17, run18, run19, run20, run21, run22, reduceCtorEq, Nat.reduceEqDiff, Nat.reduceAdd, Nat.reduceSub, Nat.reduceLeDiff, indexAddrA, indexRefA, appendA, strA, Nat.reduceMul, Nat.zero_mul, Nat.reduceMod, Int.reduceEq, Int.reduceLT, Int.reduceLE, Nat.reduceLT, Nat.lt_irrefl, Nat.reduceBEq, tys0, tys1, tys2, tys3, tys4, tys5, tys6, tys7, tys8, tys9, tys10, tys11, tys12, tys13, tys14, tys15, tys16, tys17, tys18, tys19, tys20, tys21, tys22, tys23, Try.ntmps88, Try.results88, hX, h3, o1, o2, d1, d2, wiG_len, List.length_map, Int.toNat_natCast, Int.natCast_nonneg, List.mapIdx_cons, List.mapIdx_nil, viewC, setXn, f3, f4, k5, Int.toNat_zero, Int.toNat_one, Nat.zero_mul, Nat.one_mul]
        exact ⟨(d ++ [e], r), by simp [ha], by simp, by simp only [List.length_append, List.length_cons, List.length_nil]; repeat constructor, by simp [wsT, ha2, ha3, ivals, frE]⟩
      · simp only [run0, run1, run2, run3, run4, run5, run6, run7, run8, run9, run10, run11, run12, run13, run14, run15, run16, run17, run18, run19, run20, run21, run22, reduceCtorEq, Nat.reduceEqDiff, Nat.reduceAdd, Nat.reduceSub, Nat.reduceLeDiff, indexAddrA, indexRefA, appendA, strA, Nat.reduceMul, Nat.zero_mul, Nat.reduceMod, Int.reduceEq, Int.reduceLT, Int.reduceLE, Nat.reduceLT, Nat.lt_irrefl, Nat.reduceBEq, tys0, tys1, tys2, tys3, tys4, tys5, tys6, tys7, tys8, tys9, tys10, tys11, tys12, tys13, tys14, tys15, tys16, tys17, tys18, tys19, tys20, tys21, tys22, tys23, Try.ntmps88, Try.results88, hX, h3, o1, o2, d1, d2, wiG_len, List.length_map, Int.toNat_natCast, Int.natCast_nonneg, List.mapIdx_cons, List.mapIdx_nil, viewC, setXn]
        refine RunL.loadX (x := .bool true) rfl rfl ?_ ?_
        · simp only [run0, run1, run2, run3, run4, run5, run6, run7, run8, run9, run10, run11, run12, run13, run14, run15, run16, run17, run18, run19, run20, run21, run22, reduceCtorEq, Nat.reduceEqDiff, Nat.reduceAdd, Nat.reduceSub, Nat.reduceLeDiff, indexAddrA, indexRefA, appendA, strA, Nat.reduceMul, Nat.zero_mul, Nat.reduceMod, Int.reduceEq, Int.reduceLT, Int.reduceLE, Nat.reduceLT, Nat.lt_irrefl, Nat.reduceBEq, tys0, tys1, tys2, tys3, tys4, tys5, tys6, tys7, tys8, tys9, tys10, tys11, tys12, tys13, tys14, tys15, tys16, tys17, tys18, tys19, tys20, tys21, tys22, tys23, Try.ntmps88, Try.results88]
        simp only [run0, run1, run2, run3, run4, run5, run6, run7, run8, run9, run10, run11, run12, run13, run14, run15, run16, run17, run18, run19, run20, run21, run22, reduceCtorEq, Nat.reduceEqDiff, Nat.reduceAdd, Nat.reduceSub, Nat.reduceLeDiff, indexAddrA, indexRefA, appendA, strA, Nat.reduceMul, Nat.zero_mul, Nat.reduceMod, Int.reduceEq, Int.reduceLT, Int.reduceLE, Nat.reduceLT, Nat.lt_irrefl, Nat.reduceBEq, tys0, tys1, tys2, tys3, tys4, tys5, tys6, tys7, tys8, tys9, tys10, tys11, tys12, tys13, tys14, tys15, tys16, tys17, tys18, tys19, tys20, tys21, tys22, tys23, Try.ntmps88, Try.results88, hX, h3, o1, o2, d1, d2, wiG_len, List.length_map, Int.toNat_natCast, Int.natCast_nonneg, List.mapIdx_cons, List.mapIdx_nil, viewC, setXn]
        refine ⟨by kernel_rfl, ?_⟩
        refine RunL.indexArr (t := 154) (len := 2) (e := 50) rfl rfl und154 rfl rfl (by kernel_rfl) (by decide) (by decide) ?_
        simp only [run0, run1, run2, run3, run4, run5, run6, run7, run8, run9, run10, run11, run12, run13, run14, run15, run16, run17, run18, run19, run20, run21, run22, reduceCtorEq, Nat.reduceEqDiff, Nat.reduceAdd, Nat.reduceSub, Nat.reduceLeDiff, indexAddrA, indexRefA, appendA, strA, Nat.reduceMul, Nat.zero_mul, Nat.reduceMod, Int.reduceEq, Int.reduceLT, Int.reduceLE, Nat.reduceLT, Nat.lt_irrefl, Nat.reduceBEq, tys0, tys1, tys2, tys3, tys4, tys5, tys6, tys7, tys8, tys9, tys10, tys11, tys12, tys13, tys14, tys15, tys16, tys17, tys18, tys19, tys20, tys21, tys22, tys23, Try.ntmps88, Try.results88, hX, h3, o1, o2, d1, d2, wiG_len, List.length_map, Int.toNat_natCast, Int.natCast_nonneg, List.mapIdx_cons, List.mapIdx_nil, viewC, setXn, Int.toNat_zero, Int.toNat_one, Nat.zero_mul, Nat.one_mul]
        refine RunL.loadX (x := .ref (pre.length + 4) [] (ivals (wiG g k) d).length (ivals (wiG g k) d).length) rfl rfl ?_ ?_
        · simp only [run0, run1, run2, run3, run4, run5, run6, run7, run8, run9, run10, run11, run12, run13, run14, run15, run16, run17, run18, run19, run20, run21, run22, reduceCtorEq, Nat.reduceEqDiff, Nat.reduceAdd, Nat.reduceSub, Nat.reduceLeDiff, indexAddrA, indexRefA, appendA, strA, Nat.reduceMul, Nat.zero_mul, Nat.reduceMod, Int.reduceEq, Int.reduceLT, Int.reduceLE, Nat.reduceLT, Nat.lt_irrefl, Nat.reduceBEq, tys0, tys1, tys2, tys3, tys4, tys5, tys6, tys7, tys8, tys9, tys10, tys11, tys12, tys13, tys14, tys15, tys16, tys17, tys18, tys19, tys20, tys21, tys22, tys23, Try.ntmps88, Try.results88]
        simp only [run0, run1, run2, run3, run4, run5, run6, run7, run8, run9, run10, run11, run12, run13, run14, run15, run16, run17, run18, run19, run20, run21, run22, reduceCtorEq, Nat.reduceEqDiff, Nat.reduceAdd, Nat.reduceSub, Nat.reduceLeDiff, indexAddrA, indexRefA, appendA, strA, Nat.reduceMul, Nat.zero_mul, Nat.reduceMod, Int.reduceEq, Int.reduceLT, Int.reduceLE, Nat.reduceLT, Nat.lt_irrefl, Nat.reduceBEq, tys0, tys1, tys2, tys3, tys4, tys5, tys6, tys7, tys8, tys9, tys10, tys11, tys12, tys13, tys14, tys15, tys16, tys17, tys18, tys19, tys20, tys21, tys22, tys23, Try.ntmps88, Try.results88, hX, h3, o1, o2, d1, d2, wiG_len, List.length_map, Int.toNat_natCast, Int.natCast_nonneg, List.mapIdx_cons, List.mapIdx_nil, viewC, setXn, f3, f4]
        refine RunL.indexArr (t := 154) (len := 2) (e := 50) rfl rfl und154 rfl rfl (by kernel_rfl) (by decide) (by decide) ?_
        simp only [run0, run1, run2, run3, run4, run5, run6, run7, run8, run9, run10, run11, run12, run13, run14, run15, run16, run17, run18, run19, run20, run21, run22, reduceCtorEq, Nat.reduceEqDiff, Nat.reduceAdd, Nat.reduceSub, Nat.reduceLeDiff, indexAddrA, indexRefA, appendA, strA, Nat.reduceMul, Nat.zero_mul, Nat.reduceMod, Int.reduceEq, Int.reduceLT, Int.reduceLE, Nat.reduceLT, Nat.lt_irrefl, Nat.reduceBEq, tys0, tys1, tys2, tys3, tys4, tys5, tys6, tys7, tys8, tys9, tys10, tys11, tys12, tys13, tys14, tys15, tys16, tys17, tys18, tys19, tys20, tys21, tys22, tys23, Try.ntmps88, Try.results88, hX, h3, o1, o2, d1, d2, wiG_len, List.length_map, Int.toNat_natCast, Int.natCast_nonneg, List.mapIdx_cons, List.mapIdx_nil, viewC, setXn, f3, f4, k5, Int.toNat_zero, Int.toNat_one, Nat.zero_mul, Nat.one_mul]
        exact ⟨(d ++ [e], r), by simp [ha], by simp, by simp only [List.length_append, List.length_cons, List.length_nil]; repeat constructor, by simp [wsT, ha2, ha3, ivals, frE]⟩
  · obtain ⟨rfl, rfl, rfl⟩ := hq
    unfold wsT
    simp only [run0, run1, run2, run3, run4, run5, run6, run7, run8, run9, run10, run11, run12, run13, run14, run15, run16, run17, run18, run19, run20, run21, run22, reduceCtorEq, Nat.reduceEqDiff, Nat.reduceAdd, Nat.reduceSub, Nat.reduceLeDiff, indexAddrA, indexRefA, appendA, strA, Nat.reduceMul, Nat.zero_mul, Nat.reduceMod, Int.reduceEq, Int.reduceLT, Int.reduceLE, Nat.reduceLT, Nat.lt_irrefl, Nat.reduceBEq, tys0, tys1, tys2, tys3, tys4, tys5, tys6, tys7, tys8, tys9, tys10, tys11, tys12, tys13, tys14, tys15, tys16, tys17, tys18, tys19, tys20, tys21, tys22, tys23, Try.ntmps88, Try.results88, e4, c2, ints_length]
    have lL : (lefts g k).length ≤ 1048576 := by omega
    have lR : (rights g k).length ≤ 1048576 := by omega
    generalize hN0 : numA (wiG g k) (lefts g k ++ rights g k) = N0
    generalize hT0 : lostA (wiG g k) (lefts g k ++ rights g k) = T0
    have fP := JM_P pre (.box 70 [.sl false (ints (lefts g k)), .sl false (ints (rights g k))]) (.box 154 [.ref (pre.length + 3) [] (ivals (wiG g k) (lefts g k)).length (ivals (wiG g k) (lefts g k)).length, .ref (pre.length + 4) [] (ivals (wiG g k) (rights g k)).length (ivals (wiG g k) (rights g k)).length]) (.vec 42 2 (ivals (wiG g k) (lefts g k)).length ((ivals (wiG g k) (lefts g k)).map frE)) (.vec 42 2 (ivals (wiG g k) (rights g k)).length ((ivals (wiG g k) (rights g k)).map frE)) hpl
    have fW := JM_W pre (.box 70 [.sl false (ints (lefts g k)), .sl false (ints (rights g k))]) (.box 154 [.ref (pre.length + 3) [] (ivals (wiG g k) (lefts g k)).length (ivals (wiG g k) (lefts g k)).length, .ref (pre.length + 4) [] (ivals (wiG g k) (rights g k)).length (ivals (wiG g k) (rights g k)).length]) (.vec 42 2 (ivals (wiG g k) (lefts g k)).length ((ivals (wiG g k) (lefts g k)).map frE)) (.vec 42 2 (ivals (wiG g k) (rights g k)).length ((ivals (wiG g k) (rights g k)).map frE)) hpl
    have fU := JM_set pre (.box 70 [.sl false (ints (lefts g k)), .sl false (ints (rights g k))]) (.box 154 [.ref (pre.length + 3) [] (ivals (wiG g k) (lefts g k)).length (ivals (wiG g k) (lefts g k)).length, .ref (pre.length + 4) [] (ivals (wiG g k) (rights g k)).length (ivals (wiG g k) (rights g k)).length]) (.vec 42 2 (ivals (wiG g k) (lefts g k)).length ((ivals (wiG g k) (lefts g k)).map frE)) (.vec 42 2 (ivals (wiG g k) (rights g k)).length ((ivals (wiG g k) (rights g k)).map frE)) hpl
    have fS := JM_S pre (.box 70 [.sl false (ints (lefts g k)), .sl false (ints (rights g k))]) (.box 154 [.ref (pre.length + 3) [] (ivals (wiG g k) (lefts g k)).length (ivals (wiG g k) (lefts g k)).length, .ref (pre.length + 4) [] (ivals (wiG g k) (rights g k)).length (ivals (wiG g k) (rights g k)).length]) (.vec 42 2 (ivals (wiG g k) (lefts g k)).length ((ivals (wiG g k) (lefts g k)).map frE)) (.vec 42 2 (ivals (wiG g k) (rights g k)).length ((ivals (wiG g k) (rights g k)).map frE)) hpl
    have fA := JM_at pre (.box 70 [.sl false (ints (lefts g k)), .sl false (ints (rights g k))]) (.box 154 [.ref (pre.length + 3) [] (ivals (wiG g k) (lefts g k)).length (ivals (wiG g k) (lefts g k)).length, .ref (pre.length + 4) [] (ivals (wiG g k) (rights g k)).length (ivals (wiG g k) (rights g k)).length]) (.vec 42 2 (ivals (wiG g k) (lefts g k)).length ((ivals (wiG g k) (lefts g k)).map frE)) (.vec 42 2 (ivals (wiG g k) (rights g k)).length ((ivals (wiG g k) (rights g k)).map frE)) hg (by omega) hpl hjudge
    have fO := JM_out pre (.box 70 [.sl false (ints (lefts g k)), .sl false (ints (rights g k))]) (.box 154 [.ref (pre.length + 3) [] (ivals (wiG g k) (lefts g k)).length (ivals (wiG g k) (lefts g k)).length, .ref (pre.length + 4) [] (ivals (wiG g k) (rights g k)).length (ivals (wiG g k) (rights g k)).length]) (.vec 42 2 (ivals (wiG g k) (lefts g k)).length ((ivals (wiG g k) (lefts g k)).map frE)) (.vec 42 2 (ivals (wiG g k) (rights g k)).length ((ivals (wiG g k) (rights g k)).map frE)) hpl hout
    have fV := JM_V pre (.box 70 [.sl false (ints (lefts g k)), .sl false (ints (rights g k))]) (.box 154 [.ref (pre.length + 3) [] (ivals (wiG g k) (lefts g k)).length (ivals (wiG g k) (lefts g k)).length, .ref (pre.length + 4) [] (ivals (wiG g k) (rights g k)).length (ivals (wiG g k) (rights g k)).length]) (.vec 42 2 (ivals (wiG g k) (lefts g k)).length ((ivals (wiG g k) (lefts g k)).map frE)) (.vec 42 2 (ivals (wiG g k) (rights g k)).length ((ivals (wiG g k) (rights g k)).map frE)) hpl
    have f0 := JM_start pre (.box 70 [.sl false (ints (lefts g k)), .sl false (ints (rights g k))]) (.box 154 [.ref (pre.length + 3) [] (ivals (wiG g k) (lefts g k)).length (ivals (wiG g k) (lefts g k)).length, .ref (pre.length + 4) [] (ivals (wiG g k) (rights g k)).length (ivals (wiG g k) (rights g k)).length]) (.vec 42 2 (ivals (wiG g k) (lefts g k)).length ((ivals (wiG g k) (lefts g k)).map frE)) (.vec 42 2 (ivals (wiG g k) (rights g k)).length ((ivals (wiG g k) (rights g k)).map frE)) hpl hmem
    have fM := JM_mem pre (.box 70 [.sl false (ints (lefts g k)), .sl false (ints (rights g k))]) (.box 154 [.ref (pre.length + 3) [] (ivals (wiG g k) (lefts g k)).length (ivals (wiG g k) (lefts g k)).length, .ref (pre.length + 4) [] (ivals (wiG g k) (rights g k)).length (ivals (wiG g k) (rights g k)).length]) (.vec 42 2 (ivals (wiG g k) (lefts g k)).length ((ivals (wiG g k) (lefts g k)).map frE)) (.vec 42 2 (ivals (wiG g k) (rights g k)).length ((ivals (wiG g k) (rights g k)).map frE)) hpl hjudge
    generalize hJ : JM pre (.box 70 [.sl false (ints (lefts g k)), .sl false (ints (rights g k))]) (.box 154 [.ref (pre.length + 3) [] (ivals (wiG g k) (lefts g k)).length (ivals (wiG g k) (lefts g k)).length, .ref (pre.length + 4) [] (ivals (wiG g k) (rights g k)).length (ivals (wiG g k) (rights g k)).length]) (.vec 42 2 (ivals (wiG g k) (lefts g k)).length ((ivals (wiG g k) (lefts g k)).map frE)) (.vec 42 2 (ivals (wiG g k) (rights g k)).length ((ivals (wiG g k) (rights g k)).map frE)) = J at *
    rw [f0]
    refine AWp.loop_inv (ι := PrS) (fun q => ⟨[.sl false (g.map posE), .junk, nilV, .ref 0 [] k k, .ptr 2 0, .junk, .ptr pre.length 0, .ptr (pre.length + 1) 0, .ptr (pre.length + 2) 0, .junk, .junk, .junk, .junk, .junk, .junk, .junk, .junk, .junk, .junk, .junk, .junk, .sl false (g.map posE), .int .i64 g.length, .int .i64 k, .junk, .junk, .junk, .junk, .junk, .junk, .junk, .junk, .junk, .junk, .junk, .junk, .junk, .junk, .junk, .junk, .junk, .junk, .junk, .junk, .junk, .junk, .junk, .junk, .junk, .junk, .junk, .junk, .junk, .junk, .junk, .junk, .junk, .junk, .junk, .junk, .junk, .junk, .junk, .junk, .junk, .junk, .junk, .junk, .junk, .junk, .junk, .junk, .junk, .junk, .junk, .junk, .junk, .junk, .junk, .sl false (ints (lefts g k)), .int .i64 (lefts g k).length, .int .i64 q.d.length, .junk, .junk, .junk, .junk, .junk, .junk, .junk, .junk, .junk, .junk, .junk, .junk, .junk, .junk, .junk, .junk, .junk, .junk, .junk, .junk, .junk, .junk, .junk, .junk, .junk, .junk, .junk, .junk, .junk, .junk, .junk, .junk, .junk, .junk, .junk, .junk, .junk, .junk, .junk, .junk, .junk, .junk, .junk, .junk, .junk, .junk, .junk], J (.box 110 [.bool (N0 && pairB g q.d (rights g k)), .bool T0, .int .i64 0, .int .i64 0]) q.s⟩)
      (fun q => lefts g k = q.d ++ q.r ∧ MemOk g q.s.1) (fun q => q.r.length) ⟨[], lefts g k, (m, [])⟩ ⟨rfl, hok⟩ ⟨by simp only [List.length_nil, Int.natCast_zero]; repeat constructor, by simp [pairB]⟩ ?_
    rintro ⟨d, r, js⟩ ⟨ha, hmo⟩
    refine W.sound hmix (E := [903, 7000062, 7000063, 9000045, 9000054, 9000067]) ?_
    simp only at ha hmo
    cases r with
    | cons e r =>
      obtain ⟨k1, k2, k5⟩ := int_split ha lL
      have he := lefts_lt hg (a := k) (x := e) (by rw [ha]; simp)
      obtain ⟨x, rfl⟩ := Int.eq_ofNat_of_zero_le he.1
      simp only [run0, run1, run2, run3, run4, run5, run6, run7, run8, run9, run10, run11, run12, run13, run14, run15, run16, run17, run18, run19, run20, run21, run22, reduceCtorEq, Nat.reduceEqDiff, Nat.reduceAdd, Nat.reduceSub, Nat.reduceLeDiff, indexAddrA, indexRefA, appendA, strA, Nat.reduceMul, Nat.zero_mul, Nat.reduceMod, Int.reduceEq, Int.reduceLT, Int.reduceLE, Nat.reduceLT, Nat.lt_irrefl, Nat.reduceBEq, tys0, tys1, tys2, tys3, tys4, tys5, tys6, tys7, tys8, tys9, tys10, tys11, tys12, tys13, tys14, tys15, tys16, tys17, tys18, tys19, tys20, tys21, tys22, tys23, Try.ntmps88, Try.results88, k1, k2, fP, ints_length, Int.toNat_natCast, Int.natCast_nonneg]
      refine AWp.loop_inv (ι := PrS) (fun q => ⟨[.sl false (g.map posE), .junk, nilV, .ref 0 [] k k, .ptr 2 0, .junk, .ptr pre.length 0, .ptr (pre.length + 1) 0, .ptr (pre.length + 2) 0, .junk, .junk, .junk, .junk, .junk, .int .i64 x, .junk, .junk, .junk, .junk, .junk, .junk, .sl false (g.map posE), .int .i64 g.length, .int .i64 k, .junk, .junk, .junk, .junk, .junk, .junk, .junk, .junk, .junk, .junk, .junk, .junk, .junk, .junk, .junk, .junk, .junk, .junk, .junk, .junk, .junk, .junk, .junk, .junk, .junk, .junk, .junk, .junk, .junk, .junk, .junk, .junk, .junk, .junk, .junk, .junk, .junk, .junk, .junk, .junk, .junk, .junk, .junk, .junk, .junk, .junk, .junk, .junk, .junk, .junk, .junk, .junk, .junk, .junk, .junk, .sl false (ints (lefts g k)), .int .i64 (lefts g k).length, .int .i64 d.length, .junk, .junk, .junk, .junk, .sl false (ints (rights g k)), .int .i64 (rights g k).length, .int .i64 q.d.length, .junk, .junk, .junk, .junk, .junk, .junk, .junk, .junk, .junk, .junk, .junk, .junk, .junk, .junk, .junk, .junk, .junk, .junk, .junk, .junk, .junk, .junk, .junk, .junk, .junk, .junk, .junk, .junk, .junk, .junk, .junk, .junk, .junk, .junk, .junk, .junk, .junk, .junk, .junk, .junk], J (.box 110 [.bool (N0 && pairB g d (rights g k) && q.d.all fun y => !leG g y.toNat x), .bool T0, .int .i64 0, .int .i64 0]) q.s⟩)
        (fun q => rights g k = q.d ++ q.r ∧ MemOk g q.s.1) (fun q => q.r.length) ⟨[], rights g k, js⟩ ⟨rfl, hmo⟩ ⟨by simp only [List.length_nil, Int.natCast_zero]; repeat constructor, by simp⟩ ?_
      rintro ⟨d2, r2, js2⟩ ⟨hb, hmo2⟩
      refine W.sound hmix (E := [903, 7000062, 7000063, 9000045, 9000054, 9000067]) ?_
      simp only at hb hmo2
      cases r2 with
      | nil =>
        have q1 := int_end hb
        rw [List.append_nil] at hb
        simp only [run0, run1, run2, run3, run4, run5, run6, run7, run8, run9, run10, run11, run12, run13, run14, run15, run16, run17, run18, run19, run20, run21, run22, reduceCtorEq, Nat.reduceEqDiff, Nat.reduceAdd, Nat.reduceSub, Nat.reduceLeDiff, indexAddrA, indexRefA, appendA, strA, Nat.reduceMul, Nat.zero_mul, Nat.reduceMod, Int.reduceEq, Int.reduceLT, Int.reduceLE, Nat.reduceLT, Nat.lt_irrefl, Nat.reduceBEq, tys0, tys1, tys2, tys3, tys4, tys5, tys6, tys7, tys8, tys9, tys10, tys11, tys12, tys13, tys14, tys15, tys16, tys17, tys18, tys19, tys20, tys21, tys22, tys23, Try.ntmps88, Try.results88, q1, k5]
        exact ⟨⟨d ++ [(x : Int)], r, js2⟩, ⟨by simp [ha], hmo2⟩, by simp, by simp only [List.length_append, List.length_cons, List.length_nil]; repeat constructor, by simp [pairB, ← hb, Bool.and_assoc]⟩
      | cons y r2 =>
        obtain ⟨q1, q2, q5⟩ := int_split hb lR
        have hy := rights_lt hg (a := k) (x := y) (by rw [hb]; simp)
        obtain ⟨y, rfl⟩ := Int.eq_ofNat_of_zero_le hy.1
        obtain ⟨m1, m2, _⟩ := atM_law hg (y + x + 1) js2 y x (by omega) (by omega) (by omega) hmo2
        have hB : (N0 && pairB g d (rights g k) && ((d2 ++ [(y : Int)]).all fun y => !leG g y.toNat x)) = (N0 && pairB g d (rights g k) && (d2.all fun y => !leG g y.toNat x) && !leG g y x) := by simp [Bool.and_assoc]
        generalize hBB : (N0 && pairB g d (rights g k) && (d2.all fun y => !leG g y.toNat x)) = B at *
        cases B
        · simp only [run0, run1, run2, run3, run4, run5, run6, run7, run8, run9, run10, run11, run12, run13, run14, run15, run16, run17, run18, run19, run20, run21, run22, reduceCtorEq, Nat.reduceEqDiff, Nat.reduceAdd, Nat.reduceSub, Nat.reduceLeDiff, indexAddrA, indexRefA, appendA, strA, Nat.reduceMul, Nat.zero_mul, Nat.reduceMod, Int.reduceEq, Int.reduceLT, Int.reduceLE, Nat.reduceLT, Nat.lt_irrefl, Nat.reduceBEq, tys0, tys1, tys2, tys3, tys4, tys5, tys6, tys7, tys8, tys9, tys10, tys11, tys12, tys13, tys14, tys15, tys16, tys17, tys18, tys19, tys20, tys21, tys22, tys23, Try.ntmps88, Try.results88, q1, q2, q5, fW, fU, ints_length, Int.toNat_natCast, Int.natCast_nonneg]
          exact ⟨⟨d2 ++ [(y : Int)], r2, js2⟩, ⟨by simp [hb], hmo2⟩, by simp, by simp only [List.length_append, List.length_cons, List.length_nil]; repeat constructor, by rw [hB]; rfl⟩
        · have hc := fA (.box 110 [.bool true, .bool T0, .int .i64 0, .int .i64 0]) (y + x + 1) y x js2 (by omega) (by omega) (by omega) hmo2
          rw [m1] at hc
          simp only [run0, run1, run2, run3, run4, run5, run6, run7, run8, run9, run10, run11, run12, run13, run14, run15, run16, run17, run18, run19, run20, run21, run22, reduceCtorEq, Nat.reduceEqDiff, Nat.reduceAdd, Nat.reduceSub, Nat.reduceLeDiff, indexAddrA, indexRefA, appendA, strA, Nat.reduceMul, Nat.zero_mul, Nat.reduceMod, Int.reduceEq, Int.reduceLT, Int.reduceLE, Nat.reduceLT, Nat.lt_irrefl, Nat.reduceBEq, tys0, tys1, tys2, tys3, tys4, tys5, tys6, tys7, tys8, tys9, tys10, tys11, tys12, tys13, tys14, tys15, tys16, tys17, tys18, tys19, tys20, tys21, tys22, tys23, Try.ntmps88, Try.results88, q1, q2, fW, fU, ints_length, Int.toNat_natCast, Int.natCast_nonneg]
          refine RunL.call rfl rfl rfl ok_f115 rfl (.inl rfl) hc ?_
          simp only [run0, run1, run2, run3, run4, run5, run6, run7, run8, run9, run10, run11, run12, run13, run14, run15, run16, run17, run18, run19, run20, run21, run22, reduceCtorEq, Nat.reduceEqDiff, Nat.reduceAdd, Nat.reduceSub, Nat.reduceLeDiff, indexAddrA, indexRefA, appendA, strA, Nat.reduceMul, Nat.zero_mul, Nat.reduceMod, Int.reduceEq, Int.reduceLT, Int.reduceLE, Nat.reduceLT, Nat.lt_irrefl, Nat.reduceBEq, tys0, tys1, tys2, tys3, tys4, tys5, tys6, tys7, tys8, tys9, tys10, tys11, tys12, tys13, tys14, tys15, tys16, tys17, tys18, tys19, tys20, tys21, tys22, tys23, Try.ntmps88, Try.results88, q5, fW, fU, ints_length, Int.toNat_natCast, Int.natCast_nonneg]
          exact ⟨⟨d2 ++ [(y : Int)], r2, _⟩, ⟨by simp [hb], m2⟩, by simp, by simp only [List.length_append, List.length_cons, List.length_nil]; repeat constructor, by rw [hB]; rfl⟩
    | nil =>
      have k1 := int_end ha
      rw [List.append_nil] at ha
      rw [← ha] at k1
      rw [← ha]
      have hnx : (g.getD k ([], [])) = (lefts g k, rights g k) := rfl
      have hIN : iNum g (lefts g k, rights g k) (wiG g k) = (N0 && pairB g (lefts g k) (rights g k)) := by rw [← hN0]; rfl
      have hIL : iLost (lefts g k, rights g k) (wiG g k) = T0 := by rw [← hT0]; rfl
      have hIG : wiG g (k + 1) = wiG g k ++ [if (N0 && pairB g (lefts g k) (rights g k) && !T0) = true then (⟨true, cutBad (ivals (wiG g k) (lefts g k)) (ivals (wiG g k) (rights g k)), simV (ivals (wiG g k) (lefts g k)) (ivals (wiG g k) (rights g k))⟩ : Wo) else ⟨N0 && pairB g (lefts g k) (rights g k), T0, (0, 0)⟩] := by
        rw [← hIN, ← hIL]; rfl
      have hsim : Ct Try.prog 84 [.sl false ((ivals (wiG g k) (lefts g k)).map frE), .sl false ((ivals (wiG g k) (rights g k)).map frE)] [] (.tup [.agg [.int .i64 (simV (ivals (wiG g k) (lefts g k)) (ivals (wiG g k) (rights g k))).1, .int .i64 (simV (ivals (wiG g k) (lefts g k)) (ivals (wiG g k) (rights g k))).2], .bool (!cutBad (ivals (wiG g k) (lefts g k)) (ivals (wiG g k) (rights g k)))]) [] :=
        simplest_ok _ _ (by simp [ivals]; omega) (by simp [ivals]; omega)
      generalize hB : (N0 && pairB g (lefts g k) (rights g k)) = B at *
      have g1 : k + 1 ≤ 137438953472 := by omega
      have g2 := wos_noOwn (wiG g k)
      have g3 := wiG_len g k
      have g5 : IntKind.i64.wrap ((k : Int) + 1) = ((k + 1 : Nat) : Int) := by rw [i64_id (by omega) (by omega)]; simp
      have fin : ∀ (w : AObj) (z : Wo), wiG g (k + 1) = wiG g k ++ [z] → WoI g ⟨k + 1, (J w js).set 0 (.vec 110 4 (k + 1) ((wiG g k).map woE ++ [.agg [.bool z.num, .bool z.lost, .int .i64 z.val.1, .int .i64 z.val.2]])), js.1⟩ := fun w z hz => by
        refine ⟨show k + 1 ≤ g.length by omega, ?_, ?_, ?_, hmo⟩
        · show ((J w js).set 0 _)[0]? = _
          rw [List.getElem?_set_self (fM w js).2.2, hz]
          simp [woE]
        · show ((J w js).set 0 _)[1]? = _
          rw [List.getElem?_set_ne (by decide)]; exact (fM w js).1
        · show ((J w js).set 0 _)[2]? = _
          rw [List.getElem?_set_ne (by decide)]; exact (fM w js).2.1
      cases B
      · simp only [run0, run1, run2, run3, run4, run5, run6, run7, run8, run9, run10, run11, run12, run13, run14, run15, run16, run17, run18, run19, run20, run21, run22, reduceCtorEq, Nat.reduceEqDiff, Nat.reduceAdd, Nat.reduceSub, Nat.reduceLeDiff, indexAddrA, indexRefA, appendA, strA, Nat.reduceMul, Nat.zero_mul, Nat.reduceMod, Int.reduceEq, Int.reduceLT, Int.reduceLE, Nat.reduceLT, Nat.lt_irrefl, Nat.reduceBEq, tys0, tys1, tys2, tys3, tys4, tys5, tys6, tys7, tys8, tys9, tys10, tys11, tys12, tys13, tys14, tys15, tys16, tys17, tys18, tys19, tys20, tys21, tys22, tys23, Try.ntmps88, Try.results88, k1, fW, fU, fO, g1, g2, g3, g5, List.length_map, Int.toNat_natCast, Int.natCast_nonneg]
        exact ⟨_, fin _ ⟨false, T0, (0, 0)⟩ (by rw [hIG]; rfl), by simp; omega, by repeat constructor, rfl⟩
      · cases hT : T0
        · simp only [run0, run1, run2, run3, run4, run5, run6, run7, run8, run9, run10, run11, run12, run13, run14, run15, run16, run17, run18, run19, run20, run21, run22, reduceCtorEq, Nat.reduceEqDiff, Nat.reduceAdd, Nat.reduceSub, Nat.reduceLeDiff, indexAddrA, indexRefA, appendA, strA, Nat.reduceMul, Nat.zero_mul, Nat.reduceMod, Int.reduceEq, Int.reduceLT, Int.reduceLE, Nat.reduceLT, Nat.lt_irrefl, Nat.reduceBEq, tys0, tys1, tys2, tys3, tys4, tys5, tys6, tys7, tys8, tys9, tys10, tys11, tys12, tys13, tys14, tys15, tys16, tys17, tys18, tys19, tys20, tys21, tys22, tys23, Try.ntmps88, Try.results88, k1, fW, fU, fO, hT, List.length_map, Int.toNat_natCast, Int.natCast_nonneg]
          refine RunL.indexArr (t := 154) (len := 2) (e := 50) rfl rfl und154 rfl rfl (by kernel_rfl) (by decide) (by decide) ?_
          simp only [run0, run1, run2, run3, run4, run5, run6, run7, run8, run9, run10, run11, run12, run13, run14, run15, run16, run17, run18, run19, run20, run21, run22, reduceCtorEq, Nat.reduceEqDiff, Nat.reduceAdd, Nat.reduceSub, Nat.reduceLeDiff, indexAddrA, indexRefA, appendA, strA, Nat.reduceMul, Nat.zero_mul, Nat.reduceMod, Int.reduceEq, Int.reduceLT, Int.reduceLE, Nat.reduceLT, Nat.lt_irrefl, Nat.reduceBEq, tys0, tys1, tys2, tys3, tys4, tys5, tys6, tys7, tys8, tys9, tys10, tys11, tys12, tys13, tys14, tys15, tys16, tys17, tys18, tys19, tys20, tys21, tys22, tys23, Try.ntmps88, Try.results88, fS, Int.toNat_zero, Int.toNat_one, Nat.zero_mul, Nat.one_mul]
          refine RunL.indexArr (t := 154) (len := 2) (e := 50) rfl rfl und154 rfl rfl (by kernel_rfl) (by decide) (by decide) ?_
          simp only [run0, run1, run2, run3, run4, run5, run6, run7, run8, run9, run10, run11, run12, run13, run14, run15, run16, run17, run18, run19, run20, run21, run22, reduceCtorEq, Nat.reduceEqDiff, Nat.reduceAdd, Nat.reduceSub, Nat.reduceLeDiff, indexAddrA, indexRefA, appendA, strA, Nat.reduceMul, Nat.zero_mul, Nat.reduceMod, Int.reduceEq, Int.reduceLT, Int.reduceLE, Nat.reduceLT, Nat.lt_irrefl, Nat.reduceBEq, tys0, tys1, tys2, tys3, tys4, tys5, tys6, tys7, tys8, tys9, tys10, tys11, tys12, tys13, tys14, tys15, tys16, tys17, tys18, tys19, tys20, tys21, tys22, tys23, Try.ntmps88, Try.results88, fS, Int.toNat_zero, Int.toNat_one, Nat.zero_mul, Nat.one_mul]
          refine RunL.lendV rfl rfl ok_f84 rfl hsim (.cons (Vw_frs (fV _ _).1 rfl rfl) (.cons (Vw_frs (fV _ _).2 rfl rfl) .nil)) rfl rfl ?_
          simp only [run0, run1, run2, run3, run4, run5, run6, run7, run8, run9, run10, run11, run12, run13, run14, run15, run16, run17, run18, run19, run20, run21, run22, reduceCtorEq, Nat.reduceEqDiff, Nat.reduceAdd, Nat.reduceSub, Nat.reduceLeDiff, indexAddrA, indexRefA, appendA, strA, Nat.reduceMul, Nat.zero_mul, Nat.reduceMod, Int.reduceEq, Int.reduceLT, Int.reduceLE, Nat.reduceLT, Nat.lt_irrefl, Nat.reduceBEq, tys0, tys1, tys2, tys3, tys4, tys5, tys6, tys7, tys8, tys9, tys10, tys11, tys12, tys13, tys14, tys15, tys16, tys17, tys18, tys19, tys20, tys21, tys22, tys23, Try.ntmps88, Try.results88, fW, fU, fO, g1, g2, g3, g5, List.length_map, Int.toNat_natCast, Int.natCast_nonneg]
          exact ⟨_, fin _ ⟨true, cutBad (ivals (wiG g k) (lefts g k)) (ivals (wiG g k) (rights g k)), simV (ivals (wiG g k) (lefts g k)) (ivals (wiG g k) (rights g k))⟩ (by rw [hIG, hT]; rfl), by simp; omega, by repeat constructor, rfl⟩
        · simp only [run0, run1, run2, run3, run4, run5, run6, run7, run8, run9, run10, run11, run12, run13, run14, run15, run16, run17, run18, run19, run20, run21, run22, reduceCtorEq, Nat.reduceEqDiff, Nat.reduceAdd, Nat.reduceSub, Nat.reduceLeDiff, indexAddrA, indexRefA, appendA, strA, Nat.reduceMul, Nat.zero_mul, Nat.reduceMod, Int.reduceEq, Int.reduceLT, Int.reduceLE, Nat.reduceLT, Nat.lt_irrefl, Nat.reduceBEq, tys0, tys1, tys2, tys3, tys4, tys5, tys6, tys7, tys8, tys9, tys10, tys11, tys12, tys13, tys14, tys15, tys16, tys17, tys18, tys19, tys20, tys21, tys22, tys23, Try.ntmps88, Try.results88, k1, fW, fU, fO, hT, g1, g2, g3, g5, List.length_map, Int.toNat_natCast, Int.natCast_nonneg]
          exact ⟨_, fin _ ⟨true, true, (0, 0)⟩ (by rw [hIG, hT]; rfl), by simp; omega, by repeat constructor, rfl⟩

end Go.Proofs.Ytllcljajlemmaaa
/-
  Games that are numbers: the laws.
-/
namespace Go.Proofs.Ytllcljajlemmaaa
open Go K
set_option linter.unusedSimpArgs false
set_option linter.unusedVariables false
set_option maxHeartbeats 1600000
set_option maxRecDepth 8000

theorem wG_take (g : List GP) (a : Nat) : wG (g.take (a + 1)) a = wG g a := by
  have h := wsG_get (g.take (a + 1)) (a + 1) a (by omega)
  rw [wsG_take g (a + 1) (a + 1) (Nat.le_refl _), wsG_get g (a + 1) a (by omega)] at h
  exact (Option.some.inj h).symm
theorem worthA_ok (g : List GP) (hgb : gameB g = true) (a : Nat) (ha : a < g.length) : Ct Try.prog 88 [.sl false ((g.take (a + 1)).map posE)] [] (.sl false ((wiG (g.take (a + 1)) (a + 1)).map woE)) [] := by
  obtain ⟨h1, h2, h3, h4⟩ := gameB_ok hgb
  have hl : (g.take (a + 1)).length = a + 1 := by rw [List.length_take]; omega
  have := worths_ok (g.take (a + 1)) (h1.take _) (by omega) (fun p hp => h4 p (List.mem_of_mem_take hp))
  rwa [hl] at this
theorem worthA_rel (g : List GP) (hgb : gameB g = true) (a : Nat) : Rw (wG g a) (iG (g.take (a + 1)) a) := by
  rw [← wG_take g a]
  exact worth_same ((gameB_ok hgb).1.take _) _ a (Nat.lt_succ_self _)
theorem worthA_get (g : List GP) (a : Nat) : ((wiG (g.take (a + 1)) (a + 1)).map woE)[a]? = some (.agg [.bool (iG (g.take (a + 1)) a).num, .bool (iG (g.take (a + 1)) a).lost, .int .i64 (iG (g.take (a + 1)) a).val.1, .int .i64 (iG (g.take (a + 1)) a).val.2]) := by
  rw [List.getElem?_map, wiG_get _ (a + 1) a (by omega)]; rfl
def isNumT (g : List GP) (a : Int) : AV := .tup [.bool (hasB g a && ((wG g a.toNat).told && (wG g a.toNat).num)), .bool (hasB g a && (wG g a.toNat).told)]
theorem isNumT_eq (g : List GP) (a : Int) : isNumR g a = isNumT g a := by
  unfold isNumR isNumT
  cases hasB g a <;> cases (wG g a.toNat).told <;> rfl
def numV (g : List GP) (a : Int) : Fr := if hasB g a && (wG g a.toNat).num then (wG g a.toNat).val else (0, 0)
def numT (g : List GP) (a : Int) : AV := .tup [.agg [.int .i64 (numV g a).1, .int .i64 (numV g a).2], .bool (hasB g a && (wG g a.toNat).num)]
theorem numT_eq (g : List GP) (a : Int) : numR g a = numT g a := by
  unfold numR numT numV
  cases hasB g a && (wG g a.toNat).num <;> rfl
theorem specIsNumT_ok (g : List GP) (a : Int) (hl : g.length ≤ 1048576) (hs : ∀ p ∈ g, smallP p) : Ct Try.prog 41 [.sl false (g.map posE), .int .i64 a] [] (isNumT g a) [] := by
  rw [← isNumT_eq]; exact specIsNum_ok g a hl hs
theorem specNumT_ok (g : List GP) (a : Int) (hl : g.length ≤ 1048576) (hs : ∀ p ∈ g, smallP p) : Ct Try.prog 43 [.sl false (g.map posE), .int .i64 a] [] (numT g a) [] := by
  rw [← numT_eq]; exact specNum_ok g a hl hs
theorem implIsNumT_ok (g : List GP) (a : Int) (hl : g.length ≤ 1048576) (hs : ∀ p ∈ g, smallP p) : Ct Try.prog 42 [.sl false (g.map posE), .int .i64 a] [] (isNumT g a) [] := by
  have pg := posL_pure g
  refine Ct.by_ hmix [] Try.func42 rfl ?_
  simp only [run0, run1, run2, run3, run4, run5, run6, run7, run8, run9, run10, run11, run12, run13, run14, run15, run16, run17, run18, run19, run20, run21, run22, reduceCtorEq, Nat.reduceEqDiff, Nat.reduceAdd, Nat.reduceSub, Nat.reduceLeDiff, indexAddrA, indexRefA, appendA, strA, Nat.reduceMul, Nat.zero_mul, Nat.reduceMod, Int.reduceEq, Int.reduceLT, Int.reduceLE, Nat.reduceLT, Nat.lt_irrefl, Nat.reduceBEq, tys0, tys1, tys2, tys3, tys4, tys5, tys6, tys7, tys8, tys9, tys10, tys11, tys12, tys13, tys14, tys15, tys16, tys17, tys18, tys19, tys20, tys21, tys22, tys23, Try.ntmps42, Try.results42]
  refine RunL.callp rfl rfl ok_f66 (hasPosition_ok g a hl hs) (by simp only [pureL, pureB, pg, Bool.and_self]) rfl ?_
  cases h1 : hasB g a
  · simp only [run0, run1, run2, run3, run4, run5, run6, run7, run8, run9, run10, run11, run12, run13, run14, run15, run16, run17, run18, run19, run20, run21, run22, reduceCtorEq, Nat.reduceEqDiff, Nat.reduceAdd, Nat.reduceSub, Nat.reduceLeDiff, indexAddrA, indexRefA, appendA, strA, Nat.reduceMul, Nat.zero_mul, Nat.reduceMod, Int.reduceEq, Int.reduceLT, Int.reduceLE, Nat.reduceLT, Nat.lt_irrefl, Nat.reduceBEq, tys0, tys1, tys2, tys3, tys4, tys5, tys6, tys7, tys8, tys9, tys10, tys11, tys12, tys13, tys14, tys15, tys16, tys17, tys18, tys19, tys20, tys21, tys22, tys23, Try.ntmps42, Try.results42]
    exact Fin.eq (by simp [isNumT, h1]) rfl
  obtain ⟨hgb, a, rfl, ha⟩ := hasB_ok h1
  have hw := worthA_ok g hgb a ha
  obtain ⟨r1, r2, r3⟩ := worthA_rel g hgb a
  have hget := worthA_get g a
  have pt := posL_pure (g.take (a + 1))
  have e1 : IntKind.i64.wrap ((a : Int) + 1) = ((a + 1 : Nat) : Int) := by rw [i64_id (by omega) (by omega)]; simp
  have e2 : ((a + 1 : Nat) : Int) ≤ (g.length : Int) := by omega
  have e3 : (g.map posE).take (a + 1) = (g.take (a + 1)).map posE := by rw [List.map_take]
  have e4 : (a : Int) < ((wiG (g.take (a + 1)) (a + 1)).length : Int) := by rw [wiG_len]; omega
  have e5 : ((0 : Nat) : Int) ≤ ((a + 1 : Nat) : Int) := by omega
  have e6 : (∀ (y : AV), y ∈ List.map posE g → y.cells.length = 2) = True := eq_true fun y hy => by
    obtain ⟨p, _, rfl⟩ := List.mem_map.1 hy; rfl
  simp only [run0, run1, run2, run3, run4, run5, run6, run7, run8, run9, run10, run11, run12, run13, run14, run15, run16, run17, run18, run19, run20, run21, run22, reduceCtorEq, Nat.reduceEqDiff, Nat.reduceAdd, Nat.reduceSub, Nat.reduceLeDiff, indexAddrA, indexRefA, appendA, strA, Nat.reduceMul, Nat.zero_mul, Nat.reduceMod, Int.reduceEq, Int.reduceLT, Int.reduceLE, Nat.reduceLT, Nat.lt_irrefl, Nat.reduceBEq, tys0, tys1, tys2, tys3, tys4, tys5, tys6, tys7, tys8, tys9, tys10, tys11, tys12, tys13, tys14, tys15, tys16, tys17, tys18, tys19, tys20, tys21, tys22, tys23, Try.ntmps42, Try.results42, e1, e2, e3, e5, e6, List.length_map, Int.toNat_natCast, Int.natCast_nonneg]
  refine RunL.callp rfl rfl ok_f88 hw (by simp only [pureL, pureB, pt, Bool.and_self]) rfl ?_
  generalize iG (g.take (a + 1)) a = z at *
  cases ht : (wG g a).told
  · rw [ht] at r1
    simp only [run0, run1, run2, run3, run4, run5, run6, run7, run8, run9, run10, run11, run12, run13, run14, run15, run16, run17, run18, run19, run20, run21, run22, reduceCtorEq, Nat.reduceEqDiff, Nat.reduceAdd, Nat.reduceSub, Nat.reduceLeDiff, indexAddrA, indexRefA, appendA, strA, Nat.reduceMul, Nat.zero_mul, Nat.reduceMod, Int.reduceEq, Int.reduceLT, Int.reduceLE, Nat.reduceLT, Nat.lt_irrefl, Nat.reduceBEq, tys0, tys1, tys2, tys3, tys4, tys5, tys6, tys7, tys8, tys9, tys10, tys11, tys12, tys13, tys14, tys15, tys16, tys17, tys18, tys19, tys20, tys21, tys22, tys23, Try.ntmps42, Try.results42, hget, e4, r1, List.length_map, Int.toNat_natCast, Int.natCast_nonneg]
    exact Fin.eq (by simp [isNumT, ht]) rfl
  · rw [ht] at r1
    have r4 := (r3 ht).1
    simp only [run0, run1, run2, run3, run4, run5, run6, run7, run8, run9, run10, run11, run12, run13, run14, run15, run16, run17, run18, run19, run20, run21, run22, reduceCtorEq, Nat.reduceEqDiff, Nat.reduceAdd, Nat.reduceSub, Nat.reduceLeDiff, indexAddrA, indexRefA, appendA, strA, Nat.reduceMul, Nat.zero_mul, Nat.reduceMod, Int.reduceEq, Int.reduceLT, Int.reduceLE, Nat.reduceLT, Nat.lt_irrefl, Nat.reduceBEq, tys0, tys1, tys2, tys3, tys4, tys5, tys6, tys7, tys8, tys9, tys10, tys11, tys12, tys13, tys14, tys15, tys16, tys17, tys18, tys19, tys20, tys21, tys22, tys23, Try.ntmps42, Try.results42, hget, e4, r1, r4, List.length_map, Int.toNat_natCast, Int.natCast_nonneg]
    exact Fin.eq (by simp [isNumT, ht, h1]) rfl
theorem implNumT_ok (g : List GP) (a : Int) (hl : g.length ≤ 1048576) (hs : ∀ p ∈ g, smallP p) : Ct Try.prog 44 [.sl false (g.map posE), .int .i64 a] [] (numT g a) [] := by
  have pg := posL_pure g
  have hi := implIsNumT_ok g a hl hs
  unfold isNumT at hi
  refine Ct.by_ hmix [] Try.func44 rfl ?_
  simp only [run0, run1, run2, run3, run4, run5, run6, run7, run8, run9, run10, run11, run12, run13, run14, run15, run16, run17, run18, run19, run20, run21, run22, reduceCtorEq, Nat.reduceEqDiff, Nat.reduceAdd, Nat.reduceSub, Nat.reduceLeDiff, indexAddrA, indexRefA, appendA, strA, Nat.reduceMul, Nat.zero_mul, Nat.reduceMod, Int.reduceEq, Int.reduceLT, Int.reduceLE, Nat.reduceLT, Nat.lt_irrefl, Nat.reduceBEq, tys0, tys1, tys2, tys3, tys4, tys5, tys6, tys7, tys8, tys9, tys10, tys11, tys12, tys13, tys14, tys15, tys16, tys17, tys18, tys19, tys20, tys21, tys22, tys23, Try.ntmps44, Try.results44]
  refine RunL.callp rfl rfl ok_f42 hi (by simp only [pureL, pureB, pg, Bool.and_self]) rfl ?_
  cases h1 : hasB g a
  · simp only [run0, run1, run2, run3, run4, run5, run6, run7, run8, run9, run10, run11, run12, run13, run14, run15, run16, run17, run18, run19, run20, run21, run22, reduceCtorEq, Nat.reduceEqDiff, Nat.reduceAdd, Nat.reduceSub, Nat.reduceLeDiff, indexAddrA, indexRefA, appendA, strA, Nat.reduceMul, Nat.zero_mul, Nat.reduceMod, Int.reduceEq, Int.reduceLT, Int.reduceLE, Nat.reduceLT, Nat.lt_irrefl, Nat.reduceBEq, tys0, tys1, tys2, tys3, tys4, tys5, tys6, tys7, tys8, tys9, tys10, tys11, tys12, tys13, tys14, tys15, tys16, tys17, tys18, tys19, tys20, tys21, tys22, tys23, Try.ntmps44, Try.results44, h1, Bool.false_and]
    exact Fin.eq (by simp [numT, numV, h1]) rfl
  obtain ⟨hgb, a, rfl, ha⟩ := hasB_ok h1
  have hw := worthA_ok g hgb a ha
  obtain ⟨r1, r2, r3⟩ := worthA_rel g hgb a
  have hget := worthA_get g a
  have pt := posL_pure (g.take (a + 1))
  have e1 : IntKind.i64.wrap ((a : Int) + 1) = ((a + 1 : Nat) : Int) := by rw [i64_id (by omega) (by omega)]; simp
  have e2 : ((a + 1 : Nat) : Int) ≤ (g.length : Int) := by omega
  have e3 : (g.map posE).take (a + 1) = (g.take (a + 1)).map posE := by rw [List.map_take]
  have e4 : (a : Int) < ((wiG (g.take (a + 1)) (a + 1)).length : Int) := by rw [wiG_len]; omega
  have e5 : ((0 : Nat) : Int) ≤ ((a + 1 : Nat) : Int) := by omega
  have e6 : (∀ (y : AV), y ∈ List.map posE g → y.cells.length = 2) = True := eq_true fun y hy => by
    obtain ⟨p, _, rfl⟩ := List.mem_map.1 hy; rfl
  cases ht : (wG g a).told
  · have hn : (wG g a).num = false := by
      cases q : (wG g a).num with
      | false => rfl
      | true => rw [r2 q] at ht; cases ht
    simp only [run0, run1, run2, run3, run4, run5, run6, run7, run8, run9, run10, run11, run12, run13, run14, run15, run16, run17, run18, run19, run20, run21, run22, reduceCtorEq, Nat.reduceEqDiff, Nat.reduceAdd, Nat.reduceSub, Nat.reduceLeDiff, indexAddrA, indexRefA, appendA, strA, Nat.reduceMul, Nat.zero_mul, Nat.reduceMod, Int.reduceEq, Int.reduceLT, Int.reduceLE, Nat.reduceLT, Nat.lt_irrefl, Nat.reduceBEq, tys0, tys1, tys2, tys3, tys4, tys5, tys6, tys7, tys8, tys9, tys10, tys11, tys12, tys13, tys14, tys15, tys16, tys17, tys18, tys19, tys20, tys21, tys22, tys23, Try.ntmps44, Try.results44, h1, ht, hn, Int.toNat_natCast, Bool.true_and, Bool.and_false, Bool.false_and]
    exact Fin.eq (by simp [numT, numV, hn]) rfl
  cases hn : (wG g a).num
  · simp only [run0, run1, run2, run3, run4, run5, run6, run7, run8, run9, run10, run11, run12, run13, run14, run15, run16, run17, run18, run19, run20, run21, run22, reduceCtorEq, Nat.reduceEqDiff, Nat.reduceAdd, Nat.reduceSub, Nat.reduceLeDiff, indexAddrA, indexRefA, appendA, strA, Nat.reduceMul, Nat.zero_mul, Nat.reduceMod, Int.reduceEq, Int.reduceLT, Int.reduceLE, Nat.reduceLT, Nat.lt_irrefl, Nat.reduceBEq, tys0, tys1, tys2, tys3, tys4, tys5, tys6, tys7, tys8, tys9, tys10, tys11, tys12, tys13, tys14, tys15, tys16, tys17, tys18, tys19, tys20, tys21, tys22, tys23, Try.ntmps44, Try.results44, h1, ht, hn, Int.toNat_natCast, Bool.true_and, Bool.and_false, Bool.false_and]
    exact Fin.eq (by simp [numT, numV, hn]) rfl
  have r5 := (r3 ht).2 hn
  generalize iG (g.take (a + 1)) a = z at *
  simp only [run0, run1, run2, run3, run4, run5, run6, run7, run8, run9, run10, run11, run12, run13, run14, run15, run16, run17, run18, run19, run20, run21, run22, reduceCtorEq, Nat.reduceEqDiff, Nat.reduceAdd, Nat.reduceSub, Nat.reduceLeDiff, indexAddrA, indexRefA, appendA, strA, Nat.reduceMul, Nat.zero_mul, Nat.reduceMod, Int.reduceEq, Int.reduceLT, Int.reduceLE, Nat.reduceLT, Nat.lt_irrefl, Nat.reduceBEq, tys0, tys1, tys2, tys3, tys4, tys5, tys6, tys7, tys8, tys9, tys10, tys11, tys12, tys13, tys14, tys15, tys16, tys17, tys18, tys19, tys20, tys21, tys22, tys23, Try.ntmps44, Try.results44, h1, ht, hn, e1, e2, e3, e5, e6, Bool.true_and, List.length_map, Int.toNat_natCast, Int.natCast_nonneg]
  refine RunL.callp rfl rfl ok_f88 hw (by simp only [pureL, pureB, pt, Bool.and_self]) rfl ?_
  simp only [run0, run1, run2, run3, run4, run5, run6, run7, run8, run9, run10, run11, run12, run13, run14, run15, run16, run17, run18, run19, run20, run21, run22, reduceCtorEq, Nat.reduceEqDiff, Nat.reduceAdd, Nat.reduceSub, Nat.reduceLeDiff, indexAddrA, indexRefA, appendA, strA, Nat.reduceMul, Nat.zero_mul, Nat.reduceMod, Int.reduceEq, Int.reduceLT, Int.reduceLE, Nat.reduceLT, Nat.lt_irrefl, Nat.reduceBEq, tys0, tys1, tys2, tys3, tys4, tys5, tys6, tys7, tys8, tys9, tys10, tys11, tys12, tys13, tys14, tys15, tys16, tys17, tys18, tys19, tys20, tys21, tys22, tys23, Try.ntmps44, Try.results44, hget, e4, r5, List.length_map, Int.toNat_natCast, Int.natCast_nonneg]
  exact Fin.eq (by simp [numT, numV, hn, h1]) rfl
theorem FnExactIsNumberGame_ok {a0 a1 : AV} (h0 : IsOf Try.prog 22 a0) (h1 : IsOf Try.prog 3 a1) : Ct Try.prog 11 [a0, a1] [] (.bool true) [] := by
  obtain ⟨g, rfl, hl, hf⟩ := laws_isPoS h0
  obtain ⟨x1, rfl⟩ := int_in h1
  have pg := posL_pure g
  refine Ct.by_ hmix [] Try.func11 rfl ?_
  simp only [run0, run1, run2, run3, run4, run5, run6, run7, run8, run9, run10, run11, run12, run13, run14, run15, run16, run17, run18, run19, run20, run21, run22, reduceCtorEq, Nat.reduceEqDiff, Nat.reduceAdd, Nat.reduceSub, Nat.reduceLeDiff, indexAddrA, indexRefA, appendA, strA, Nat.reduceMul, Nat.zero_mul, Nat.reduceMod, Int.reduceEq, Int.reduceLT, Int.reduceLE, Nat.reduceLT, Nat.lt_irrefl, Nat.reduceBEq, tys0, tys1, tys2, tys3, tys4, tys5, tys6, tys7, tys8, tys9, tys10, tys11, tys12, tys13, tys14, tys15, tys16, tys17, tys18, tys19, tys20, tys21, tys22, tys23, Try.ntmps11, Try.results11]
  refine RunL.callp rfl rfl ok_f13 (szPositionS_ok g 1048576 hl hf (by omega) (by omega)) (by simp only [pureL, pureB, pg, Bool.and_self]) rfl ?_
  rcases szN_spec (g.length + gsz g) 1048576 with ⟨g1, g2⟩ | ⟨g1, g2⟩
  case inr =>
    have e1 : szN (g.length + gsz g) 1048576 < 0 := by omega
    simp only [run0, run1, run2, run3, run4, run5, run6, run7, run8, run9, run10, run11, run12, run13, run14, run15, run16, run17, run18, run19, run20, run21, run22, reduceCtorEq, Nat.reduceEqDiff, Nat.reduceAdd, Nat.reduceSub, Nat.reduceLeDiff, indexAddrA, indexRefA, appendA, strA, Nat.reduceMul, Nat.zero_mul, Nat.reduceMod, Int.reduceEq, Int.reduceLT, Int.reduceLE, Nat.reduceLT, Nat.lt_irrefl, Nat.reduceBEq, tys0, tys1, tys2, tys3, tys4, tys5, tys6, tys7, tys8, tys9, tys10, tys11, tys12, tys13, tys14, tys15, tys16, tys17, tys18, tys19, tys20, tys21, tys22, tys23, Try.ntmps11, Try.results11, e1]
    exact Fin.eq rfl rfl
  have e1 : ¬ szN (g.length + gsz g) 1048576 < 0 := by omega
  have gl : g.length ≤ 1048576 := by omega
  have gs : ∀ p ∈ g, smallP p := fun p hp => by have := gsz_mem hp; unfold psz at this; exact ⟨by omega, by omega⟩
  simp only [run0, run1, run2, run3, run4, run5, run6, run7, run8, run9, run10, run11, run12, run13, run14, run15, run16, run17, run18, run19, run20, run21, run22, reduceCtorEq, Nat.reduceEqDiff, Nat.reduceAdd, Nat.reduceSub, Nat.reduceLeDiff, indexAddrA, indexRefA, appendA, strA, Nat.reduceMul, Nat.zero_mul, Nat.reduceMod, Int.reduceEq, Int.reduceLT, Int.reduceLE, Nat.reduceLT, Nat.lt_irrefl, Nat.reduceBEq, tys0, tys1, tys2, tys3, tys4, tys5, tys6, tys7, tys8, tys9, tys10, tys11, tys12, tys13, tys14, tys15, tys16, tys17, tys18, tys19, tys20, tys21, tys22, tys23, Try.ntmps11, Try.results11, e1]
  refine RunL.callp rfl rfl ok_f15 (toPositionS_ok g gl gs) (by simp only [pureL, pureB, pg, Bool.and_self]) rfl ?_
  simp only [run0, run1, run2, run3, run4, run5, run6, run7, run8, run9, run10, run11, run12, run13, run14, run15, run16, run17, run18, run19, run20, run21, run22, reduceCtorEq, Nat.reduceEqDiff, Nat.reduceAdd, Nat.reduceSub, Nat.reduceLeDiff, indexAddrA, indexRefA, appendA, strA, Nat.reduceMul, Nat.zero_mul, Nat.reduceMod, Int.reduceEq, Int.reduceLT, Int.reduceLE, Nat.reduceLT, Nat.lt_irrefl, Nat.reduceBEq, tys0, tys1, tys2, tys3, tys4, tys5, tys6, tys7, tys8, tys9, tys10, tys11, tys12, tys13, tys14, tys15, tys16, tys17, tys18, tys19, tys20, tys21, tys22, tys23, Try.ntmps11, Try.results11]
  refine RunL.callp rfl rfl ok_f41 (specIsNumT_ok g x1 gl gs) (by simp only [pureL, pureB, pg, Bool.and_self]) rfl ?_
  simp only [run0, run1, run2, run3, run4, run5, run6, run7, run8, run9, run10, run11, run12, run13, run14, run15, run16, run17, run18, run19, run20, run21, run22, reduceCtorEq, Nat.reduceEqDiff, Nat.reduceAdd, Nat.reduceSub, Nat.reduceLeDiff, indexAddrA, indexRefA, appendA, strA, Nat.reduceMul, Nat.zero_mul, Nat.reduceMod, Int.reduceEq, Int.reduceLT, Int.reduceLE, Nat.reduceLT, Nat.lt_irrefl, Nat.reduceBEq, tys0, tys1, tys2, tys3, tys4, tys5, tys6, tys7, tys8, tys9, tys10, tys11, tys12, tys13, tys14, tys15, tys16, tys17, tys18, tys19, tys20, tys21, tys22, tys23, Try.ntmps11, Try.results11, isNumT]
  refine RunL.callp rfl rfl ok_f15 (toPositionS_ok g gl gs) (by simp only [pureL, pureB, pg, Bool.and_self]) rfl ?_
  simp only [run0, run1, run2, run3, run4, run5, run6, run7, run8, run9, run10, run11, run12, run13, run14, run15, run16, run17, run18, run19, run20, run21, run22, reduceCtorEq, Nat.reduceEqDiff, Nat.reduceAdd, Nat.reduceSub, Nat.reduceLeDiff, indexAddrA, indexRefA, appendA, strA, Nat.reduceMul, Nat.zero_mul, Nat.reduceMod, Int.reduceEq, Int.reduceLT, Int.reduceLE, Nat.reduceLT, Nat.lt_irrefl, Nat.reduceBEq, tys0, tys1, tys2, tys3, tys4, tys5, tys6, tys7, tys8, tys9, tys10, tys11, tys12, tys13, tys14, tys15, tys16, tys17, tys18, tys19, tys20, tys21, tys22, tys23, Try.ntmps11, Try.results11]
  refine RunL.callp rfl rfl ok_f42 (implIsNumT_ok g x1 gl gs) (by simp only [pureL, pureB, pg, Bool.and_self]) rfl ?_
  simp only [run0, run1, run2, run3, run4, run5, run6, run7, run8, run9, run10, run11, run12, run13, run14, run15, run16, run17, run18, run19, run20, run21, run22, reduceCtorEq, Nat.reduceEqDiff, Nat.reduceAdd, Nat.reduceSub, Nat.reduceLeDiff, indexAddrA, indexRefA, appendA, strA, Nat.reduceMul, Nat.zero_mul, Nat.reduceMod, Int.reduceEq, Int.reduceLT, Int.reduceLE, Nat.reduceLT, Nat.lt_irrefl, Nat.reduceBEq, tys0, tys1, tys2, tys3, tys4, tys5, tys6, tys7, tys8, tys9, tys10, tys11, tys12, tys13, tys14, tys15, tys16, tys17, tys18, tys19, tys20, tys21, tys22, tys23, Try.ntmps11, Try.results11, isNumT, bne_self_eq_false]
  refine RunL.callp rfl rfl ok_f15 (toPositionS_ok g gl gs) (by simp only [pureL, pureB, pg, Bool.and_self]) rfl ?_
  simp only [run0, run1, run2, run3, run4, run5, run6, run7, run8, run9, run10, run11, run12, run13, run14, run15, run16, run17, run18, run19, run20, run21, run22, reduceCtorEq, Nat.reduceEqDiff, Nat.reduceAdd, Nat.reduceSub, Nat.reduceLeDiff, indexAddrA, indexRefA, appendA, strA, Nat.reduceMul, Nat.zero_mul, Nat.reduceMod, Int.reduceEq, Int.reduceLT, Int.reduceLE, Nat.reduceLT, Nat.lt_irrefl, Nat.reduceBEq, tys0, tys1, tys2, tys3, tys4, tys5, tys6, tys7, tys8, tys9, tys10, tys11, tys12, tys13, tys14, tys15, tys16, tys17, tys18, tys19, tys20, tys21, tys22, tys23, Try.ntmps11, Try.results11]
  refine RunL.callp rfl rfl ok_f17 (eqPositionS_ok g gl gs) (by simp only [pureL, pureB, pg, Bool.and_self]) rfl ?_
  simp only [run0, run1, run2, run3, run4, run5, run6, run7, run8, run9, run10, run11, run12, run13, run14, run15, run16, run17, run18, run19, run20, run21, run22, reduceCtorEq, Nat.reduceEqDiff, Nat.reduceAdd, Nat.reduceSub, Nat.reduceLeDiff, indexAddrA, indexRefA, appendA, strA, Nat.reduceMul, Nat.zero_mul, Nat.reduceMod, Int.reduceEq, Int.reduceLT, Int.reduceLE, Nat.reduceLT, Nat.lt_irrefl, Nat.reduceBEq, tys0, tys1, tys2, tys3, tys4, tys5, tys6, tys7, tys8, tys9, tys10, tys11, tys12, tys13, tys14, tys15, tys16, tys17, tys18, tys19, tys20, tys21, tys22, tys23, Try.ntmps11, Try.results11]
  exact Fin.eq rfl rfl

theorem FnExactNumberOfGame_ok {a0 a1 : AV} (h0 : IsOf Try.prog 22 a0) (h1 : IsOf Try.prog 3 a1) : Ct Try.prog 12 [a0, a1] [] (.bool true) [] := by
  obtain ⟨g, rfl, hl, hf⟩ := laws_isPoS h0
  obtain ⟨x1, rfl⟩ := int_in h1
  have pg := posL_pure g
  refine Ct.by_ hmix [] Try.func12 rfl ?_
  simp only [run0, run1, run2, run3, run4, run5, run6, run7, run8, run9, run10, run11, run12, run13, run14, run15, run16, run17, run18, run19, run20, run21, run22, reduceCtorEq, Nat.reduceEqDiff, Nat.reduceAdd, Nat.reduceSub, Nat.reduceLeDiff, indexAddrA, indexRefA, appendA, strA, Nat.reduceMul, Nat.zero_mul, Nat.reduceMod, Int.reduceEq, Int.reduceLT, Int.reduceLE, Nat.reduceLT, Nat.lt_irrefl, Nat.reduceBEq, tys0, tys1, tys2, tys3, tys4, tys5, tys6, tys7, tys8, tys9, tys10, tys11, tys12, tys13, tys14, tys15, tys16, tys17, tys18, tys19, tys20, tys21, tys22, tys23, Try.ntmps12, Try.results12]
  refine RunL.callp rfl rfl ok_f13 (szPositionS_ok g 1048576 hl hf (by omega) (by omega)) (by simp only [pureL, pureB, pg, Bool.and_self]) rfl ?_
  rcases szN_spec (g.length + gsz g) 1048576 with ⟨g1, g2⟩ | ⟨g1, g2⟩
  case inr =>
    have e1 : szN (g.length + gsz g) 1048576 < 0 := by omega
    simp only [run0, run1, run2, run3, run4, run5, run6, run7, run8, run9, run10, run11, run12, run13, run14, run15, run16, run17, run18, run19, run20, run21, run22, reduceCtorEq, Nat.reduceEqDiff, Nat.reduceAdd, Nat.reduceSub, Nat.reduceLeDiff, indexAddrA, indexRefA, appendA, strA, Nat.reduceMul, Nat.zero_mul, Nat.reduceMod, Int.reduceEq, Int.reduceLT, Int.reduceLE, Nat.reduceLT, Nat.lt_irrefl, Nat.reduceBEq, tys0, tys1, tys2, tys3, tys4, tys5, tys6, tys7, tys8, tys9, tys10, tys11, tys12, tys13, tys14, tys15, tys16, tys17, tys18, tys19, tys20, tys21, tys22, tys23, Try.ntmps12, Try.results12, e1]
    exact Fin.eq rfl rfl
  have e1 : ¬ szN (g.length + gsz g) 1048576 < 0 := by omega
  have gl : g.length ≤ 1048576 := by omega
  have gs : ∀ p ∈ g, smallP p := fun p hp => by have := gsz_mem hp; unfold psz at this; exact ⟨by omega, by omega⟩
  simp only [run0, run1, run2, run3, run4, run5, run6, run7, run8, run9, run10, run11, run12, run13, run14, run15, run16, run17, run18, run19, run20, run21, run22, reduceCtorEq, Nat.reduceEqDiff, Nat.reduceAdd, Nat.reduceSub, Nat.reduceLeDiff, indexAddrA, indexRefA, appendA, strA, Nat.reduceMul, Nat.zero_mul, Nat.reduceMod, Int.reduceEq, Int.reduceLT, Int.reduceLE, Nat.reduceLT, Nat.lt_irrefl, Nat.reduceBEq, tys0, tys1, tys2, tys3, tys4, tys5, tys6, tys7, tys8, tys9, tys10, tys11, tys12, tys13, tys14, tys15, tys16, tys17, tys18, tys19, tys20, tys21, tys22, tys23, Try.ntmps12, Try.results12, e1]
  refine RunL.callp rfl rfl ok_f15 (toPositionS_ok g gl gs) (by simp only [pureL, pureB, pg, Bool.and_self]) rfl ?_
  simp only [run0, run1, run2, run3, run4, run5, run6, run7, run8, run9, run10, run11, run12, run13, run14, run15, run16, run17, run18, run19, run20, run21, run22, reduceCtorEq, Nat.reduceEqDiff, Nat.reduceAdd, Nat.reduceSub, Nat.reduceLeDiff, indexAddrA, indexRefA, appendA, strA, Nat.reduceMul, Nat.zero_mul, Nat.reduceMod, Int.reduceEq, Int.reduceLT, Int.reduceLE, Nat.reduceLT, Nat.lt_irrefl, Nat.reduceBEq, tys0, tys1, tys2, tys3, tys4, tys5, tys6, tys7, tys8, tys9, tys10, tys11, tys12, tys13, tys14, tys15, tys16, tys17, tys18, tys19, tys20, tys21, tys22, tys23, Try.ntmps12, Try.results12]
  refine RunL.callp rfl rfl ok_f43 (specNumT_ok g x1 gl gs) (by simp only [pureL, pureB, pg, Bool.and_self]) rfl ?_
  simp only [run0, run1, run2, run3, run4, run5, run6, run7, run8, run9, run10, run11, run12, run13, run14, run15, run16, run17, run18, run19, run20, run21, run22, reduceCtorEq, Nat.reduceEqDiff, Nat.reduceAdd, Nat.reduceSub, Nat.reduceLeDiff, indexAddrA, indexRefA, appendA, strA, Nat.reduceMul, Nat.zero_mul, Nat.reduceMod, Int.reduceEq, Int.reduceLT, Int.reduceLE, Nat.reduceLT, Nat.lt_irrefl, Nat.reduceBEq, tys0, tys1, tys2, tys3, tys4, tys5, tys6, tys7, tys8, tys9, tys10, tys11, tys12, tys13, tys14, tys15, tys16, tys17, tys18, tys19, tys20, tys21, tys22, tys23, Try.ntmps12, Try.results12, numT]
  refine RunL.callp rfl rfl ok_f15 (toPositionS_ok g gl gs) (by simp only [pureL, pureB, pg, Bool.and_self]) rfl ?_
  simp only [run0, run1, run2, run3, run4, run5, run6, run7, run8, run9, run10, run11, run12, run13, run14, run15, run16, run17, run18, run19, run20, run21, run22, reduceCtorEq, Nat.reduceEqDiff, Nat.reduceAdd, Nat.reduceSub, Nat.reduceLeDiff, indexAddrA, indexRefA, appendA, strA, Nat.reduceMul, Nat.zero_mul, Nat.reduceMod, Int.reduceEq, Int.reduceLT, Int.reduceLE, Nat.reduceLT, Nat.lt_irrefl, Nat.reduceBEq, tys0, tys1, tys2, tys3, tys4, tys5, tys6, tys7, tys8, tys9, tys10, tys11, tys12, tys13, tys14, tys15, tys16, tys17, tys18, tys19, tys20, tys21, tys22, tys23, Try.ntmps12, Try.results12]
  refine RunL.callp rfl rfl ok_f44 (implNumT_ok g x1 gl gs) (by simp only [pureL, pureB, pg, Bool.and_self]) rfl ?_
  simp only [run0, run1, run2, run3, run4, run5, run6, run7, run8, run9, run10, run11, run12, run13, run14, run15, run16, run17, run18, run19, run20, run21, run22, reduceCtorEq, Nat.reduceEqDiff, Nat.reduceAdd, Nat.reduceSub, Nat.reduceLeDiff, indexAddrA, indexRefA, appendA, strA, Nat.reduceMul, Nat.zero_mul, Nat.reduceMod, Int.reduceEq, Int.reduceLT, Int.reduceLE, Nat.reduceLT, Nat.lt_irrefl, Nat.reduceBEq, tys0, tys1, tys2, tys3, tys4, tys5, tys6, tys7, tys8, tys9, tys10, tys11, tys12, tys13, tys14, tys15, tys16, tys17, tys18, tys19, tys20, tys21, tys22, tys23, Try.ntmps12, Try.results12, numT, bne_self_eq_false]
  refine RunL.callp rfl rfl ok_f35 (eqFraction_ok _ _) (by first | rfl | simp only [pureL, pureB, Bool.and_self, Bool.and_true, Bool.true_and]) rfl ?_
  simp only [run0, run1, run2, run3, run4, run5, run6, run7, run8, run9, run10, run11, run12, run13, run14, run15, run16, run17, run18, run19, run20, run21, run22, reduceCtorEq, Nat.reduceEqDiff, Nat.reduceAdd, Nat.reduceSub, Nat.reduceLeDiff, indexAddrA, indexRefA, appendA, strA, Nat.reduceMul, Nat.zero_mul, Nat.reduceMod, Int.reduceEq, Int.reduceLT, Int.reduceLE, Nat.reduceLT, Nat.lt_irrefl, Nat.reduceBEq, tys0, tys1, tys2, tys3, tys4, tys5, tys6, tys7, tys8, tys9, tys10, tys11, tys12, tys13, tys14, tys15, tys16, tys17, tys18, tys19, tys20, tys21, tys22, tys23, Try.ntmps12, Try.results12, bne_self_eq_false]
  refine RunL.callp rfl rfl ok_f15 (toPositionS_ok g gl gs) (by simp only [pureL, pureB, pg, Bool.and_self]) rfl ?_
  simp only [run0, run1, run2, run3, run4, run5, run6, run7, run8, run9, run10, run11, run12, run13, run14, run15, run16, run17, run18, run19, run20, run21, run22, reduceCtorEq, Nat.reduceEqDiff, Nat.reduceAdd, Nat.reduceSub, Nat.reduceLeDiff, indexAddrA, indexRefA, appendA, strA, Nat.reduceMul, Nat.zero_mul, Nat.reduceMod, Int.reduceEq, Int.reduceLT, Int.reduceLE, Nat.reduceLT, Nat.lt_irrefl, Nat.reduceBEq, tys0, tys1, tys2, tys3, tys4, tys5, tys6, tys7, tys8, tys9, tys10, tys11, tys12, tys13, tys14, tys15, tys16, tys17, tys18, tys19, tys20, tys21, tys22, tys23, Try.ntmps12, Try.results12]
  refine RunL.callp rfl rfl ok_f17 (eqPositionS_ok g gl gs) (by simp only [pureL, pureB, pg, Bool.and_self]) rfl ?_
  simp only [run0, run1, run2, run3, run4, run5, run6, run7, run8, run9, run10, run11, run12, run13, run14, run15, run16, run17, run18, run19, run20, run21, run22, reduceCtorEq, Nat.reduceEqDiff, Nat.reduceAdd, Nat.reduceSub, Nat.reduceLeDiff, indexAddrA, indexRefA, appendA, strA, Nat.reduceMul, Nat.zero_mul, Nat.reduceMod, Int.reduceEq, Int.reduceLT, Int.reduceLE, Nat.reduceLT, Nat.lt_irrefl, Nat.reduceBEq, tys0, tys1, tys2, tys3, tys4, tys5, tys6, tys7, tys8, tys9, tys10, tys11, tys12, tys13, tys14, tys15, tys16, tys17, tys18, tys19, tys20, tys21, tys22, tys23, Try.ntmps12, Try.results12]
  exact Fin.eq rfl rfl


end Go.Proofs.Ytllcljajlemmaaa
