/-
  Texts joined in one: GS4, GS5, NW1, NW2, NW3, NW4, NB1, NB3, OP1, NB4, NB5, K27, NB6, NB7.
-/
import Derived.Test.YtllcljajlemmaaaMNimberD
/-
  The simplest number of a cut: the reference's function.
-/
namespace Go.Proofs.Ytllcljajlemmaaa
open Go K
set_option linter.unusedSimpArgs false
set_option linter.unusedVariables false
set_option maxHeartbeats 3200000
set_option maxRecDepth 8000

theorem cmpQ_ok (p q : Fr) : Ct Try.prog 78 [fr p.1 p.2, fr q.1 q.2] [] (.int .i64 (cmpQ p q)) [] := shCmp_ok p.1 p.2 q.1 q.2
theorem shMost_ok (o : Fr) (l : List Fr) (hl : (o :: l).length ≤ 1048576) : Ct Try.prog 124 [.sl false (frE o :: l.map frE)] [] (frE (mostF o l)) [] := by
  have e0 : ((o :: l).map frE)[(0 : Int).toNat]? = some (.agg [.int .i64 o.1, .int .i64 o.2]) := rfl
  rw [show frE o :: l.map frE = (o :: l).map frE from rfl]
  have hm : mostF o (o :: l) = mostF o l := by rw [mostF_cons]; split <;> rfl
  rw [← hm]
  generalize o :: l = m at *
  refine Ct.by_ hmix [] Try.func124 rfl ?_
  simp only [run0, run1, run2, run3, run4, run5, run6, run7, run8, run9, run10, run11, run12, run13, run14, run15, run16, run17, run18, run19, run20, run21, run22, reduceCtorEq, Nat.reduceEqDiff, Nat.reduceAdd, Nat.reduceSub, Nat.reduceLeDiff, indexAddrA, indexRefA, appendA, strA, Nat.reduceMul, Nat.zero_mul, Nat.reduceMod, Int.reduceEq, Int.reduceLT, Int.reduceLE, Nat.reduceLT, Nat.lt_irrefl, Nat.reduceBEq, tys0, tys1, tys2, tys3, tys4, tys5, tys6, tys7, tys8, tys9, tys10, tys11, tys12, tys13, tys14, tys15, tys16, tys17, tys18, tys19, tys20, tys21, tys22, tys23, Try.ntmps124, Try.results124, e0, List.length_map, Int.le_refl]
  refine AWp.loop_inv (ι := FxS × Fr) (fun q => ⟨[.sl false (m.map frE), .junk, .ptr 0 0, .ptr 1 0, .junk, .junk, .junk, .junk, .junk, .sl false (m.map frE), .int .i64 m.length, .int .i64 q.1.d.length, .junk, .junk, .junk, .junk, .junk, .junk, .junk, .junk, .junk, .junk], .box 42 [.int .i64 0, .int .i64 0] :: .box 42 [.int .i64 q.2.1, .int .i64 q.2.2] :: q.1.X⟩)
    (fun q => m = q.1.d ++ q.1.r ∧ mostF q.2 q.1.r = mostF o m) (fun q => q.1.r.length) (⟨[], m, []⟩, o) ⟨rfl, rfl⟩ ⟨by simp only [List.length_nil, Int.natCast_zero]; repeat constructor, rfl⟩ ?_
  rintro ⟨⟨d, r, X⟩, p⟩ ⟨ha, h2⟩
  refine W.sound hmix (E := []) ?_
  simp only at ha h2
  cases r with
  | nil =>
    have e1 := frs_end ha
    simp only [run0, run1, run2, run3, run4, run5, run6, run7, run8, run9, run10, run11, run12, run13, run14, run15, run16, run17, run18, run19, run20, run21, run22, reduceCtorEq, Nat.reduceEqDiff, Nat.reduceAdd, Nat.reduceSub, Nat.reduceLeDiff, indexAddrA, indexRefA, appendA, strA, Nat.reduceMul, Nat.zero_mul, Nat.reduceMod, Int.reduceEq, Int.reduceLT, Int.reduceLE, Nat.reduceLT, Nat.lt_irrefl, Nat.reduceBEq, tys0, tys1, tys2, tys3, tys4, tys5, tys6, tys7, tys8, tys9, tys10, tys11, tys12, tys13, tys14, tys15, tys16, tys17, tys18, tys19, tys20, tys21, tys22, tys23, Try.ntmps124, Try.results124, List.length_map, e1]
    exact Fin.eq (by rw [← h2]; rfl) rfl
  | cons e r =>
    obtain ⟨e1, e2, e5⟩ := frs_split ha hl
    have hc := cmpQ_ok e p
    simp only [fr] at hc
    rw [mostF_cons] at h2
    simp only [run0, run1, run2, run3, run4, run5, run6, run7, run8, run9, run10, run11, run12, run13, run14, run15, run16, run17, run18, run19, run20, run21, run22, reduceCtorEq, Nat.reduceEqDiff, Nat.reduceAdd, Nat.reduceSub, Nat.reduceLeDiff, indexAddrA, indexRefA, appendA, strA, Nat.reduceMul, Nat.zero_mul, Nat.reduceMod, Int.reduceEq, Int.reduceLT, Int.reduceLE, Nat.reduceLT, Nat.lt_irrefl, Nat.reduceBEq, tys0, tys1, tys2, tys3, tys4, tys5, tys6, tys7, tys8, tys9, tys10, tys11, tys12, tys13, tys14, tys15, tys16, tys17, tys18, tys19, tys20, tys21, tys22, tys23, Try.ntmps124, Try.results124, List.length_map, e1, e2, Int.toNat_natCast, Int.natCast_nonneg, List.getElem?_append_right, Nat.sub_self]
    refine RunL.callp rfl rfl ok_f78 (hc) (by first | rfl | simp only [pureL, pureB, Bool.and_self, Bool.and_true, Bool.true_and]) rfl ?_
    by_cases hp : 0 < cmpQ e p
    · rw [if_pos hp] at h2
      simp only [run0, run1, run2, run3, run4, run5, run6, run7, run8, run9, run10, run11, run12, run13, run14, run15, run16, run17, run18, run19, run20, run21, run22, reduceCtorEq, Nat.reduceEqDiff, Nat.reduceAdd, Nat.reduceSub, Nat.reduceLeDiff, indexAddrA, indexRefA, appendA, strA, Nat.reduceMul, Nat.zero_mul, Nat.reduceMod, Int.reduceEq, Int.reduceLT, Int.reduceLE, Nat.reduceLT, Nat.lt_irrefl, Nat.reduceBEq, tys0, tys1, tys2, tys3, tys4, tys5, tys6, tys7, tys8, tys9, tys10, tys11, tys12, tys13, tys14, tys15, tys16, tys17, tys18, tys19, tys20, tys21, tys22, tys23, Try.ntmps124, Try.results124, hp, e5]
      exact ⟨(⟨d ++ [e], r, _⟩, e), ⟨by simp [ha], h2⟩, by simp, by simp only [List.length_append, List.length_cons, List.length_nil]; repeat constructor, rfl⟩
    · rw [if_neg hp] at h2
      simp only [run0, run1, run2, run3, run4, run5, run6, run7, run8, run9, run10, run11, run12, run13, run14, run15, run16, run17, run18, run19, run20, run21, run22, reduceCtorEq, Nat.reduceEqDiff, Nat.reduceAdd, Nat.reduceSub, Nat.reduceLeDiff, indexAddrA, indexRefA, appendA, strA, Nat.reduceMul, Nat.zero_mul, Nat.reduceMod, Int.reduceEq, Int.reduceLT, Int.reduceLE, Nat.reduceLT, Nat.lt_irrefl, Nat.reduceBEq, tys0, tys1, tys2, tys3, tys4, tys5, tys6, tys7, tys8, tys9, tys10, tys11, tys12, tys13, tys14, tys15, tys16, tys17, tys18, tys19, tys20, tys21, tys22, tys23, Try.ntmps124, Try.results124, hp, e5]
      exact ⟨(⟨d ++ [e], r, _⟩, p), ⟨by simp [ha], h2⟩, by simp, by simp only [List.length_append, List.length_cons, List.length_nil]; repeat constructor, rfl⟩
theorem Vw_frs {L : List AObj} {id g n : Nat} {T : TypeId} {es : List AV} {l : List Fr} {o : Bool} (hL : L[id]? = some (.vec T 2 g es)) (he : es = l.map frE) (hn : n = l.length) : Vw L (.ref id [] g n) (.sl o (l.map frE)) := by
  subst he hn
  have := Vw.refPur (L := L) (id := id) (g := g) (n := l.length) (o := o) hL (by simp) (fun e he c hc => by
    obtain ⟨e', _, rfl⟩ := List.mem_map.1 he
    simp only [frE, AV.cells, List.mem_cons, List.not_mem_nil, or_false] at hc
    rcases hc with rfl | rfl <;> exact ⟨.of rfl, fun xs h => by cases h⟩)
  rwa [List.take_of_length_le (by simp)] at this
theorem shNegAll_ok (l : List Fr) (hl : l.length ≤ 1048576) : Ct Try.prog 126 [.sl false (l.map frE)] [] (.sl false ((l.map negF).map frE)) [] := by
  refine Ct.by_ hmix [] Try.func126 rfl ?_
  simp only [run0, run1, run2, run3, run4, run5, run6, run7, run8, run9, run10, run11, run12, run13, run14, run15, run16, run17, run18, run19, run20, run21, run22, reduceCtorEq, Nat.reduceEqDiff, Nat.reduceAdd, Nat.reduceSub, Nat.reduceLeDiff, indexAddrA, indexRefA, appendA, strA, Nat.reduceMul, Nat.zero_mul, Nat.reduceMod, Int.reduceEq, Int.reduceLT, Int.reduceLE, Nat.reduceLT, Nat.lt_irrefl, Nat.reduceBEq, tys0, tys1, tys2, tys3, tys4, tys5, tys6, tys7, tys8, tys9, tys10, tys11, tys12, tys13, tys14, tys15, tys16, tys17, tys18, tys19, tys20, tys21, tys22, tys23, Try.ntmps126, Try.results126, List.length_map]
  refine AWp.nil 3 42 2 rfl ?_
  refine AWp.loop_inv (ι := FxS) (fun q => ⟨[.sl false (l.map frE), .junk, nilV, .ref 0 [] q.d.length q.d.length, .junk, .junk, .sl false (l.map frE), .int .i64 l.length, .int .i64 q.d.length, .junk, .junk, .junk, .junk, .junk, .junk, .junk, .junk, .junk, .junk], .vec 42 2 q.d.length ((q.d.map negF).map frE) :: q.X⟩)
    (fun q => l = q.d ++ q.r) (fun q => q.r.length) ⟨[], l, []⟩ rfl ⟨by simp only [List.length_nil, Int.natCast_zero]; repeat constructor, rfl⟩ ?_
  rintro ⟨d, r, X⟩ ha
  refine W.sound hmix (E := []) ?_
  simp only at ha
  cases r with
  | nil =>
    have e1 := frs_end ha
    rw [List.append_nil] at ha
    subst ha
    simp only [run0, run1, run2, run3, run4, run5, run6, run7, run8, run9, run10, run11, run12, run13, run14, run15, run16, run17, run18, run19, run20, run21, run22, reduceCtorEq, Nat.reduceEqDiff, Nat.reduceAdd, Nat.reduceSub, Nat.reduceLeDiff, indexAddrA, indexRefA, appendA, strA, Nat.reduceMul, Nat.zero_mul, Nat.reduceMod, Int.reduceEq, Int.reduceLT, Int.reduceLE, Nat.reduceLT, Nat.lt_irrefl, Nat.reduceBEq, tys0, tys1, tys2, tys3, tys4, tys5, tys6, tys7, tys8, tys9, tys10, tys11, tys12, tys13, tys14, tys15, tys16, tys17, tys18, tys19, tys20, tys21, tys22, tys23, Try.ntmps126, Try.results126, List.length_map, e1]
    exact Fin.value (Vw_frs rfl rfl (by simp))
  | cons e r =>
    obtain ⟨e1, e2, e5⟩ := frs_split ha hl
    have hda : l.length = d.length + (r.length + 1) := by rw [ha]; simp
    have hc := shNeg_ok e.1 e.2
    simp only [fr] at hc
    have f3 : d.length + 1 ≤ 137438953472 := by omega
    have f4 := frs_noOwn (d.map negF)
    simp only [run0, run1, run2, run3, run4, run5, run6, run7, run8, run9, run10, run11, run12, run13, run14, run15, run16, run17, run18, run19, run20, run21, run22, reduceCtorEq, Nat.reduceEqDiff, Nat.reduceAdd, Nat.reduceSub, Nat.reduceLeDiff, indexAddrA, indexRefA, appendA, strA, Nat.reduceMul, Nat.zero_mul, Nat.reduceMod, Int.reduceEq, Int.reduceLT, Int.reduceLE, Nat.reduceLT, Nat.lt_irrefl, Nat.reduceBEq, tys0, tys1, tys2, tys3, tys4, tys5, tys6, tys7, tys8, tys9, tys10, tys11, tys12, tys13, tys14, tys15, tys16, tys17, tys18, tys19, tys20, tys21, tys22, tys23, Try.ntmps126, Try.results126, List.length_map, e1, e2, Int.toNat_natCast, Int.natCast_nonneg, List.getElem?_append_right, Nat.sub_self]
    refine RunL.callp rfl rfl ok_f125 (hc) (by first | rfl | simp only [pureL, pureB, Bool.and_self, Bool.and_true, Bool.true_and]) rfl ?_
    simp only [run0, run1, run2, run3, run4, run5, run6, run7, run8, run9, run10, run11, run12, run13, run14, run15, run16, run17, run18, run19, run20, run21, run22, reduceCtorEq, Nat.reduceEqDiff, Nat.reduceAdd, Nat.reduceSub, Nat.reduceLeDiff, indexAddrA, indexRefA, appendA, strA, Nat.reduceMul, Nat.zero_mul, Nat.reduceMod, Int.reduceEq, Int.reduceLT, Int.reduceLE, Nat.reduceLT, Nat.lt_irrefl, Nat.reduceBEq, tys0, tys1, tys2, tys3, tys4, tys5, tys6, tys7, tys8, tys9, tys10, tys11, tys12, tys13, tys14, tys15, tys16, tys17, tys18, tys19, tys20, tys21, tys22, tys23, Try.ntmps126, Try.results126, List.length_map, e5, f3, f4]
    exact ⟨⟨d ++ [e], r, X ++ [.box 42 [.int .i64 e.1, .int .i64 e.2]]⟩, by simp [ha], by simp, by simp only [List.length_append, List.length_cons, List.length_nil]; repeat constructor, by simp [frE, negF]⟩

/-! ### what the loop comes to -/
theorem bad_both {l r : List Fr} {x : Int} (hl : ∀ a ∈ l, FB a) (hr : ∀ a ∈ r, FB a) (hx : x.natAbs ≤ 50000000) (h1 : l.any (leB x) = true) (h2 : r.any (geB x) = true) : cutBad l r = true := by
  obtain ⟨a, ha, k1⟩ := List.any_eq_true.1 h1
  obtain ⟨b, hb, k2⟩ := List.any_eq_true.1 h2
  rcases no_between hx (cut_small l r).1 (hl a ha) (hr b hb) k1 k2 with h | h
  · simp only [cutBad, List.any_eq_true.2 ⟨a, ha, h⟩, Bool.true_or]
  · simp only [cutBad, List.any_eq_true.2 ⟨b, hb, h⟩, Bool.or_true]
structure SiS where
  n : Nat
  i : Wk
  s : Sw
  X : List AObj
structure SiI (l r : List Fr) (p : SiS) : Prop where
  size : p.i.word.size = p.n
  rl : Rl p.i p.s
  wj : Wj p.i
  zero : p.n = 0 → p.i.low = [] ∧ p.i.high = []
  run : wkRun (cutS l r) (21 - p.n) p.i = wkRun (cutS l r) 21 wk0
theorem SiI.start (l r : List Fr) : SiI l r ⟨0, wk0, sw0, []⟩ := ⟨rfl, ⟨at_zero, by decide, ⟨0, rfl⟩, rfl, rfl⟩, wj0, fun _ => ⟨rfl, rfl⟩, rfl⟩
theorem SiI.small {l r : List Fr} {p : SiS} (h : SiI l r p) (hn : p.n ≤ 20) : p.i.x.natAbs ≤ 50000000 := by
  have := h.rl.size
  have := h.size
  omega
theorem wkRun_succ (f : Int → Int) (k : Nat) (i : Wk) : wkRun f (k + 1) i = if f i.x = 0 ∨ i.word.size = 20 then { i with nums := i.nums ++ [i.x] } else if 0 < f i.x then wkRun f k ⟨i.nums ++ [i.x], i.word ++ plusB, i.low ++ [i.x], i.high, betw i.x (f i.x) (i.low ++ [i.x]) i.high⟩ else wkRun f k ⟨i.nums ++ [i.x], i.word ++ minusB, i.low, i.high ++ [i.x], betw i.x (f i.x) i.low (i.high ++ [i.x])⟩ := rfl
theorem SiI.stop {l r : List Fr} {p : SiS} (h : SiI l r p) (hn : p.n ≤ 20) (hs : cutS l r p.i.x = 0 ∨ p.n = 20) : cutX l r = p.i.x := by
  have h1 := h.run
  rw [show 21 - p.n = (20 - p.n) + 1 by omega] at h1
  rw [wkRun_succ (cutS l r) (20 - p.n) p.i] at h1
  rw [if_pos (by rw [h.size]; exact hs)] at h1
  unfold cutX
  rw [← h1]; simp
theorem SiI.none_ {l r : List Fr} {p : SiS} (h : SiI l r p) (hn : p.n ≤ 20) (h1 : l.any (leB p.i.x) = false) (h2 : r.any (geB p.i.x) = false) : simR l r = .tup [fr p.s.an p.s.ad, .bool true] := by
  have hx := h.stop hn (.inl (by simp [cutS, h1, h2]))
  have hb : cutBad l r = false := by simp [cutBad, hx, h1, h2]
  have hok := h.wj.ok (by rw [h.size]; exact hn)
  have ha := h.rl.at_
  simp only [simR, hb, hx, Bool.false_eq_true, if_false, Bool.not_false, frE, fr]
  unfold frN frD
  rw [if_pos hok, if_pos hok, ← ha.1, ← ha.2]
theorem SiI.up {l r : List Fr} {p : SiS} (h : SiI l r p) (hn : p.n ≤ 20) (h1 : l.any (leB p.i.x) = true) (X : List AObj) : swOk p.s true ∧ ((p.n = 20 ∧ cutBad l r = true) ∨ (p.n + 1 ≤ 20 ∧ SiI l r ⟨p.n + 1, stepP p.i, swStep p.s true, X⟩)) := by
  refine ⟨last_ok h.rl (by rw [h.size]; exact hn) true, ?_⟩
  by_cases h20 : p.n = 20
  · have hx := h.stop hn (.inr h20)
    exact .inl ⟨h20, by simp [cutBad, hx, h1]⟩
  · refine .inr ⟨by omega, ?_⟩
    obtain ⟨k1, k2⟩ := plus_rl h.rl (by rw [h.size]; omega)
    have hc : cutS l r p.i.x = 1 := by simp [cutS, h1]
    have hrun := h.run
    rw [show 21 - p.n = (21 - (p.n + 1)) + 1 by omega] at hrun
    rw [wkRun_succ (cutS l r) (21 - (p.n + 1)) p.i] at hrun
    rw [if_neg (by rw [h.size, hc]; omega), if_pos (by rw [hc]; omega), hc] at hrun
    exact ⟨by simp only [stepP, size_plus, h.size], k2, h.wj.plus (by rw [h.size]; omega) (fun e => (h.zero (by rw [← h.size]; exact e)).2), fun e => by simp at e, hrun⟩
theorem SiI.down {l r : List Fr} {p : SiS} (h : SiI l r p) (hn : p.n ≤ 20) (h1 : l.any (leB p.i.x) = false) (h2 : r.any (geB p.i.x) = true) (X : List AObj) : swOk p.s false ∧ ((p.n = 20 ∧ cutBad l r = true) ∨ (p.n + 1 ≤ 20 ∧ SiI l r ⟨p.n + 1, stepM p.i, swStep p.s false, X⟩)) := by
  refine ⟨last_ok h.rl (by rw [h.size]; exact hn) false, ?_⟩
  by_cases h20 : p.n = 20
  · have hx := h.stop hn (.inr h20)
    exact .inl ⟨h20, by simp [cutBad, hx, h2]⟩
  · refine .inr ⟨by omega, ?_⟩
    obtain ⟨k1, k2⟩ := minus_rl h.rl (by rw [h.size]; omega)
    have hc : cutS l r p.i.x = -1 := by simp [cutS, h1, h2]
    have hrun := h.run
    rw [show 21 - p.n = (21 - (p.n + 1)) + 1 by omega] at hrun
    rw [wkRun_succ (cutS l r) (21 - (p.n + 1)) p.i] at hrun
    rw [if_neg (by rw [h.size, hc]; omega), if_neg (by rw [hc]; omega), hc] at hrun
    exact ⟨by simp only [stepM, size_minus, h.size], k2, h.wj.minus (by rw [h.size]; omega) (fun e => (h.zero (by rw [← h.size]; exact e)).1), fun e => by simp at e, hrun⟩
theorem SiI.ge {l r : List Fr} {p : SiS} (h : SiI l r p) (hn : p.n ≤ 20) {o : Fr} {l' : List Fr} (hl : ∀ a ∈ o :: l', FB a) : (0 ≤ cmpQ (mostF o l') (p.s.an, p.s.ad)) ↔ (o :: l').any (leB p.i.x) = true := by
  have hx := h.small hn
  obtain ⟨h1, _⟩ := mostF_spec l' o (hl o (by simp)) (fun a ha => hl a (by simp [ha]))
  obtain ⟨b1, b2, b3, b4⟩ := hl _ h1
  rw [← up_any hx hl, side_le, decide_eq_true_eq]
  have := at_cmp (n := (mostF o l').1) (d := (mostF o l').2) h.rl.at_ hx (by omega) (by omega) (by omega)
  unfold cmpQ
  rw [this]
theorem SiI.le {l r : List Fr} {p : SiS} (h : SiI l r p) (hn : p.n ≤ 20) {o : Fr} {l' : List Fr} (hl : ∀ a ∈ o :: l', FB a) : (cmpQ (leastF o l') (p.s.an, p.s.ad) ≤ 0) ↔ (o :: l').any (geB p.i.x) = true := by
  have hx := h.small hn
  obtain ⟨h1, _⟩ := leastF_spec o l' hl
  obtain ⟨b1, b2, b3, b4⟩ := hl _ h1
  rw [← down_any hx hl, side_ge, decide_eq_true_eq]
  have := at_cmp (n := (leastF o l').1) (d := (leastF o l').2) h.rl.at_ hx (by omega) (by omega) (by omega)
  unfold cmpQ
  rw [this]

def swC (s : Sw) : List AV := [.int .i64 s.an, .int .i64 s.ad, .int .i64 s.ln, .int .i64 s.ld, .int .i64 s.hn, .int .i64 s.hd, .bool s.hasL, .bool s.hasH]
theorem shSimplest_nn  (hll : ([] : List Fr).length ≤ 1048576) (hrl : ([] : List Fr).length ≤ 1048576) (hl : ∀ a ∈ ([] : List Fr), FB a) (hr : ∀ a ∈ ([] : List Fr), FB a) : Ct Try.prog 80 [.sl false [], .sl false []] [] (simR ([] : List Fr) ([] : List Fr)) [] := by
  refine Ct.by_ hmix [] Try.func80 rfl ?_
  simp only [run0, run1, run2, run3, run4, run5, run6, run7, run8, run9, run10, run11, run12, run13, run14, run15, run16, run17, run18, run19, run20, run21, run22, reduceCtorEq, Nat.reduceEqDiff, Nat.reduceAdd, Nat.reduceSub, Nat.reduceLeDiff, indexAddrA, indexRefA, appendA, strA, Nat.reduceMul, Nat.zero_mul, Nat.reduceMod, Int.reduceEq, Int.reduceLT, Int.reduceLE, Nat.reduceLT, Nat.lt_irrefl, Nat.reduceBEq, tys0, tys1, tys2, tys3, tys4, tys5, tys6, tys7, tys8, tys9, tys10, tys11, tys12, tys13, tys14, tys15, tys16, tys17, tys18, tys19, tys20, tys21, tys22, tys23, Try.ntmps80, Try.results80, swV]
  refine RunL.callp rfl rfl ok_f123 (shStart_ok) (by first | rfl | simp only [pureL, pureB, Bool.and_self, Bool.and_true, Bool.true_and]) rfl ?_
  simp only [run0, run1, run2, run3, run4, run5, run6, run7, run8, run9, run10, run11, run12, run13, run14, run15, run16, run17, run18, run19, run20, run21, run22, reduceCtorEq, Nat.reduceEqDiff, Nat.reduceAdd, Nat.reduceSub, Nat.reduceLeDiff, indexAddrA, indexRefA, appendA, strA, Nat.reduceMul, Nat.zero_mul, Nat.reduceMod, Int.reduceEq, Int.reduceLT, Int.reduceLE, Nat.reduceLT, Nat.lt_irrefl, Nat.reduceBEq, tys0, tys1, tys2, tys3, tys4, tys5, tys6, tys7, tys8, tys9, tys10, tys11, tys12, tys13, tys14, tys15, tys16, tys17, tys18, tys19, tys20, tys21, tys22, tys23, Try.ntmps80, Try.results80, swV]
  refine AWp.loop_inv (ι := SiS) (fun p => ⟨[.sl false [], .sl false [], .junk, .junk, .ptr 0 0, .bool false, .ptr 1 0, .int .i64 p.n, .junk, .junk, .junk, .junk, .junk, .junk, .junk, .junk, .junk, .junk, .junk, .junk, .junk, .junk, .junk, .junk, .junk, .junk, .junk, .junk, .junk, .junk, .junk, .junk, .junk, .junk, .junk, .junk, .junk, .junk, .junk, .junk, .junk, .junk, .junk, .junk, .junk, .junk, .junk, .junk, .junk, .junk, .junk, .junk, .junk, .junk, .junk, .junk], .box 42 [.int .i64 0, .int .i64 0] :: .box 144 (swC p.s) :: p.X⟩)
    (fun p => (p.n = 21 ∧ cutBad ([] : List Fr) ([] : List Fr) = true) ∨ (p.n ≤ 20 ∧ SiI ([] : List Fr) ([] : List Fr) p)) (fun p => 21 - p.n) ⟨0, wk0, sw0, []⟩ (.inr ⟨by decide, SiI.start _ _⟩) ⟨by simp only [Int.natCast_zero]; repeat constructor, rfl⟩ ?_
  rintro p hI
  refine W.sound hmix (E := []) ?_
  rcases hI with ⟨hn, hbad⟩ | ⟨hn, hI⟩
  · have e1 : ¬ ((p.n : Int) ≤ 20) := by omega
    simp only [run0, run1, run2, run3, run4, run5, run6, run7, run8, run9, run10, run11, run12, run13, run14, run15, run16, run17, run18, run19, run20, run21, run22, reduceCtorEq, Nat.reduceEqDiff, Nat.reduceAdd, Nat.reduceSub, Nat.reduceLeDiff, indexAddrA, indexRefA, appendA, strA, Nat.reduceMul, Nat.zero_mul, Nat.reduceMod, Int.reduceEq, Int.reduceLT, Int.reduceLE, Nat.reduceLT, Nat.lt_irrefl, Nat.reduceBEq, tys0, tys1, tys2, tys3, tys4, tys5, tys6, tys7, tys8, tys9, tys10, tys11, tys12, tys13, tys14, tys15, tys16, tys17, tys18, tys19, tys20, tys21, tys22, tys23, Try.ntmps80, Try.results80, e1]
    exact Fin.eq (by simp [simR, hbad, frE]) rfl
  have e1 : (p.n : Int) ≤ 20 := by omega
  have e5 : IntKind.i64.wrap ((p.n : Int) + 1) = ((p.n + 1 : Nat) : Int) := by rw [i64_id (by omega) (by omega)]; simp
  have hx := hI.small hn
  simp only [run0, run1, run2, run3, run4, run5, run6, run7, run8, run9, run10, run11, run12, run13, run14, run15, run16, run17, run18, run19, run20, run21, run22, reduceCtorEq, Nat.reduceEqDiff, Nat.reduceAdd, Nat.reduceSub, Nat.reduceLeDiff, indexAddrA, indexRefA, appendA, strA, Nat.reduceMul, Nat.zero_mul, Nat.reduceMod, Int.reduceEq, Int.reduceLT, Int.reduceLE, Nat.reduceLT, Nat.lt_irrefl, Nat.reduceBEq, tys0, tys1, tys2, tys3, tys4, tys5, tys6, tys7, tys8, tys9, tys10, tys11, tys12, tys13, tys14, tys15, tys16, tys17, tys18, tys19, tys20, tys21, tys22, tys23, Try.ntmps80, Try.results80, swC, e1, List.length_map, Int.natCast_zero, Int.lt_irrefl]
  refine ⟨by kernel_rfl, ?_⟩
  refine ⟨by kernel_rfl, ?_⟩
  exact Fin.eq (by rw [hI.none_ hn rfl rfl]; rfl) rfl
theorem shSimplest_cn (o : Fr) (l : List Fr) (hll : (o :: l).length ≤ 1048576) (hrl : ([] : List Fr).length ≤ 1048576) (hl : ∀ a ∈ (o :: l), FB a) (hr : ∀ a ∈ ([] : List Fr), FB a) : Ct Try.prog 80 [.sl false (frE o :: l.map frE), .sl false []] [] (simR (o :: l) ([] : List Fr)) [] := by
  have pl : pureL (l.map frE) = true := frs_pure l
  have hlen : ((0 : Int) < ((l.length + 1 : Nat) : Int)) := by omega
  refine Ct.by_ hmix [] Try.func80 rfl ?_
  simp only [run0, run1, run2, run3, run4, run5, run6, run7, run8, run9, run10, run11, run12, run13, run14, run15, run16, run17, run18, run19, run20, run21, run22, reduceCtorEq, Nat.reduceEqDiff, Nat.reduceAdd, Nat.reduceSub, Nat.reduceLeDiff, indexAddrA, indexRefA, appendA, strA, Nat.reduceMul, Nat.zero_mul, Nat.reduceMod, Int.reduceEq, Int.reduceLT, Int.reduceLE, Nat.reduceLT, Nat.lt_irrefl, Nat.reduceBEq, tys0, tys1, tys2, tys3, tys4, tys5, tys6, tys7, tys8, tys9, tys10, tys11, tys12, tys13, tys14, tys15, tys16, tys17, tys18, tys19, tys20, tys21, tys22, tys23, Try.ntmps80, Try.results80, swV]
  refine RunL.callp rfl rfl ok_f123 (shStart_ok) (by first | rfl | simp only [pureL, pureB, Bool.and_self, Bool.and_true, Bool.true_and]) rfl ?_
  simp only [run0, run1, run2, run3, run4, run5, run6, run7, run8, run9, run10, run11, run12, run13, run14, run15, run16, run17, run18, run19, run20, run21, run22, reduceCtorEq, Nat.reduceEqDiff, Nat.reduceAdd, Nat.reduceSub, Nat.reduceLeDiff, indexAddrA, indexRefA, appendA, strA, Nat.reduceMul, Nat.zero_mul, Nat.reduceMod, Int.reduceEq, Int.reduceLT, Int.reduceLE, Nat.reduceLT, Nat.lt_irrefl, Nat.reduceBEq, tys0, tys1, tys2, tys3, tys4, tys5, tys6, tys7, tys8, tys9, tys10, tys11, tys12, tys13, tys14, tys15, tys16, tys17, tys18, tys19, tys20, tys21, tys22, tys23, Try.ntmps80, Try.results80, swV]
  refine AWp.loop_inv (ι := SiS) (fun p => ⟨[.sl false (frE o :: l.map frE), .sl false [], .junk, .junk, .ptr 0 0, .bool false, .ptr 1 0, .int .i64 p.n, .junk, .junk, .junk, .junk, .junk, .junk, .junk, .junk, .junk, .junk, .junk, .junk, .junk, .junk, .junk, .junk, .junk, .junk, .junk, .junk, .junk, .junk, .junk, .junk, .junk, .junk, .junk, .junk, .junk, .junk, .junk, .junk, .junk, .junk, .junk, .junk, .junk, .junk, .junk, .junk, .junk, .junk, .junk, .junk, .junk, .junk, .junk, .junk], .box 42 [.int .i64 0, .int .i64 0] :: .box 144 (swC p.s) :: p.X⟩)
    (fun p => (p.n = 21 ∧ cutBad (o :: l) ([] : List Fr) = true) ∨ (p.n ≤ 20 ∧ SiI (o :: l) ([] : List Fr) p)) (fun p => 21 - p.n) ⟨0, wk0, sw0, []⟩ (.inr ⟨by decide, SiI.start _ _⟩) ⟨by simp only [Int.natCast_zero]; repeat constructor, rfl⟩ ?_
  rintro p hI
  refine W.sound hmix (E := []) ?_
  rcases hI with ⟨hn, hbad⟩ | ⟨hn, hI⟩
  · have e1 : ¬ ((p.n : Int) ≤ 20) := by omega
    simp only [run0, run1, run2, run3, run4, run5, run6, run7, run8, run9, run10, run11, run12, run13, run14, run15, run16, run17, run18, run19, run20, run21, run22, reduceCtorEq, Nat.reduceEqDiff, Nat.reduceAdd, Nat.reduceSub, Nat.reduceLeDiff, indexAddrA, indexRefA, appendA, strA, Nat.reduceMul, Nat.zero_mul, Nat.reduceMod, Int.reduceEq, Int.reduceLT, Int.reduceLE, Nat.reduceLT, Nat.lt_irrefl, Nat.reduceBEq, tys0, tys1, tys2, tys3, tys4, tys5, tys6, tys7, tys8, tys9, tys10, tys11, tys12, tys13, tys14, tys15, tys16, tys17, tys18, tys19, tys20, tys21, tys22, tys23, Try.ntmps80, Try.results80, e1]
    exact Fin.eq (by simp [simR, hbad, frE]) rfl
  have e1 : (p.n : Int) ≤ 20 := by omega
  have e5 : IntKind.i64.wrap ((p.n : Int) + 1) = ((p.n + 1 : Nat) : Int) := by rw [i64_id (by omega) (by omega)]; simp
  have hx := hI.small hn
  have hge := hI.ge hn hl
  have hc1 := cmpQ_ok (mostF o l) (p.s.an, p.s.ad)
  simp only [fr, frE] at hc1
  rcases hU : (o :: l).any (leB p.i.x) with _ | _
  · have u1 : ¬ (0 ≤ cmpQ (mostF o l) (p.s.an, p.s.ad)) := (fun e => by rw [hge.1 e] at hU; cases hU)
    simp only [run0, run1, run2, run3, run4, run5, run6, run7, run8, run9, run10, run11, run12, run13, run14, run15, run16, run17, run18, run19, run20, run21, run22, reduceCtorEq, Nat.reduceEqDiff, Nat.reduceAdd, Nat.reduceSub, Nat.reduceLeDiff, indexAddrA, indexRefA, appendA, strA, Nat.reduceMul, Nat.zero_mul, Nat.reduceMod, Int.reduceEq, Int.reduceLT, Int.reduceLE, Nat.reduceLT, Nat.lt_irrefl, Nat.reduceBEq, tys0, tys1, tys2, tys3, tys4, tys5, tys6, tys7, tys8, tys9, tys10, tys11, tys12, tys13, tys14, tys15, tys16, tys17, tys18, tys19, tys20, tys21, tys22, tys23, Try.ntmps80, Try.results80, swC, e1, List.length_map, Int.natCast_zero, Int.lt_irrefl, hlen, u1]
    refine ⟨by kernel_rfl, ?_⟩
    refine RunL.callp rfl rfl ok_f124 (shMost_ok o l hll) (by simp only [pureL, pureB, frE, pl, Bool.and_self, Bool.and_true, Bool.true_and]) rfl ?_
    simp only [run0, run1, run2, run3, run4, run5, run6, run7, run8, run9, run10, run11, run12, run13, run14, run15, run16, run17, run18, run19, run20, run21, run22, reduceCtorEq, Nat.reduceEqDiff, Nat.reduceAdd, Nat.reduceSub, Nat.reduceLeDiff, indexAddrA, indexRefA, appendA, strA, Nat.reduceMul, Nat.zero_mul, Nat.reduceMod, Int.reduceEq, Int.reduceLT, Int.reduceLE, Nat.reduceLT, Nat.lt_irrefl, Nat.reduceBEq, tys0, tys1, tys2, tys3, tys4, tys5, tys6, tys7, tys8, tys9, tys10, tys11, tys12, tys13, tys14, tys15, tys16, tys17, tys18, tys19, tys20, tys21, tys22, tys23, Try.ntmps80, Try.results80, swC, frE]
    refine RunL.callp rfl rfl ok_f78 (hc1) (by first | rfl | simp only [pureL, pureB, Bool.and_self, Bool.and_true, Bool.true_and]) rfl ?_
    simp only [run0, run1, run2, run3, run4, run5, run6, run7, run8, run9, run10, run11, run12, run13, run14, run15, run16, run17, run18, run19, run20, run21, run22, reduceCtorEq, Nat.reduceEqDiff, Nat.reduceAdd, Nat.reduceSub, Nat.reduceLeDiff, indexAddrA, indexRefA, appendA, strA, Nat.reduceMul, Nat.zero_mul, Nat.reduceMod, Int.reduceEq, Int.reduceLT, Int.reduceLE, Nat.reduceLT, Nat.lt_irrefl, Nat.reduceBEq, tys0, tys1, tys2, tys3, tys4, tys5, tys6, tys7, tys8, tys9, tys10, tys11, tys12, tys13, tys14, tys15, tys16, tys17, tys18, tys19, tys20, tys21, tys22, tys23, Try.ntmps80, Try.results80, swC, e1, List.length_map, Int.natCast_zero, Int.lt_irrefl, hlen, u1]
    refine ⟨by kernel_rfl, ?_⟩
    exact Fin.eq (by rw [hI.none_ hn hU rfl]; rfl) rfl
  · have u1 : (0 ≤ cmpQ (mostF o l) (p.s.an, p.s.ad)) := hge.2 hU
    simp only [run0, run1, run2, run3, run4, run5, run6, run7, run8, run9, run10, run11, run12, run13, run14, run15, run16, run17, run18, run19, run20, run21, run22, reduceCtorEq, Nat.reduceEqDiff, Nat.reduceAdd, Nat.reduceSub, Nat.reduceLeDiff, indexAddrA, indexRefA, appendA, strA, Nat.reduceMul, Nat.zero_mul, Nat.reduceMod, Int.reduceEq, Int.reduceLT, Int.reduceLE, Nat.reduceLT, Nat.lt_irrefl, Nat.reduceBEq, tys0, tys1, tys2, tys3, tys4, tys5, tys6, tys7, tys8, tys9, tys10, tys11, tys12, tys13, tys14, tys15, tys16, tys17, tys18, tys19, tys20, tys21, tys22, tys23, Try.ntmps80, Try.results80, swC, e1, List.length_map, Int.natCast_zero, Int.lt_irrefl, hlen, u1]
    refine ⟨by kernel_rfl, ?_⟩
    refine RunL.callp rfl rfl ok_f124 (shMost_ok o l hll) (by simp only [pureL, pureB, frE, pl, Bool.and_self, Bool.and_true, Bool.true_and]) rfl ?_
    simp only [run0, run1, run2, run3, run4, run5, run6, run7, run8, run9, run10, run11, run12, run13, run14, run15, run16, run17, run18, run19, run20, run21, run22, reduceCtorEq, Nat.reduceEqDiff, Nat.reduceAdd, Nat.reduceSub, Nat.reduceLeDiff, indexAddrA, indexRefA, appendA, strA, Nat.reduceMul, Nat.zero_mul, Nat.reduceMod, Int.reduceEq, Int.reduceLT, Int.reduceLE, Nat.reduceLT, Nat.lt_irrefl, Nat.reduceBEq, tys0, tys1, tys2, tys3, tys4, tys5, tys6, tys7, tys8, tys9, tys10, tys11, tys12, tys13, tys14, tys15, tys16, tys17, tys18, tys19, tys20, tys21, tys22, tys23, Try.ntmps80, Try.results80, swC, frE]
    refine RunL.callp rfl rfl ok_f78 (hc1) (by first | rfl | simp only [pureL, pureB, Bool.and_self, Bool.and_true, Bool.true_and]) rfl ?_
    simp only [run0, run1, run2, run3, run4, run5, run6, run7, run8, run9, run10, run11, run12, run13, run14, run15, run16, run17, run18, run19, run20, run21, run22, reduceCtorEq, Nat.reduceEqDiff, Nat.reduceAdd, Nat.reduceSub, Nat.reduceLeDiff, indexAddrA, indexRefA, appendA, strA, Nat.reduceMul, Nat.zero_mul, Nat.reduceMod, Int.reduceEq, Int.reduceLT, Int.reduceLE, Nat.reduceLT, Nat.lt_irrefl, Nat.reduceBEq, tys0, tys1, tys2, tys3, tys4, tys5, tys6, tys7, tys8, tys9, tys10, tys11, tys12, tys13, tys14, tys15, tys16, tys17, tys18, tys19, tys20, tys21, tys22, tys23, Try.ntmps80, Try.results80, swC, e1, List.length_map, Int.natCast_zero, Int.lt_irrefl, hlen, u1]
    refine ⟨by kernel_rfl, ?_⟩
    obtain ⟨hok, hnx⟩ := hI.up hn hU p.X
    have hst := step_ok p.s true hok
    simp only [swV] at hst
    refine RunL.callp rfl rfl ok_f127 (hst) (by first | rfl | simp only [pureL, pureB, Bool.and_self, Bool.and_true, Bool.true_and]) rfl ?_
    simp only [run0, run1, run2, run3, run4, run5, run6, run7, run8, run9, run10, run11, run12, run13, run14, run15, run16, run17, run18, run19, run20, run21, run22, reduceCtorEq, Nat.reduceEqDiff, Nat.reduceAdd, Nat.reduceSub, Nat.reduceLeDiff, indexAddrA, indexRefA, appendA, strA, Nat.reduceMul, Nat.zero_mul, Nat.reduceMod, Int.reduceEq, Int.reduceLT, Int.reduceLE, Nat.reduceLT, Nat.lt_irrefl, Nat.reduceBEq, tys0, tys1, tys2, tys3, tys4, tys5, tys6, tys7, tys8, tys9, tys10, tys11, tys12, tys13, tys14, tys15, tys16, tys17, tys18, tys19, tys20, tys21, tys22, tys23, Try.ntmps80, Try.results80, swC, e5]
    rcases hnx with ⟨g1, g2⟩ | ⟨g1, g2⟩
    · exact ⟨⟨p.n + 1, p.i, swStep p.s true, p.X⟩, .inl ⟨by simp [g1], g2⟩, by simp only; omega, by repeat constructor, rfl⟩
    · exact ⟨⟨p.n + 1, stepP p.i, swStep p.s true, p.X⟩, .inr ⟨g1, g2⟩, by simp only; omega, by repeat constructor, rfl⟩
theorem shSimplest_nc (q : Fr) (r : List Fr) (hll : ([] : List Fr).length ≤ 1048576) (hrl : (q :: r).length ≤ 1048576) (hl : ∀ a ∈ ([] : List Fr), FB a) (hr : ∀ a ∈ (q :: r), FB a) : Ct Try.prog 80 [.sl false [], .sl false (frE q :: r.map frE)] [] (simR ([] : List Fr) (q :: r)) [] := by
  have pr : pureL (r.map frE) = true := frs_pure r
  have prn : pureL ((r.map negF).map frE) = true := frs_pure (r.map negF)
  have hlenr : ((0 : Int) < ((r.length + 1 : Nat) : Int)) := by omega
  refine Ct.by_ hmix [] Try.func80 rfl ?_
  simp only [run0, run1, run2, run3, run4, run5, run6, run7, run8, run9, run10, run11, run12, run13, run14, run15, run16, run17, run18, run19, run20, run21, run22, reduceCtorEq, Nat.reduceEqDiff, Nat.reduceAdd, Nat.reduceSub, Nat.reduceLeDiff, indexAddrA, indexRefA, appendA, strA, Nat.reduceMul, Nat.zero_mul, Nat.reduceMod, Int.reduceEq, Int.reduceLT, Int.reduceLE, Nat.reduceLT, Nat.lt_irrefl, Nat.reduceBEq, tys0, tys1, tys2, tys3, tys4, tys5, tys6, tys7, tys8, tys9, tys10, tys11, tys12, tys13, tys14, tys15, tys16, tys17, tys18, tys19, tys20, tys21, tys22, tys23, Try.ntmps80, Try.results80, swV]
  refine RunL.callp rfl rfl ok_f123 (shStart_ok) (by first | rfl | simp only [pureL, pureB, Bool.and_self, Bool.and_true, Bool.true_and]) rfl ?_
  simp only [run0, run1, run2, run3, run4, run5, run6, run7, run8, run9, run10, run11, run12, run13, run14, run15, run16, run17, run18, run19, run20, run21, run22, reduceCtorEq, Nat.reduceEqDiff, Nat.reduceAdd, Nat.reduceSub, Nat.reduceLeDiff, indexAddrA, indexRefA, appendA, strA, Nat.reduceMul, Nat.zero_mul, Nat.reduceMod, Int.reduceEq, Int.reduceLT, Int.reduceLE, Nat.reduceLT, Nat.lt_irrefl, Nat.reduceBEq, tys0, tys1, tys2, tys3, tys4, tys5, tys6, tys7, tys8, tys9, tys10, tys11, tys12, tys13, tys14, tys15, tys16, tys17, tys18, tys19, tys20, tys21, tys22, tys23, Try.ntmps80, Try.results80, swV]
  refine AWp.loop_inv (ι := SiS) (fun p => ⟨[.sl false [], .sl false (frE q :: r.map frE), .junk, .junk, .ptr 0 0, .bool false, .ptr 1 0, .int .i64 p.n, .junk, .junk, .junk, .junk, .junk, .junk, .junk, .junk, .junk, .junk, .junk, .junk, .junk, .junk, .junk, .junk, .junk, .junk, .junk, .junk, .junk, .junk, .junk, .junk, .junk, .junk, .junk, .junk, .junk, .junk, .junk, .junk, .junk, .junk, .junk, .junk, .junk, .junk, .junk, .junk, .junk, .junk, .junk, .junk, .junk, .junk, .junk, .junk], .box 42 [.int .i64 0, .int .i64 0] :: .box 144 (swC p.s) :: p.X⟩)
    (fun p => (p.n = 21 ∧ cutBad ([] : List Fr) (q :: r) = true) ∨ (p.n ≤ 20 ∧ SiI ([] : List Fr) (q :: r) p)) (fun p => 21 - p.n) ⟨0, wk0, sw0, []⟩ (.inr ⟨by decide, SiI.start _ _⟩) ⟨by simp only [Int.natCast_zero]; repeat constructor, rfl⟩ ?_
  rintro p hI
  refine W.sound hmix (E := []) ?_
  rcases hI with ⟨hn, hbad⟩ | ⟨hn, hI⟩
  · have e1 : ¬ ((p.n : Int) ≤ 20) := by omega
    simp only [run0, run1, run2, run3, run4, run5, run6, run7, run8, run9, run10, run11, run12, run13, run14, run15, run16, run17, run18, run19, run20, run21, run22, reduceCtorEq, Nat.reduceEqDiff, Nat.reduceAdd, Nat.reduceSub, Nat.reduceLeDiff, indexAddrA, indexRefA, appendA, strA, Nat.reduceMul, Nat.zero_mul, Nat.reduceMod, Int.reduceEq, Int.reduceLT, Int.reduceLE, Nat.reduceLT, Nat.lt_irrefl, Nat.reduceBEq, tys0, tys1, tys2, tys3, tys4, tys5, tys6, tys7, tys8, tys9, tys10, tys11, tys12, tys13, tys14, tys15, tys16, tys17, tys18, tys19, tys20, tys21, tys22, tys23, Try.ntmps80, Try.results80, e1]
    exact Fin.eq (by simp [simR, hbad, frE]) rfl
  have e1 : (p.n : Int) ≤ 20 := by omega
  have e5 : IntKind.i64.wrap ((p.n : Int) + 1) = ((p.n + 1 : Nat) : Int) := by rw [i64_id (by omega) (by omega)]; simp
  have hx := hI.small hn
  have hle := hI.le hn hr
  have hc2 := cmpQ_ok (leastF q r) (p.s.an, p.s.ad)
  have hng := shNeg_ok (mostF (negF q) (r.map negF)).1 (mostF (negF q) (r.map negF)).2
  have hmm := shMost_ok (negF q) (r.map negF) (by simpa using hrl)
  simp only [fr, frE] at hc2 hng hmm
  rcases hD : (q :: r).any (geB p.i.x) with _ | _
  · have d1 : ¬ (cmpQ (leastF q r) (p.s.an, p.s.ad) ≤ 0) := (fun e => by rw [hle.1 e] at hD; cases hD)
    simp only [run0, run1, run2, run3, run4, run5, run6, run7, run8, run9, run10, run11, run12, run13, run14, run15, run16, run17, run18, run19, run20, run21, run22, reduceCtorEq, Nat.reduceEqDiff, Nat.reduceAdd, Nat.reduceSub, Nat.reduceLeDiff, indexAddrA, indexRefA, appendA, strA, Nat.reduceMul, Nat.zero_mul, Nat.reduceMod, Int.reduceEq, Int.reduceLT, Int.reduceLE, Nat.reduceLT, Nat.lt_irrefl, Nat.reduceBEq, tys0, tys1, tys2, tys3, tys4, tys5, tys6, tys7, tys8, tys9, tys10, tys11, tys12, tys13, tys14, tys15, tys16, tys17, tys18, tys19, tys20, tys21, tys22, tys23, Try.ntmps80, Try.results80, swC, e1, List.length_map, Int.natCast_zero, Int.lt_irrefl, hlenr, d1]
    refine ⟨by kernel_rfl, ?_⟩
    refine ⟨by kernel_rfl, ?_⟩
    refine RunL.callp rfl rfl ok_f126 (shNegAll_ok (q :: r) hrl) (by simp only [List.map_cons, pureL, pureB, frE, pr, Bool.and_self, Bool.and_true, Bool.true_and]) rfl ?_
    simp only [run0, run1, run2, run3, run4, run5, run6, run7, run8, run9, run10, run11, run12, run13, run14, run15, run16, run17, run18, run19, run20, run21, run22, reduceCtorEq, Nat.reduceEqDiff, Nat.reduceAdd, Nat.reduceSub, Nat.reduceLeDiff, indexAddrA, indexRefA, appendA, strA, Nat.reduceMul, Nat.zero_mul, Nat.reduceMod, Int.reduceEq, Int.reduceLT, Int.reduceLE, Nat.reduceLT, Nat.lt_irrefl, Nat.reduceBEq, tys0, tys1, tys2, tys3, tys4, tys5, tys6, tys7, tys8, tys9, tys10, tys11, tys12, tys13, tys14, tys15, tys16, tys17, tys18, tys19, tys20, tys21, tys22, tys23, Try.ntmps80, Try.results80, swC, frE]
    refine RunL.callp rfl rfl ok_f124 hmm (by simp only [pureL, pureB, prn, Bool.and_self, Bool.and_true, Bool.true_and]) rfl ?_
    simp only [run0, run1, run2, run3, run4, run5, run6, run7, run8, run9, run10, run11, run12, run13, run14, run15, run16, run17, run18, run19, run20, run21, run22, reduceCtorEq, Nat.reduceEqDiff, Nat.reduceAdd, Nat.reduceSub, Nat.reduceLeDiff, indexAddrA, indexRefA, appendA, strA, Nat.reduceMul, Nat.zero_mul, Nat.reduceMod, Int.reduceEq, Int.reduceLT, Int.reduceLE, Nat.reduceLT, Nat.lt_irrefl, Nat.reduceBEq, tys0, tys1, tys2, tys3, tys4, tys5, tys6, tys7, tys8, tys9, tys10, tys11, tys12, tys13, tys14, tys15, tys16, tys17, tys18, tys19, tys20, tys21, tys22, tys23, Try.ntmps80, Try.results80, swC, frE]
    refine RunL.callp rfl rfl ok_f125 (hng) (by first | rfl | simp only [pureL, pureB, Bool.and_self, Bool.and_true, Bool.true_and]) rfl ?_
    simp only [run0, run1, run2, run3, run4, run5, run6, run7, run8, run9, run10, run11, run12, run13, run14, run15, run16, run17, run18, run19, run20, run21, run22, reduceCtorEq, Nat.reduceEqDiff, Nat.reduceAdd, Nat.reduceSub, Nat.reduceLeDiff, indexAddrA, indexRefA, appendA, strA, Nat.reduceMul, Nat.zero_mul, Nat.reduceMod, Int.reduceEq, Int.reduceLT, Int.reduceLE, Nat.reduceLT, Nat.lt_irrefl, Nat.reduceBEq, tys0, tys1, tys2, tys3, tys4, tys5, tys6, tys7, tys8, tys9, tys10, tys11, tys12, tys13, tys14, tys15, tys16, tys17, tys18, tys19, tys20, tys21, tys22, tys23, Try.ntmps80, Try.results80, swC]
    refine RunL.callp rfl rfl ok_f78 (hc2) (by first | rfl | simp only [pureL, pureB, Bool.and_self, Bool.and_true, Bool.true_and]) rfl ?_
    simp only [run0, run1, run2, run3, run4, run5, run6, run7, run8, run9, run10, run11, run12, run13, run14, run15, run16, run17, run18, run19, run20, run21, run22, reduceCtorEq, Nat.reduceEqDiff, Nat.reduceAdd, Nat.reduceSub, Nat.reduceLeDiff, indexAddrA, indexRefA, appendA, strA, Nat.reduceMul, Nat.zero_mul, Nat.reduceMod, Int.reduceEq, Int.reduceLT, Int.reduceLE, Nat.reduceLT, Nat.lt_irrefl, Nat.reduceBEq, tys0, tys1, tys2, tys3, tys4, tys5, tys6, tys7, tys8, tys9, tys10, tys11, tys12, tys13, tys14, tys15, tys16, tys17, tys18, tys19, tys20, tys21, tys22, tys23, Try.ntmps80, Try.results80, swC, e1, List.length_map, Int.natCast_zero, Int.lt_irrefl, hlenr, d1]
    exact Fin.eq (by rw [hI.none_ hn rfl hD]; rfl) rfl
  · have d1 : (cmpQ (leastF q r) (p.s.an, p.s.ad) ≤ 0) := hle.2 hD
    simp only [run0, run1, run2, run3, run4, run5, run6, run7, run8, run9, run10, run11, run12, run13, run14, run15, run16, run17, run18, run19, run20, run21, run22, reduceCtorEq, Nat.reduceEqDiff, Nat.reduceAdd, Nat.reduceSub, Nat.reduceLeDiff, indexAddrA, indexRefA, appendA, strA, Nat.reduceMul, Nat.zero_mul, Nat.reduceMod, Int.reduceEq, Int.reduceLT, Int.reduceLE, Nat.reduceLT, Nat.lt_irrefl, Nat.reduceBEq, tys0, tys1, tys2, tys3, tys4, tys5, tys6, tys7, tys8, tys9, tys10, tys11, tys12, tys13, tys14, tys15, tys16, tys17, tys18, tys19, tys20, tys21, tys22, tys23, Try.ntmps80, Try.results80, swC, e1, List.length_map, Int.natCast_zero, Int.lt_irrefl, hlenr, d1]
    refine ⟨by kernel_rfl, ?_⟩
    refine ⟨by kernel_rfl, ?_⟩
    refine RunL.callp rfl rfl ok_f126 (shNegAll_ok (q :: r) hrl) (by simp only [List.map_cons, pureL, pureB, frE, pr, Bool.and_self, Bool.and_true, Bool.true_and]) rfl ?_
    simp only [run0, run1, run2, run3, run4, run5, run6, run7, run8, run9, run10, run11, run12, run13, run14, run15, run16, run17, run18, run19, run20, run21, run22, reduceCtorEq, Nat.reduceEqDiff, Nat.reduceAdd, Nat.reduceSub, Nat.reduceLeDiff, indexAddrA, indexRefA, appendA, strA, Nat.reduceMul, Nat.zero_mul, Nat.reduceMod, Int.reduceEq, Int.reduceLT, Int.reduceLE, Nat.reduceLT, Nat.lt_irrefl, Nat.reduceBEq, tys0, tys1, tys2, tys3, tys4, tys5, tys6, tys7, tys8, tys9, tys10, tys11, tys12, tys13, tys14, tys15, tys16, tys17, tys18, tys19, tys20, tys21, tys22, tys23, Try.ntmps80, Try.results80, swC, frE]
    refine RunL.callp rfl rfl ok_f124 hmm (by simp only [pureL, pureB, prn, Bool.and_self, Bool.and_true, Bool.true_and]) rfl ?_
    simp only [run0, run1, run2, run3, run4, run5, run6, run7, run8, run9, run10, run11, run12, run13, run14, run15, run16, run17, run18, run19, run20, run21, run22, reduceCtorEq, Nat.reduceEqDiff, Nat.reduceAdd, Nat.reduceSub, Nat.reduceLeDiff, indexAddrA, indexRefA, appendA, strA, Nat.reduceMul, Nat.zero_mul, Nat.reduceMod, Int.reduceEq, Int.reduceLT, Int.reduceLE, Nat.reduceLT, Nat.lt_irrefl, Nat.reduceBEq, tys0, tys1, tys2, tys3, tys4, tys5, tys6, tys7, tys8, tys9, tys10, tys11, tys12, tys13, tys14, tys15, tys16, tys17, tys18, tys19, tys20, tys21, tys22, tys23, Try.ntmps80, Try.results80, swC, frE]
    refine RunL.callp rfl rfl ok_f125 (hng) (by first | rfl | simp only [pureL, pureB, Bool.and_self, Bool.and_true, Bool.true_and]) rfl ?_
    simp only [run0, run1, run2, run3, run4, run5, run6, run7, run8, run9, run10, run11, run12, run13, run14, run15, run16, run17, run18, run19, run20, run21, run22, reduceCtorEq, Nat.reduceEqDiff, Nat.reduceAdd, Nat.reduceSub, Nat.reduceLeDiff, indexAddrA, indexRefA, appendA, strA, Nat.reduceMul, Nat.zero_mul, Nat.reduceMod, Int.reduceEq, Int.reduceLT, Int.reduceLE, Nat.reduceLT, Nat.lt_irrefl, Nat.reduceBEq, tys0, tys1, tys2, tys3, tys4, tys5, tys6, tys7, tys8, tys9, tys10, tys11, tys12, tys13, tys14, tys15, tys16, tys17, tys18, tys19, tys20, tys21, tys22, tys23, Try.ntmps80, Try.results80, swC]
    refine RunL.callp rfl rfl ok_f78 (hc2) (by first | rfl | simp only [pureL, pureB, Bool.and_self, Bool.and_true, Bool.true_and]) rfl ?_
    simp only [run0, run1, run2, run3, run4, run5, run6, run7, run8, run9, run10, run11, run12, run13, run14, run15, run16, run17, run18, run19, run20, run21, run22, reduceCtorEq, Nat.reduceEqDiff, Nat.reduceAdd, Nat.reduceSub, Nat.reduceLeDiff, indexAddrA, indexRefA, appendA, strA, Nat.reduceMul, Nat.zero_mul, Nat.reduceMod, Int.reduceEq, Int.reduceLT, Int.reduceLE, Nat.reduceLT, Nat.lt_irrefl, Nat.reduceBEq, tys0, tys1, tys2, tys3, tys4, tys5, tys6, tys7, tys8, tys9, tys10, tys11, tys12, tys13, tys14, tys15, tys16, tys17, tys18, tys19, tys20, tys21, tys22, tys23, Try.ntmps80, Try.results80, swC, e1, List.length_map, Int.natCast_zero, Int.lt_irrefl, hlenr, d1]
    obtain ⟨hok, hnx⟩ := hI.down hn rfl hD p.X
    have hst := step_ok p.s false hok
    simp only [swV] at hst
    refine RunL.callp rfl rfl ok_f127 (hst) (by first | rfl | simp only [pureL, pureB, Bool.and_self, Bool.and_true, Bool.true_and]) rfl ?_
    simp only [run0, run1, run2, run3, run4, run5, run6, run7, run8, run9, run10, run11, run12, run13, run14, run15, run16, run17, run18, run19, run20, run21, run22, reduceCtorEq, Nat.reduceEqDiff, Nat.reduceAdd, Nat.reduceSub, Nat.reduceLeDiff, indexAddrA, indexRefA, appendA, strA, Nat.reduceMul, Nat.zero_mul, Nat.reduceMod, Int.reduceEq, Int.reduceLT, Int.reduceLE, Nat.reduceLT, Nat.lt_irrefl, Nat.reduceBEq, tys0, tys1, tys2, tys3, tys4, tys5, tys6, tys7, tys8, tys9, tys10, tys11, tys12, tys13, tys14, tys15, tys16, tys17, tys18, tys19, tys20, tys21, tys22, tys23, Try.ntmps80, Try.results80, swC, e5]
    rcases hnx with ⟨g1, g2⟩ | ⟨g1, g2⟩
    · exact ⟨⟨p.n + 1, p.i, swStep p.s false, p.X⟩, .inl ⟨by simp [g1], g2⟩, by simp only; omega, by repeat constructor, rfl⟩
    · exact ⟨⟨p.n + 1, stepM p.i, swStep p.s false, p.X⟩, .inr ⟨g1, g2⟩, by simp only; omega, by repeat constructor, rfl⟩
theorem shSimplest_cc (o : Fr) (l : List Fr) (q : Fr) (r : List Fr) (hll : (o :: l).length ≤ 1048576) (hrl : (q :: r).length ≤ 1048576) (hl : ∀ a ∈ (o :: l), FB a) (hr : ∀ a ∈ (q :: r), FB a) : Ct Try.prog 80 [.sl false (frE o :: l.map frE), .sl false (frE q :: r.map frE)] [] (simR (o :: l) (q :: r)) [] := by
  have pl : pureL (l.map frE) = true := frs_pure l
  have hlen : ((0 : Int) < ((l.length + 1 : Nat) : Int)) := by omega
  have pr : pureL (r.map frE) = true := frs_pure r
  have prn : pureL ((r.map negF).map frE) = true := frs_pure (r.map negF)
  have hlenr : ((0 : Int) < ((r.length + 1 : Nat) : Int)) := by omega
  refine Ct.by_ hmix [] Try.func80 rfl ?_
  simp only [run0, run1, run2, run3, run4, run5, run6, run7, run8, run9, run10, run11, run12, run13, run14, run15, run16, run17, run18, run19, run20, run21, run22, reduceCtorEq, Nat.reduceEqDiff, Nat.reduceAdd, Nat.reduceSub, Nat.reduceLeDiff, indexAddrA, indexRefA, appendA, strA, Nat.reduceMul, Nat.zero_mul, Nat.reduceMod, Int.reduceEq, Int.reduceLT, Int.reduceLE, Nat.reduceLT, Nat.lt_irrefl, Nat.reduceBEq, tys0, tys1, tys2, tys3, tys4, tys5, tys6, tys7, tys8, tys9, tys10, tys11, tys12, tys13, tys14, tys15, tys16, tys17, tys18, tys19, tys20, tys21, tys22, tys23, Try.ntmps80, Try.results80, swV]
  refine RunL.callp rfl rfl ok_f123 (shStart_ok) (by first | rfl | simp only [pureL, pureB, Bool.and_self, Bool.and_true, Bool.true_and]) rfl ?_
  simp only [run0, run1, run2, run3, run4, run5, run6, run7, run8, run9, run10, run11, run12, run13, run14, run15, run16, run17, run18, run19, run20, run21, run22, reduceCtorEq, Nat.reduceEqDiff, Nat.reduceAdd, Nat.reduceSub, Nat.reduceLeDiff, indexAddrA, indexRefA, appendA, strA, Nat.reduceMul, Nat.zero_mul, Nat.reduceMod, Int.reduceEq, Int.reduceLT, Int.reduceLE, Nat.reduceLT, Nat.lt_irrefl, Nat.reduceBEq, tys0, tys1, tys2, tys3, tys4, tys5, tys6, tys7, tys8, tys9, tys10, tys11, tys12, tys13, tys14, tys15, tys16, tys17, tys18, tys19, tys20, tys21, tys22, tys23, Try.ntmps80, Try.results80, swV]
  refine AWp.loop_inv (ι := SiS) (fun p => ⟨[.sl false (frE o :: l.map frE), .sl false (frE q :: r.map frE), .junk, .junk, .ptr 0 0, .bool false, .ptr 1 0, .int .i64 p.n, .junk, .junk, .junk, .junk, .junk, .junk, .junk, .junk, .junk, .junk, .junk, .junk, .junk, .junk, .junk, .junk, .junk, .junk, .junk, .junk, .junk, .junk, .junk, .junk, .junk, .junk, .junk, .junk, .junk, .junk, .junk, .junk, .junk, .junk, .junk, .junk, .junk, .junk, .junk, .junk, .junk, .junk, .junk, .junk, .junk, .junk, .junk, .junk], .box 42 [.int .i64 0, .int .i64 0] :: .box 144 (swC p.s) :: p.X⟩)
    (fun p => (p.n = 21 ∧ cutBad (o :: l) (q :: r) = true) ∨ (p.n ≤ 20 ∧ SiI (o :: l) (q :: r) p)) (fun p => 21 - p.n) ⟨0, wk0, sw0, []⟩ (.inr ⟨by decide, SiI.start _ _⟩) ⟨by simp only [Int.natCast_zero]; repeat constructor, rfl⟩ ?_
  rintro p hI
  refine W.sound hmix (E := []) ?_
  rcases hI with ⟨hn, hbad⟩ | ⟨hn, hI⟩
  · have e1 : ¬ ((p.n : Int) ≤ 20) := by omega
    simp only [run0, run1, run2, run3, run4, run5, run6, run7, run8, run9, run10, run11, run12, run13, run14, run15, run16, run17, run18, run19, run20, run21, run22, reduceCtorEq, Nat.reduceEqDiff, Nat.reduceAdd, Nat.reduceSub, Nat.reduceLeDiff, indexAddrA, indexRefA, appendA, strA, Nat.reduceMul, Nat.zero_mul, Nat.reduceMod, Int.reduceEq, Int.reduceLT, Int.reduceLE, Nat.reduceLT, Nat.lt_irrefl, Nat.reduceBEq, tys0, tys1, tys2, tys3, tys4, tys5, tys6, tys7, tys8, tys9, tys10, tys11, tys12, tys13, tys14, tys15, tys16, tys17, tys18, tys19, tys20, tys21, tys22, tys23, Try.ntmps80, Try.results80, e1]
    exact Fin.eq (by simp [simR, hbad, frE]) rfl
  have e1 : (p.n : Int) ≤ 20 := by omega
  have e5 : IntKind.i64.wrap ((p.n : Int) + 1) = ((p.n + 1 : Nat) : Int) := by rw [i64_id (by omega) (by omega)]; simp
  have hx := hI.small hn
  have hge := hI.ge hn hl
  have hc1 := cmpQ_ok (mostF o l) (p.s.an, p.s.ad)
  have hle := hI.le hn hr
  have hc2 := cmpQ_ok (leastF q r) (p.s.an, p.s.ad)
  have hng := shNeg_ok (mostF (negF q) (r.map negF)).1 (mostF (negF q) (r.map negF)).2
  have hmm := shMost_ok (negF q) (r.map negF) (by simpa using hrl)
  simp only [fr, frE] at hc1 hc2 hng hmm
  rcases hU : (o :: l).any (leB p.i.x) with _ | _
  · rcases hD : (q :: r).any (geB p.i.x) with _ | _
    · have u1 : ¬ (0 ≤ cmpQ (mostF o l) (p.s.an, p.s.ad)) := (fun e => by rw [hge.1 e] at hU; cases hU)
      have d1 : ¬ (cmpQ (leastF q r) (p.s.an, p.s.ad) ≤ 0) := (fun e => by rw [hle.1 e] at hD; cases hD)
      simp only [run0, run1, run2, run3, run4, run5, run6, run7, run8, run9, run10, run11, run12, run13, run14, run15, run16, run17, run18, run19, run20, run21, run22, reduceCtorEq, Nat.reduceEqDiff, Nat.reduceAdd, Nat.reduceSub, Nat.reduceLeDiff, indexAddrA, indexRefA, appendA, strA, Nat.reduceMul, Nat.zero_mul, Nat.reduceMod, Int.reduceEq, Int.reduceLT, Int.reduceLE, Nat.reduceLT, Nat.lt_irrefl, Nat.reduceBEq, tys0, tys1, tys2, tys3, tys4, tys5, tys6, tys7, tys8, tys9, tys10, tys11, tys12, tys13, tys14, tys15, tys16, tys17, tys18, tys19, tys20, tys21, tys22, tys23, Try.ntmps80, Try.results80, swC, e1, List.length_map, Int.natCast_zero, Int.lt_irrefl, hlen, hlenr, u1, d1]
      refine ⟨by kernel_rfl, ?_⟩
      refine RunL.callp rfl rfl ok_f124 (shMost_ok o l hll) (by simp only [pureL, pureB, frE, pl, Bool.and_self, Bool.and_true, Bool.true_and]) rfl ?_
      simp only [run0, run1, run2, run3, run4, run5, run6, run7, run8, run9, run10, run11, run12, run13, run14, run15, run16, run17, run18, run19, run20, run21, run22, reduceCtorEq, Nat.reduceEqDiff, Nat.reduceAdd, Nat.reduceSub, Nat.reduceLeDiff, indexAddrA, indexRefA, appendA, strA, Nat.reduceMul, Nat.zero_mul, Nat.reduceMod, Int.reduceEq, Int.reduceLT, Int.reduceLE, Nat.reduceLT, Nat.lt_irrefl, Nat.reduceBEq, tys0, tys1, tys2, tys3, tys4, tys5, tys6, tys7, tys8, tys9, tys10, tys11, tys12, tys13, tys14, tys15, tys16, tys17, tys18, tys19, tys20, tys21, tys22, tys23, Try.ntmps80, Try.results80, swC, frE]
      refine RunL.callp rfl rfl ok_f78 (hc1) (by first | rfl | simp only [pureL, pureB, Bool.and_self, Bool.and_true, Bool.true_and]) rfl ?_
      simp only [run0, run1, run2, run3, run4, run5, run6, run7, run8, run9, run10, run11, run12, run13, run14, run15, run16, run17, run18, run19, run20, run21, run22, reduceCtorEq, Nat.reduceEqDiff, Nat.reduceAdd, Nat.reduceSub, Nat.reduceLeDiff, indexAddrA, indexRefA, appendA, strA, Nat.reduceMul, Nat.zero_mul, Nat.reduceMod, Int.reduceEq, Int.reduceLT, Int.reduceLE, Nat.reduceLT, Nat.lt_irrefl, Nat.reduceBEq, tys0, tys1, tys2, tys3, tys4, tys5, tys6, tys7, tys8, tys9, tys10, tys11, tys12, tys13, tys14, tys15, tys16, tys17, tys18, tys19, tys20, tys21, tys22, tys23, Try.ntmps80, Try.results80, swC, e1, List.length_map, Int.natCast_zero, Int.lt_irrefl, hlen, hlenr, u1, d1]
      refine ⟨by kernel_rfl, ?_⟩
      refine RunL.callp rfl rfl ok_f126 (shNegAll_ok (q :: r) hrl) (by simp only [List.map_cons, pureL, pureB, frE, pr, Bool.and_self, Bool.and_true, Bool.true_and]) rfl ?_
      simp only [run0, run1, run2, run3, run4, run5, run6, run7, run8, run9, run10, run11, run12, run13, run14, run15, run16, run17, run18, run19, run20, run21, run22, reduceCtorEq, Nat.reduceEqDiff, Nat.reduceAdd, Nat.reduceSub, Nat.reduceLeDiff, indexAddrA, indexRefA, appendA, strA, Nat.reduceMul, Nat.zero_mul, Nat.reduceMod, Int.reduceEq, Int.reduceLT, Int.reduceLE, Nat.reduceLT, Nat.lt_irrefl, Nat.reduceBEq, tys0, tys1, tys2, tys3, tys4, tys5, tys6, tys7, tys8, tys9, tys10, tys11, tys12, tys13, tys14, tys15, tys16, tys17, tys18, tys19, tys20, tys21, tys22, tys23, Try.ntmps80, Try.results80, swC, frE]
      refine RunL.callp rfl rfl ok_f124 hmm (by simp only [pureL, pureB, prn, Bool.and_self, Bool.and_true, Bool.true_and]) rfl ?_
      simp only [run0, run1, run2, run3, run4, run5, run6, run7, run8, run9, run10, run11, run12, run13, run14, run15, run16, run17, run18, run19, run20, run21, run22, reduceCtorEq, Nat.reduceEqDiff, Nat.reduceAdd, Nat.reduceSub, Nat.reduceLeDiff, indexAddrA, indexRefA, appendA, strA, Nat.reduceMul, Nat.zero_mul, Nat.reduceMod, Int.reduceEq, Int.reduceLT, Int.reduceLE, Nat.reduceLT, Nat.lt_irrefl, Nat.reduceBEq, tys0, tys1, tys2, tys3, tys4, tys5, tys6, tys7, tys8, tys9, tys10, tys11, tys12, tys13, tys14, tys15, tys16, tys17, tys18, tys19, tys20, tys21, tys22, tys23, Try.ntmps80, Try.results80, swC, frE]
      refine RunL.callp rfl rfl ok_f125 (hng) (by first | rfl | simp only [pureL, pureB, Bool.and_self, Bool.and_true, Bool.true_and]) rfl ?_
      simp only [run0, run1, run2, run3, run4, run5, run6, run7, run8, run9, run10, run11, run12, run13, run14, run15, run16, run17, run18, run19, run20, run21, run22, reduceCtorEq, Nat.reduceEqDiff, Nat.reduceAdd, Nat.reduceSub, Nat.reduceLeDiff, indexAddrA, indexRefA, appendA, strA, Nat.reduceMul, Nat.zero_mul, Nat.reduceMod, Int.reduceEq, Int.reduceLT, Int.reduceLE, Nat.reduceLT, Nat.lt_irrefl, Nat.reduceBEq, tys0, tys1, tys2, tys3, tys4, tys5, tys6, tys7, tys8, tys9, tys10, tys11, tys12, tys13, tys14, tys15, tys16, tys17, tys18, tys19, tys20, tys21, tys22, tys23, Try.ntmps80, Try.results80, swC]
      refine RunL.callp rfl rfl ok_f78 (hc2) (by first | rfl | simp only [pureL, pureB, Bool.and_self, Bool.and_true, Bool.true_and]) rfl ?_
      simp only [run0, run1, run2, run3, run4, run5, run6, run7, run8, run9, run10, run11, run12, run13, run14, run15, run16, run17, run18, run19, run20, run21, run22, reduceCtorEq, Nat.reduceEqDiff, Nat.reduceAdd, Nat.reduceSub, Nat.reduceLeDiff, indexAddrA, indexRefA, appendA, strA, Nat.reduceMul, Nat.zero_mul, Nat.reduceMod, Int.reduceEq, Int.reduceLT, Int.reduceLE, Nat.reduceLT, Nat.lt_irrefl, Nat.reduceBEq, tys0, tys1, tys2, tys3, tys4, tys5, tys6, tys7, tys8, tys9, tys10, tys11, tys12, tys13, tys14, tys15, tys16, tys17, tys18, tys19, tys20, tys21, tys22, tys23, Try.ntmps80, Try.results80, swC, e1, List.length_map, Int.natCast_zero, Int.lt_irrefl, hlen, hlenr, u1, d1]
      exact Fin.eq (by rw [hI.none_ hn hU hD]; rfl) rfl
    · have u1 : ¬ (0 ≤ cmpQ (mostF o l) (p.s.an, p.s.ad)) := (fun e => by rw [hge.1 e] at hU; cases hU)
      have d1 : (cmpQ (leastF q r) (p.s.an, p.s.ad) ≤ 0) := hle.2 hD
      simp only [run0, run1, run2, run3, run4, run5, run6, run7, run8, run9, run10, run11, run12, run13, run14, run15, run16, run17, run18, run19, run20, run21, run22, reduceCtorEq, Nat.reduceEqDiff, Nat.reduceAdd, Nat.reduceSub, Nat.reduceLeDiff, indexAddrA, indexRefA, appendA, strA, Nat.reduceMul, Nat.zero_mul, Nat.reduceMod, Int.reduceEq, Int.reduceLT, Int.reduceLE, Nat.reduceLT, Nat.lt_irrefl, Nat.reduceBEq, tys0, tys1, tys2, tys3, tys4, tys5, tys6, tys7, tys8, tys9, tys10, tys11, tys12, tys13, tys14, tys15, tys16, tys17, tys18, tys19, tys20, tys21, tys22, tys23, Try.ntmps80, Try.results80, swC, e1, List.length_map, Int.natCast_zero, Int.lt_irrefl, hlen, hlenr, u1, d1]
      refine ⟨by kernel_rfl, ?_⟩
      refine RunL.callp rfl rfl ok_f124 (shMost_ok o l hll) (by simp only [pureL, pureB, frE, pl, Bool.and_self, Bool.and_true, Bool.true_and]) rfl ?_
      simp only [run0, run1, run2, run3, run4, run5, run6, run7, run8, run9, run10, run11, run12, run13, run14, run15, run16, run17, run18, run19, run20, run21, run22, reduceCtorEq, Nat.reduceEqDiff, Nat.reduceAdd, Nat.reduceSub, Nat.reduceLeDiff, indexAddrA, indexRefA, appendA, strA, Nat.reduceMul, Nat.zero_mul, Nat.reduceMod, Int.reduceEq, Int.reduceLT, Int.reduceLE, Nat.reduceLT, Nat.lt_irrefl, Nat.reduceBEq, tys0, tys1, tys2, tys3, tys4, tys5, tys6, tys7, tys8, tys9, tys10, tys11, tys12, tys13, tys14, tys15, tys16, tys17, tys18, tys19, tys20, tys21, tys22, tys23, Try.ntmps80, Try.results80, swC, frE]
      refine RunL.callp rfl rfl ok_f78 (hc1) (by first | rfl | simp only [pureL, pureB, Bool.and_self, Bool.and_true, Bool.true_and]) rfl ?_
      simp only [run0, run1, run2, run3, run4, run5, run6, run7, run8, run9, run10, run11, run12, run13, run14, run15, run16, run17, run18, run19, run20, run21, run22, reduceCtorEq, Nat.reduceEqDiff, Nat.reduceAdd, Nat.reduceSub, Nat.reduceLeDiff, indexAddrA, indexRefA, appendA, strA, Nat.reduceMul, Nat.zero_mul, Nat.reduceMod, Int.reduceEq, Int.reduceLT, Int.reduceLE, Nat.reduceLT, Nat.lt_irrefl, Nat.reduceBEq, tys0, tys1, tys2, tys3, tys4, tys5, tys6, tys7, tys8, tys9, tys10, tys11, tys12, tys13, tys14, tys15, tys16, tys17, tys18, tys19, tys20, tys21, tys22, tys23, Try.ntmps80, Try.results80, swC, e1, List.length_map, Int.natCast_zero, Int.lt_irrefl, hlen, hlenr, u1, d1]
      refine ⟨by kernel_rfl, ?_⟩
      refine RunL.callp rfl rfl ok_f126 (shNegAll_ok (q :: r) hrl) (by simp only [List.map_cons, pureL, pureB, frE, pr, Bool.and_self, Bool.and_true, Bool.true_and]) rfl ?_
      simp only [run0, run1, run2, run3, run4, run5, run6, run7, run8, run9, run10, run11, run12, run13, run14, run15, run16, run17, run18, run19, run20, run21, run22, reduceCtorEq, Nat.reduceEqDiff, Nat.reduceAdd, Nat.reduceSub, Nat.reduceLeDiff, indexAddrA, indexRefA, appendA, strA, Nat.reduceMul, Nat.zero_mul, Nat.reduceMod, Int.reduceEq, Int.reduceLT, Int.reduceLE, Nat.reduceLT, Nat.lt_irrefl, Nat.reduceBEq, tys0, tys1, tys2, tys3, tys4, tys5, tys6, tys7, tys8, tys9, tys10, tys11, tys12, tys13, tys14, tys15, tys16, tys17, tys18, tys19, tys20, tys21, tys22, tys23, Try.ntmps80, Try.results80, swC, frE]
      refine RunL.callp rfl rfl ok_f124 hmm (by simp only [pureL, pureB, prn, Bool.and_self, Bool.and_true, Bool.true_and]) rfl ?_
      simp only [run0, run1, run2, run3, run4, run5, run6, run7, run8, run9, run10, run11, run12, run13, run14, run15, run16, run17, run18, run19, run20, run21, run22, reduceCtorEq, Nat.reduceEqDiff, Nat.reduceAdd, Nat.reduceSub, Nat.reduceLeDiff, indexAddrA, indexRefA, appendA, strA, Nat.reduceMul, Nat.zero_mul, Nat.reduceMod, Int.reduceEq, Int.reduceLT, Int.reduceLE, Nat.reduceLT, Nat.lt_irrefl, Nat.reduceBEq, tys0, tys1, tys2, tys3, tys4, tys5, tys6, tys7, tys8, tys9, tys10, tys11, tys12, tys13, tys14, tys15, tys16, tys17, tys18, tys19, tys20, tys21, tys22, tys23, Try.ntmps80, Try.results80, swC, frE]
      refine RunL.callp rfl rfl ok_f125 (hng) (by first | rfl | simp only [pureL, pureB, Bool.and_self, Bool.and_true, Bool.true_and]) rfl ?_
      simp only [run0, run1, run2, run3, run4, run5, run6, run7, run8, run9, run10, run11, run12, run13, run14, run15, run16, run17, run18, run19, run20, run21, run22, reduceCtorEq, Nat.reduceEqDiff, Nat.reduceAdd, Nat.reduceSub, Nat.reduceLeDiff, indexAddrA, indexRefA, appendA, strA, Nat.reduceMul, Nat.zero_mul, Nat.reduceMod, Int.reduceEq, Int.reduceLT, Int.reduceLE, Nat.reduceLT, Nat.lt_irrefl, Nat.reduceBEq, tys0, tys1, tys2, tys3, tys4, tys5, tys6, tys7, tys8, tys9, tys10, tys11, tys12, tys13, tys14, tys15, tys16, tys17, tys18, tys19, tys20, tys21, tys22, tys23, Try.ntmps80, Try.results80, swC]
      refine RunL.callp rfl rfl ok_f78 (hc2) (by first | rfl | simp only [pureL, pureB, Bool.and_self, Bool.and_true, Bool.true_and]) rfl ?_
      simp only [run0, run1, run2, run3, run4, run5, run6, run7, run8, run9, run10, run11, run12, run13, run14, run15, run16, run17, run18, run19, run20, run21, run22, reduceCtorEq, Nat.reduceEqDiff, Nat.reduceAdd, Nat.reduceSub, Nat.reduceLeDiff, indexAddrA, indexRefA, appendA, strA, Nat.reduceMul, Nat.zero_mul, Nat.reduceMod, Int.reduceEq, Int.reduceLT, Int.reduceLE, Nat.reduceLT, Nat.lt_irrefl, Nat.reduceBEq, tys0, tys1, tys2, tys3, tys4, tys5, tys6, tys7, tys8, tys9, tys10, tys11, tys12, tys13, tys14, tys15, tys16, tys17, tys18, tys19, tys20, tys21, tys22, tys23, Try.ntmps80, Try.results80, swC, e1, List.length_map, Int.natCast_zero, Int.lt_irrefl, hlen, hlenr, u1, d1]
      obtain ⟨hok, hnx⟩ := hI.down hn hU hD p.X
      have hst := step_ok p.s false hok
      simp only [swV] at hst
      refine RunL.callp rfl rfl ok_f127 (hst) (by first | rfl | simp only [pureL, pureB, Bool.and_self, Bool.and_true, Bool.true_and]) rfl ?_
      simp only [run0, run1, run2, run3, run4, run5, run6, run7, run8, run9, run10, run11, run12, run13, run14, run15, run16, run17, run18, run19, run20, run21, run22, reduceCtorEq, Nat.reduceEqDiff, Nat.reduceAdd, Nat.reduceSub, Nat.reduceLeDiff, indexAddrA, indexRefA, appendA, strA, Nat.reduceMul, Nat.zero_mul, Nat.reduceMod, Int.reduceEq, Int.reduceLT, Int.reduceLE, Nat.reduceLT, Nat.lt_irrefl, Nat.reduceBEq, tys0, tys1, tys2, tys3, tys4, tys5, tys6, tys7, tys8, tys9, tys10, tys11, tys12, tys13, tys14, tys15, tys16, tys17, tys18, tys19, tys20, tys21, tys22, tys23, Try.ntmps80, Try.results80, swC, e5]
      rcases hnx with ⟨g1, g2⟩ | ⟨g1, g2⟩
      · exact ⟨⟨p.n + 1, p.i, swStep p.s false, p.X⟩, .inl ⟨by simp [g1], g2⟩, by simp only; omega, by repeat constructor, rfl⟩
      · exact ⟨⟨p.n + 1, stepM p.i, swStep p.s false, p.X⟩, .inr ⟨g1, g2⟩, by simp only; omega, by repeat constructor, rfl⟩
  · rcases hD : (q :: r).any (geB p.i.x) with _ | _
    · have u1 : (0 ≤ cmpQ (mostF o l) (p.s.an, p.s.ad)) := hge.2 hU
      have d1 : ¬ (cmpQ (leastF q r) (p.s.an, p.s.ad) ≤ 0) := (fun e => by rw [hle.1 e] at hD; cases hD)
      simp only [run0, run1, run2, run3, run4, run5, run6, run7, run8, run9, run10, run11, run12, run13, run14, run15, run16, run17, run18, run19, run20, run21, run22, reduceCtorEq, Nat.reduceEqDiff, Nat.reduceAdd, Nat.reduceSub, Nat.reduceLeDiff, indexAddrA, indexRefA, appendA, strA, Nat.reduceMul, Nat.zero_mul, Nat.reduceMod, Int.reduceEq, Int.reduceLT, Int.reduceLE, Nat.reduceLT, Nat.lt_irrefl, Nat.reduceBEq, tys0, tys1, tys2, tys3, tys4, tys5, tys6, tys7, tys8, tys9, tys10, tys11, tys12, tys13, tys14, tys15, tys16, tys17, tys18, tys19, tys20, tys21, tys22, tys23, Try.ntmps80, Try.results80, swC, e1, List.length_map, Int.natCast_zero, Int.lt_irrefl, hlen, hlenr, u1, d1]
      refine ⟨by kernel_rfl, ?_⟩
      refine RunL.callp rfl rfl ok_f124 (shMost_ok o l hll) (by simp only [pureL, pureB, frE, pl, Bool.and_self, Bool.and_true, Bool.true_and]) rfl ?_
      simp only [run0, run1, run2, run3, run4, run5, run6, run7, run8, run9, run10, run11, run12, run13, run14, run15, run16, run17, run18, run19, run20, run21, run22, reduceCtorEq, Nat.reduceEqDiff, Nat.reduceAdd, Nat.reduceSub, Nat.reduceLeDiff, indexAddrA, indexRefA, appendA, strA, Nat.reduceMul, Nat.zero_mul, Nat.reduceMod, Int.reduceEq, Int.reduceLT, Int.reduceLE, Nat.reduceLT, Nat.lt_irrefl, Nat.reduceBEq, tys0, tys1, tys2, tys3, tys4, tys5, tys6, tys7, tys8, tys9, tys10, tys11, tys12, tys13, tys14, tys15, tys16, tys17, tys18, tys19, tys20, tys21, tys22, tys23, Try.ntmps80, Try.results80, swC, frE]
      refine RunL.callp rfl rfl ok_f78 (hc1) (by first | rfl | simp only [pureL, pureB, Bool.and_self, Bool.and_true, Bool.true_and]) rfl ?_
      simp only [run0, run1, run2, run3, run4, run5, run6, run7, run8, run9, run10, run11, run12, run13, run14, run15, run16, run17, run18, run19, run20, run21, run22, reduceCtorEq, Nat.reduceEqDiff, Nat.reduceAdd, Nat.reduceSub, Nat.reduceLeDiff, indexAddrA, indexRefA, appendA, strA, Nat.reduceMul, Nat.zero_mul, Nat.reduceMod, Int.reduceEq, Int.reduceLT, Int.reduceLE, Nat.reduceLT, Nat.lt_irrefl, Nat.reduceBEq, tys0, tys1, tys2, tys3, tys4, tys5, tys6, tys7, tys8, tys9, tys10, tys11, tys12, tys13, tys14, tys15, tys16, tys17, tys18, tys19, tys20, tys21, tys22, tys23, Try.ntmps80, Try.results80, swC, e1, List.length_map, Int.natCast_zero, Int.lt_irrefl, hlen, hlenr, u1, d1]
      refine ⟨by kernel_rfl, ?_⟩
      refine RunL.callp rfl rfl ok_f126 (shNegAll_ok (q :: r) hrl) (by simp only [List.map_cons, pureL, pureB, frE, pr, Bool.and_self, Bool.and_true, Bool.true_and]) rfl ?_
      simp only [run0, run1, run2, run3, run4, run5, run6, run7, run8, run9, run10, run11, run12, run13, run14, run15, run16, run17, run18, run19, run20, run21, run22, reduceCtorEq, Nat.reduceEqDiff, Nat.reduceAdd, Nat.reduceSub, Nat.reduceLeDiff, indexAddrA, indexRefA, appendA, strA, Nat.reduceMul, Nat.zero_mul, Nat.reduceMod, Int.reduceEq, Int.reduceLT, Int.reduceLE, Nat.reduceLT, Nat.lt_irrefl, Nat.reduceBEq, tys0, tys1, tys2, tys3, tys4, tys5, tys6, tys7, tys8, tys9, tys10, tys11, tys12, tys13, tys14, tys15, tys16, tys17, tys18, tys19, tys20, tys21, tys22, tys23, Try.ntmps80, Try.results80, swC, frE]
      refine RunL.callp rfl rfl ok_f124 hmm (by simp only [pureL, pureB, prn, Bool.and_self, Bool.and_true, Bool.true_and]) rfl ?_
      simp only [run0, run1, run2, run3, run4, run5, run6, run7, run8, run9, run10, run11, run12, run13, run14, run15, run16, run17, run18, run19, run20, run21, run22, reduceCtorEq, Nat.reduceEqDiff, Nat.reduceAdd, Nat.reduceSub, Nat.reduceLeDiff, indexAddrA, indexRefA, appendA, strA, Nat.reduceMul, Nat.zero_mul, Nat.reduceMod, Int.reduceEq, Int.reduceLT, Int.reduceLE, Nat.reduceLT, Nat.lt_irrefl, Nat.reduceBEq, tys0, tys1, tys2, tys3, tys4, tys5, tys6, tys7, tys8, tys9, tys10, tys11, tys12, tys13, tys14, tys15, tys16, tys17, tys18, tys19, tys20, tys21, tys22, tys23, Try.ntmps80, Try.results80, swC, frE]
      refine RunL.callp rfl rfl ok_f125 (hng) (by first | rfl | simp only [pureL, pureB, Bool.and_self, Bool.and_true, Bool.true_and]) rfl ?_
      simp only [run0, run1, run2, run3, run4, run5, run6, run7, run8, run9, run10, run11, run12, run13, run14, run15, run16, run17, run18, run19, run20, run21, run22, reduceCtorEq, Nat.reduceEqDiff, Nat.reduceAdd, Nat.reduceSub, Nat.reduceLeDiff, indexAddrA, indexRefA, appendA, strA, Nat.reduceMul, Nat.zero_mul, Nat.reduceMod, Int.reduceEq, Int.reduceLT, Int.reduceLE, Nat.reduceLT, Nat.lt_irrefl, Nat.reduceBEq, tys0, tys1, tys2, tys3, tys4, tys5, tys6, tys7, tys8, tys9, tys10, tys11, tys12, tys13, tys14, tys15, tys16, tys17, tys18, tys19, tys20, tys21, tys22, tys23, Try.ntmps80, Try.results80, swC]
      refine RunL.callp rfl rfl ok_f78 (hc2) (by first | rfl | simp only [pureL, pureB, Bool.and_self, Bool.and_true, Bool.true_and]) rfl ?_
      simp only [run0, run1, run2, run3, run4, run5, run6, run7, run8, run9, run10, run11, run12, run13, run14, run15, run16, run17, run18, run19, run20, run21, run22, reduceCtorEq, Nat.reduceEqDiff, Nat.reduceAdd, Nat.reduceSub, Nat.reduceLeDiff, indexAddrA, indexRefA, appendA, strA, Nat.reduceMul, Nat.zero_mul, Nat.reduceMod, Int.reduceEq, Int.reduceLT, Int.reduceLE, Nat.reduceLT, Nat.lt_irrefl, Nat.reduceBEq, tys0, tys1, tys2, tys3, tys4, tys5, tys6, tys7, tys8, tys9, tys10, tys11, tys12, tys13, tys14, tys15, tys16, tys17, tys18, tys19, tys20, tys21, tys22, tys23, Try.ntmps80, Try.results80, swC, e1, List.length_map, Int.natCast_zero, Int.lt_irrefl, hlen, hlenr, u1, d1]
      obtain ⟨hok, hnx⟩ := hI.up hn hU p.X
      have hst := step_ok p.s true hok
      simp only [swV] at hst
      refine RunL.callp rfl rfl ok_f127 (hst) (by first | rfl | simp only [pureL, pureB, Bool.and_self, Bool.and_true, Bool.true_and]) rfl ?_
      simp only [run0, run1, run2, run3, run4, run5, run6, run7, run8, run9, run10, run11, run12, run13, run14, run15, run16, run17, run18, run19, run20, run21, run22, reduceCtorEq, Nat.reduceEqDiff, Nat.reduceAdd, Nat.reduceSub, Nat.reduceLeDiff, indexAddrA, indexRefA, appendA, strA, Nat.reduceMul, Nat.zero_mul, Nat.reduceMod, Int.reduceEq, Int.reduceLT, Int.reduceLE, Nat.reduceLT, Nat.lt_irrefl, Nat.reduceBEq, tys0, tys1, tys2, tys3, tys4, tys5, tys6, tys7, tys8, tys9, tys10, tys11, tys12, tys13, tys14, tys15, tys16, tys17, tys18, tys19, tys20, tys21, tys22, tys23, Try.ntmps80, Try.results80, swC, e5]
      rcases hnx with ⟨g1, g2⟩ | ⟨g1, g2⟩
      · exact ⟨⟨p.n + 1, p.i, swStep p.s true, p.X⟩, .inl ⟨by simp [g1], g2⟩, by simp only; omega, by repeat constructor, rfl⟩
      · exact ⟨⟨p.n + 1, stepP p.i, swStep p.s true, p.X⟩, .inr ⟨g1, g2⟩, by simp only; omega, by repeat constructor, rfl⟩
    · have u1 : (0 ≤ cmpQ (mostF o l) (p.s.an, p.s.ad)) := hge.2 hU
      have d1 : (cmpQ (leastF q r) (p.s.an, p.s.ad) ≤ 0) := hle.2 hD
      simp only [run0, run1, run2, run3, run4, run5, run6, run7, run8, run9, run10, run11, run12, run13, run14, run15, run16, run17, run18, run19, run20, run21, run22, reduceCtorEq, Nat.reduceEqDiff, Nat.reduceAdd, Nat.reduceSub, Nat.reduceLeDiff, indexAddrA, indexRefA, appendA, strA, Nat.reduceMul, Nat.zero_mul, Nat.reduceMod, Int.reduceEq, Int.reduceLT, Int.reduceLE, Nat.reduceLT, Nat.lt_irrefl, Nat.reduceBEq, tys0, tys1, tys2, tys3, tys4, tys5, tys6, tys7, tys8, tys9, tys10, tys11, tys12, tys13, tys14, tys15, tys16, tys17, tys18, tys19, tys20, tys21, tys22, tys23, Try.ntmps80, Try.results80, swC, e1, List.length_map, Int.natCast_zero, Int.lt_irrefl, hlen, hlenr, u1, d1]
      refine ⟨by kernel_rfl, ?_⟩
      refine RunL.callp rfl rfl ok_f124 (shMost_ok o l hll) (by simp only [pureL, pureB, frE, pl, Bool.and_self, Bool.and_true, Bool.true_and]) rfl ?_
      simp only [run0, run1, run2, run3, run4, run5, run6, run7, run8, run9, run10, run11, run12, run13, run14, run15, run16, run17, run18, run19, run20, run21, run22, reduceCtorEq, Nat.reduceEqDiff, Nat.reduceAdd, Nat.reduceSub, Nat.reduceLeDiff, indexAddrA, indexRefA, appendA, strA, Nat.reduceMul, Nat.zero_mul, Nat.reduceMod, Int.reduceEq, Int.reduceLT, Int.reduceLE, Nat.reduceLT, Nat.lt_irrefl, Nat.reduceBEq, tys0, tys1, tys2, tys3, tys4, tys5, tys6, tys7, tys8, tys9, tys10, tys11, tys12, tys13, tys14, tys15, tys16, tys17, tys18, tys19, tys20, tys21, tys22, tys23, Try.ntmps80, Try.results80, swC, frE]
      refine RunL.callp rfl rfl ok_f78 (hc1) (by first | rfl | simp only [pureL, pureB, Bool.and_self, Bool.and_true, Bool.true_and]) rfl ?_
      simp only [run0, run1, run2, run3, run4, run5, run6, run7, run8, run9, run10, run11, run12, run13, run14, run15, run16, run17, run18, run19, run20, run21, run22, reduceCtorEq, Nat.reduceEqDiff, Nat.reduceAdd, Nat.reduceSub, Nat.reduceLeDiff, indexAddrA, indexRefA, appendA, strA, Nat.reduceMul, Nat.zero_mul, Nat.reduceMod, Int.reduceEq, Int.reduceLT, Int.reduceLE, Nat.reduceLT, Nat.lt_irrefl, Nat.reduceBEq, tys0, tys1, tys2, tys3, tys4, tys5, tys6, tys7, tys8, tys9, tys10, tys11, tys12, tys13, tys14, tys15, tys16, tys17, tys18, tys19, tys20, tys21, tys22, tys23, Try.ntmps80, Try.results80, swC, e1, List.length_map, Int.natCast_zero, Int.lt_irrefl, hlen, hlenr, u1, d1]
      refine ⟨by kernel_rfl, ?_⟩
      refine RunL.callp rfl rfl ok_f126 (shNegAll_ok (q :: r) hrl) (by simp only [List.map_cons, pureL, pureB, frE, pr, Bool.and_self, Bool.and_true, Bool.true_and]) rfl ?_
      simp only [run0, run1, run2, run3, run4, run5, run6, run7, run8, run9, run10, run11, run12, run13, run14, run15, run16, run17, run18, run19, run20, run21, run22, reduceCtorEq, Nat.reduceEqDiff, Nat.reduceAdd, Nat.reduceSub, Nat.reduceLeDiff, indexAddrA, indexRefA, appendA, strA, Nat.reduceMul, Nat.zero_mul, Nat.reduceMod, Int.reduceEq, Int.reduceLT, Int.reduceLE, Nat.reduceLT, Nat.lt_irrefl, Nat.reduceBEq, tys0, tys1, tys2, tys3, tys4, tys5, tys6, tys7, tys8, tys9, tys10, tys11, tys12, tys13, tys14, tys15, tys16, tys17, tys18, tys19, tys20, tys21, tys22, tys23, Try.ntmps80, Try.results80, swC, frE]
      refine RunL.callp rfl rfl ok_f124 hmm (by simp only [pureL, pureB, prn, Bool.and_self, Bool.and_true, Bool.true_and]) rfl ?_
      simp only [run0, run1, run2, run3, run4, run5, run6, run7, run8, run9, run10, run11, run12, run13, run14, run15, run16, run17, run18, run19, run20, run21, run22, reduceCtorEq, Nat.reduceEqDiff, Nat.reduceAdd, Nat.reduceSub, Nat.reduceLeDiff, indexAddrA, indexRefA, appendA, strA, Nat.reduceMul, Nat.zero_mul, Nat.reduceMod, Int.reduceEq, Int.reduceLT, Int.reduceLE, Nat.reduceLT, Nat.lt_irrefl, Nat.reduceBEq, tys0, tys1, tys2, tys3, tys4, tys5, tys6, tys7, tys8, tys9, tys10, tys11, tys12, tys13, tys14, tys15, tys16, tys17, tys18, tys19, tys20, tys21, tys22, tys23, Try.ntmps80, Try.results80, swC, frE]
      refine RunL.callp rfl rfl ok_f125 (hng) (by first | rfl | simp only [pureL, pureB, Bool.and_self, Bool.and_true, Bool.true_and]) rfl ?_
      simp only [run0, run1, run2, run3, run4, run5, run6, run7, run8, run9, run10, run11, run12, run13, run14, run15, run16, run17, run18, run19, run20, run21, run22, reduceCtorEq, Nat.reduceEqDiff, Nat.reduceAdd, Nat.reduceSub, Nat.reduceLeDiff, indexAddrA, indexRefA, appendA, strA, Nat.reduceMul, Nat.zero_mul, Nat.reduceMod, Int.reduceEq, Int.reduceLT, Int.reduceLE, Nat.reduceLT, Nat.lt_irrefl, Nat.reduceBEq, tys0, tys1, tys2, tys3, tys4, tys5, tys6, tys7, tys8, tys9, tys10, tys11, tys12, tys13, tys14, tys15, tys16, tys17, tys18, tys19, tys20, tys21, tys22, tys23, Try.ntmps80, Try.results80, swC]
      refine RunL.callp rfl rfl ok_f78 (hc2) (by first | rfl | simp only [pureL, pureB, Bool.and_self, Bool.and_true, Bool.true_and]) rfl ?_
      simp only [run0, run1, run2, run3, run4, run5, run6, run7, run8, run9, run10, run11, run12, run13, run14, run15, run16, run17, run18, run19, run20, run21, run22, reduceCtorEq, Nat.reduceEqDiff, Nat.reduceAdd, Nat.reduceSub, Nat.reduceLeDiff, indexAddrA, indexRefA, appendA, strA, Nat.reduceMul, Nat.zero_mul, Nat.reduceMod, Int.reduceEq, Int.reduceLT, Int.reduceLE, Nat.reduceLT, Nat.lt_irrefl, Nat.reduceBEq, tys0, tys1, tys2, tys3, tys4, tys5, tys6, tys7, tys8, tys9, tys10, tys11, tys12, tys13, tys14, tys15, tys16, tys17, tys18, tys19, tys20, tys21, tys22, tys23, Try.ntmps80, Try.results80, swC, e1, List.length_map, Int.natCast_zero, Int.lt_irrefl, hlen, hlenr, u1, d1]
      exact Fin.eq (by simp [simR, bad_both hl hr hx hU hD, frE]) rfl

theorem shSimplest_ok (l r : List Fr) (hll : l.length ≤ 1048576) (hrl : r.length ≤ 1048576) (hl : ∀ a ∈ l, FB a) (hr : ∀ a ∈ r, FB a) : Ct Try.prog 80 [.sl false (l.map frE), .sl false (r.map frE)] [] (simR l r) [] := by
  cases l with
  | nil => cases r with
    | nil => exact shSimplest_nn hll hrl hl hr
    | cons q r => exact shSimplest_nc q r hll hrl hl hr
  | cons o l => cases r with
    | nil => exact shSimplest_cn o l hll hrl hl hr
    | cons q r => exact shSimplest_cc o l q r hll hrl hl hr

end Go.Proofs.Ytllcljajlemmaaa
/-
  Cuts: which two fractions are next to each other, or the simplest number between: both, and the law.
-/
namespace Go.Proofs.Ytllcljajlemmaaa
open Go K
set_option linter.unusedSimpArgs false
set_option linter.unusedVariables false
set_option maxHeartbeats 1600000
set_option maxRecDepth 8000

/-- How the program compares. -/
def cmpP (p q : Fr) : Int := cmpI (w64 (p.1 * q.2)) (w64 (q.1 * p.2))
theorem cmpPQ {p q : Fr} (hp : goodF p = true) (hq : goodF q = true) : cmpQ p q = cmpP p q := cmp_same hp hq
theorem cmpP_ok (p q : Fr) : Ct Try.prog 82 [fr p.1 p.2, fr q.1 q.2] [] (.int .i64 (cmpP p q)) [] := cmpFr_ok p.1 p.2 q.1 q.2
/-- The first best one's index. -/
def bestI (s : Int) (l : List Fr) : Nat → List Fr → Nat → Nat
  | b, [], _ => b
  | b, a :: r, k => bestI s l (if cmpQ a (l.getD b (0, 1)) = s then k else b) r (k + 1)
theorem bestI_cons (s : Int) (l : List Fr) (a : Fr) (r : List Fr) (b k : Nat) : bestI s l b (a :: r) k = bestI s l (if cmpQ a (l.getD b (0, 1)) = s then k else b) r (k + 1) := rfl
theorem bestI_lt (s : Int) (l : List Fr) : ∀ (r : List Fr) (b k : Nat), b < l.length → k + r.length ≤ l.length → bestI s l b r k < l.length
  | [], b, k, hb, _ => hb
  | a :: r, b, k, hb, hk => by
    simp only [List.length_cons] at hk
    unfold bestI
    exact bestI_lt s l r _ _ (by split <;> omega) (by omega)
theorem goodL_all {l : List Fr} (h : goodL l = true) : l.length ≤ 20 ∧ ∀ a ∈ l, goodF a = true := by
  simp only [goodL, Bool.and_eq_true, decide_eq_true_eq, List.all_eq_true] at h
  exact h
theorem goodL_FB {l : List Fr} (h : goodL l = true) : ∀ a ∈ l, FB a := fun a ha => goodF_FB ((goodL_all h).2 a ha)
theorem frs_at {l : List Fr} {b : Nat} (h : b < l.length) : (l.map frE)[b]? = some (.agg [.int .i64 (l.getD b (0, 1)).1, .int .i64 (l.getD b (0, 1)).2]) := by
  simp [List.getD_eq_getElem?_getD, h, frE]
structure BeS where
  d : List Fr
  r : List Fr
  b : Nat
  X : List AObj
theorem gaBest_ok (s : Int) (l : List Fr) (hl : l.length ≤ 1048576) : Ct Try.prog 77 [.sl false (l.map frE), .int .i64 s] [] (.int .i64 (bestI s l 0 l 0)) [] := by
  refine Ct.by_ hmix [] Try.func77 rfl ?_
  simp only [run0, run1, run2, run3, run4, run5, run6, run7, run8, run9, run10, run11, run12, run13, run14, run15, run16, run17, run18, run19, run20, run21, run22, reduceCtorEq, Nat.reduceEqDiff, Nat.reduceAdd, Nat.reduceSub, Nat.reduceLeDiff, indexAddrA, indexRefA, appendA, strA, Nat.reduceMul, Nat.zero_mul, Nat.reduceMod, Int.reduceEq, Int.reduceLT, Int.reduceLE, Nat.reduceLT, Nat.lt_irrefl, Nat.reduceBEq, tys0, tys1, tys2, tys3, tys4, tys5, tys6, tys7, tys8, tys9, tys10, tys11, tys12, tys13, tys14, tys15, tys16, tys17, tys18, tys19, tys20, tys21, tys22, tys23, Try.ntmps77, Try.results77, List.length_map]
  refine AWp.loop_inv (ι := BeS) (fun q => ⟨[.sl false (l.map frE), .int .i64 s, .junk, .junk, .int .i64 0, .int .i64 q.b, .junk, .junk, .sl false (l.map frE), .int .i64 l.length, .int .i64 q.d.length, .junk, .junk, .junk, .junk, .junk, .junk, .junk, .junk, .junk, .junk, .junk, .junk, .junk, .junk, .junk], q.X⟩)
    (fun q => l = q.d ++ q.r ∧ q.b ≤ q.d.length ∧ bestI s l q.b q.r q.d.length = bestI s l 0 l 0) (fun q => q.r.length) ⟨[], l, 0, []⟩ ⟨rfl, Nat.le_refl _, rfl⟩ ⟨by simp only [List.length_nil, Int.natCast_zero]; repeat constructor, rfl⟩ ?_
  rintro ⟨d, r, b, X⟩ ⟨ha, h2, h3⟩
  refine W.sound hmix (E := []) ?_
  simp only at ha h2 h3
  cases r with
  | nil =>
    have e1 := frs_end ha
    simp only [run0, run1, run2, run3, run4, run5, run6, run7, run8, run9, run10, run11, run12, run13, run14, run15, run16, run17, run18, run19, run20, run21, run22, reduceCtorEq, Nat.reduceEqDiff, Nat.reduceAdd, Nat.reduceSub, Nat.reduceLeDiff, indexAddrA, indexRefA, appendA, strA, Nat.reduceMul, Nat.zero_mul, Nat.reduceMod, Int.reduceEq, Int.reduceLT, Int.reduceLE, Nat.reduceLT, Nat.lt_irrefl, Nat.reduceBEq, tys0, tys1, tys2, tys3, tys4, tys5, tys6, tys7, tys8, tys9, tys10, tys11, tys12, tys13, tys14, tys15, tys16, tys17, tys18, tys19, tys20, tys21, tys22, tys23, Try.ntmps77, Try.results77, List.length_map, e1]
    exact Fin.eq (by rw [← h3]; rfl) rfl
  | cons e r =>
    obtain ⟨e1, e2, e5⟩ := frs_split ha hl
    have hb : b < l.length := by omega
    have e3 := frs_at hb
    have hc := cmpQ_ok e (l.getD b (0, 1))
    simp only [fr] at hc
    have hb2 : (b : Int) < (l.length : Int) := by omega
    simp only [run0, run1, run2, run3, run4, run5, run6, run7, run8, run9, run10, run11, run12, run13, run14, run15, run16, run17, run18, run19, run20, run21, run22, reduceCtorEq, Nat.reduceEqDiff, Nat.reduceAdd, Nat.reduceSub, Nat.reduceLeDiff, indexAddrA, indexRefA, appendA, strA, Nat.reduceMul, Nat.zero_mul, Nat.reduceMod, Int.reduceEq, Int.reduceLT, Int.reduceLE, Nat.reduceLT, Nat.lt_irrefl, Nat.reduceBEq, tys0, tys1, tys2, tys3, tys4, tys5, tys6, tys7, tys8, tys9, tys10, tys11, tys12, tys13, tys14, tys15, tys16, tys17, tys18, tys19, tys20, tys21, tys22, tys23, Try.ntmps77, Try.results77, List.length_map, e1, e2, e3, hb2, Int.toNat_natCast, Int.natCast_nonneg, List.getElem?_append_right, Nat.sub_self]
    refine ⟨by kernel_rfl, ?_⟩
    refine RunL.callp rfl rfl ok_f78 (hc) (by first | rfl | simp only [pureL, pureB, Bool.and_self, Bool.and_true, Bool.true_and]) rfl ?_
    rw [bestI_cons s l e r b d.length] at h3
    by_cases hp : cmpQ e (l.getD b (0, 1)) = s
    · have hp2 : (cmpQ e (l.getD b (0, 1)) == s) = true := beq_iff_eq.2 hp
      rw [if_pos hp] at h3
      simp only [run0, run1, run2, run3, run4, run5, run6, run7, run8, run9, run10, run11, run12, run13, run14, run15, run16, run17, run18, run19, run20, run21, run22, reduceCtorEq, Nat.reduceEqDiff, Nat.reduceAdd, Nat.reduceSub, Nat.reduceLeDiff, indexAddrA, indexRefA, appendA, strA, Nat.reduceMul, Nat.zero_mul, Nat.reduceMod, Int.reduceEq, Int.reduceLT, Int.reduceLE, Nat.reduceLT, Nat.lt_irrefl, Nat.reduceBEq, tys0, tys1, tys2, tys3, tys4, tys5, tys6, tys7, tys8, tys9, tys10, tys11, tys12, tys13, tys14, tys15, tys16, tys17, tys18, tys19, tys20, tys21, tys22, tys23, Try.ntmps77, Try.results77, hp2, e5]
      exact ⟨⟨d ++ [e], r, d.length, _⟩, ⟨by simp [ha], by simp, by simp only [List.length_append, List.length_cons, List.length_nil]; exact h3⟩, by simp, by simp only [List.length_append, List.length_cons, List.length_nil]; repeat constructor, rfl⟩
    · have hp2 : (cmpQ e (l.getD b (0, 1)) == s) = false := beq_eq_false_iff_ne.2 hp
      rw [if_neg hp] at h3
      simp only [run0, run1, run2, run3, run4, run5, run6, run7, run8, run9, run10, run11, run12, run13, run14, run15, run16, run17, run18, run19, run20, run21, run22, reduceCtorEq, Nat.reduceEqDiff, Nat.reduceAdd, Nat.reduceSub, Nat.reduceLeDiff, indexAddrA, indexRefA, appendA, strA, Nat.reduceMul, Nat.zero_mul, Nat.reduceMod, Int.reduceEq, Int.reduceLT, Int.reduceLE, Nat.reduceLT, Nat.lt_irrefl, Nat.reduceBEq, tys0, tys1, tys2, tys3, tys4, tys5, tys6, tys7, tys8, tys9, tys10, tys11, tys12, tys13, tys14, tys15, tys16, tys17, tys18, tys19, tys20, tys21, tys22, tys23, Try.ntmps77, Try.results77, hp2, e5]
      exact ⟨⟨d ++ [e], r, b, _⟩, ⟨by simp [ha], by simp; omega, by simp only [List.length_append, List.length_cons, List.length_nil]; exact h3⟩, by simp, by simp only [List.length_append, List.length_cons, List.length_nil]; repeat constructor, rfl⟩

def cutM (l : List Fr) : Nat := bestI 1 l 0 l 0
def cutL (r : List Fr) : Nat := bestI (-1) r 0 r 0
def overB (l r : List Fr) : Bool := !l.isEmpty && !r.isEmpty && decide (0 ≤ cmpQ (l.getD (cutM l) (0, 1)) (r.getD (cutL r) (0, 1)))
def cutR (l r : List Fr) : AV :=
  if goodL l && goodL r then
    if overB l r then .tup [frE (0, 1), .int .i64 (cutM l), .int .i64 (cutL r), .bool true]
    else if cutBad l r then .tup [frE (0, 0), .int .i64 0, .int .i64 0, .bool false]
    else .tup [frE (frN (cutX l r), frD (cutX l r)), .int .i64 (-1), .int .i64 (-1), .bool true]
  else .tup [frE (0, 0), .int .i64 0, .int .i64 0, .bool false]
theorem whole_ok (n : Int) : Ct Try.prog 83 [.int .i64 n] [] (frE (n, 1)) [] := by
  refine Ct.by_ hmix [] Try.func83 rfl ?_
  simp only [run0, run1, run2, run3, run4, run5, run6, run7, run8, run9, run10, run11, run12, run13, run14, run15, run16, run17, run18, run19, run20, run21, run22, reduceCtorEq, Nat.reduceEqDiff, Nat.reduceAdd, Nat.reduceSub, Nat.reduceLeDiff, indexAddrA, indexRefA, appendA, strA, Nat.reduceMul, Nat.zero_mul, Nat.reduceMod, Int.reduceEq, Int.reduceLT, Int.reduceLE, Nat.reduceLT, Nat.lt_irrefl, Nat.reduceBEq, tys0, tys1, tys2, tys3, tys4, tys5, tys6, tys7, tys8, tys9, tys10, tys11, tys12, tys13, tys14, tys15, tys16, tys17, tys18, tys19, tys20, tys21, tys22, tys23, Try.ntmps83, Try.results83]
  exact Fin.eq rfl rfl
theorem isE_length {l : List Fr} : l.isEmpty = false → (0 : Int) < (l.length : Int) := by
  cases l with
  | nil => simp
  | cons a l => intro _; simp only [List.length_cons]; omega
theorem isE_not {l : List Fr} : l.isEmpty = true → ¬ (0 : Int) < (l.length : Int) := by
  cases l with
  | nil => simp
  | cons a l => simp

theorem specCut_ok (l r : List Fr) (hl : l.length ≤ 1048576) (hr : r.length ≤ 1048576) : Ct Try.prog 32 [.sl false (l.map frE), .sl false (r.map frE)] [] (cutR l r) [] := by
  have pl := frs_pure l
  have pr := frs_pure r
  refine Ct.by_ hmix [] Try.func32 rfl ?_
  simp only [run0, run1, run2, run3, run4, run5, run6, run7, run8, run9, run10, run11, run12, run13, run14, run15, run16, run17, run18, run19, run20, run21, run22, reduceCtorEq, Nat.reduceEqDiff, Nat.reduceAdd, Nat.reduceSub, Nat.reduceLeDiff, indexAddrA, indexRefA, appendA, strA, Nat.reduceMul, Nat.zero_mul, Nat.reduceMod, Int.reduceEq, Int.reduceLT, Int.reduceLE, Nat.reduceLT, Nat.lt_irrefl, Nat.reduceBEq, tys0, tys1, tys2, tys3, tys4, tys5, tys6, tys7, tys8, tys9, tys10, tys11, tys12, tys13, tys14, tys15, tys16, tys17, tys18, tys19, tys20, tys21, tys22, tys23, Try.ntmps32, Try.results32]
  refine RunL.callp rfl rfl ok_f76 (shList_ok l hl) (by simp only [pureL, pureB, pl, Bool.and_self]) rfl ?_
  cases g1 : goodL l
  · simp only [run0, run1, run2, run3, run4, run5, run6, run7, run8, run9, run10, run11, run12, run13, run14, run15, run16, run17, run18, run19, run20, run21, run22, reduceCtorEq, Nat.reduceEqDiff, Nat.reduceAdd, Nat.reduceSub, Nat.reduceLeDiff, indexAddrA, indexRefA, appendA, strA, Nat.reduceMul, Nat.zero_mul, Nat.reduceMod, Int.reduceEq, Int.reduceLT, Int.reduceLE, Nat.reduceLT, Nat.lt_irrefl, Nat.reduceBEq, tys0, tys1, tys2, tys3, tys4, tys5, tys6, tys7, tys8, tys9, tys10, tys11, tys12, tys13, tys14, tys15, tys16, tys17, tys18, tys19, tys20, tys21, tys22, tys23, Try.ntmps32, Try.results32]
    exact Fin.eq (by simp [cutR, g1, frE]) rfl
  simp only [run0, run1, run2, run3, run4, run5, run6, run7, run8, run9, run10, run11, run12, run13, run14, run15, run16, run17, run18, run19, run20, run21, run22, reduceCtorEq, Nat.reduceEqDiff, Nat.reduceAdd, Nat.reduceSub, Nat.reduceLeDiff, indexAddrA, indexRefA, appendA, strA, Nat.reduceMul, Nat.zero_mul, Nat.reduceMod, Int.reduceEq, Int.reduceLT, Int.reduceLE, Nat.reduceLT, Nat.lt_irrefl, Nat.reduceBEq, tys0, tys1, tys2, tys3, tys4, tys5, tys6, tys7, tys8, tys9, tys10, tys11, tys12, tys13, tys14, tys15, tys16, tys17, tys18, tys19, tys20, tys21, tys22, tys23, Try.ntmps32, Try.results32]
  refine RunL.callp rfl rfl ok_f76 (shList_ok r hr) (by simp only [pureL, pureB, pr, Bool.and_self]) rfl ?_
  cases g2 : goodL r
  · simp only [run0, run1, run2, run3, run4, run5, run6, run7, run8, run9, run10, run11, run12, run13, run14, run15, run16, run17, run18, run19, run20, run21, run22, reduceCtorEq, Nat.reduceEqDiff, Nat.reduceAdd, Nat.reduceSub, Nat.reduceLeDiff, indexAddrA, indexRefA, appendA, strA, Nat.reduceMul, Nat.zero_mul, Nat.reduceMod, Int.reduceEq, Int.reduceLT, Int.reduceLE, Nat.reduceLT, Nat.lt_irrefl, Nat.reduceBEq, tys0, tys1, tys2, tys3, tys4, tys5, tys6, tys7, tys8, tys9, tys10, tys11, tys12, tys13, tys14, tys15, tys16, tys17, tys18, tys19, tys20, tys21, tys22, tys23, Try.ntmps32, Try.results32]
    exact Fin.eq (by simp [cutR, g1, g2, frE]) rfl
  have hss := shSimplest_ok l r hl hr (goodL_FB g1) (goodL_FB g2)
  have key : ∀ {P : Prop}, overB l r = false → (simR l r = if cutBad l r then .tup [frE (0, 0), .bool false] else .tup [frE (frN (cutX l r), frD (cutX l r)), .bool true]) := fun _ => by
    unfold simR; cases cutBad l r <;> rfl
  cases m1 : l.isEmpty
  case true =>
    have k1 := isE_not m1
    have ho : overB l r = false := by simp [overB, m1]
    have hk := key (P := True) ho
    simp only [run0, run1, run2, run3, run4, run5, run6, run7, run8, run9, run10, run11, run12, run13, run14, run15, run16, run17, run18, run19, run20, run21, run22, reduceCtorEq, Nat.reduceEqDiff, Nat.reduceAdd, Nat.reduceSub, Nat.reduceLeDiff, indexAddrA, indexRefA, appendA, strA, Nat.reduceMul, Nat.zero_mul, Nat.reduceMod, Int.reduceEq, Int.reduceLT, Int.reduceLE, Nat.reduceLT, Nat.lt_irrefl, Nat.reduceBEq, tys0, tys1, tys2, tys3, tys4, tys5, tys6, tys7, tys8, tys9, tys10, tys11, tys12, tys13, tys14, tys15, tys16, tys17, tys18, tys19, tys20, tys21, tys22, tys23, Try.ntmps32, Try.results32, List.length_map, k1]
    refine RunL.callp rfl rfl ok_f80 hss (by simp only [pureL, pureB, pl, pr, Bool.and_self]) rfl ?_
    rw [hk]
    cases hb : cutBad l r
    · simp only [run0, run1, run2, run3, run4, run5, run6, run7, run8, run9, run10, run11, run12, run13, run14, run15, run16, run17, run18, run19, run20, run21, run22, reduceCtorEq, Nat.reduceEqDiff, Nat.reduceAdd, Nat.reduceSub, Nat.reduceLeDiff, indexAddrA, indexRefA, appendA, strA, Nat.reduceMul, Nat.zero_mul, Nat.reduceMod, Int.reduceEq, Int.reduceLT, Int.reduceLE, Nat.reduceLT, Nat.lt_irrefl, Nat.reduceBEq, tys0, tys1, tys2, tys3, tys4, tys5, tys6, tys7, tys8, tys9, tys10, tys11, tys12, tys13, tys14, tys15, tys16, tys17, tys18, tys19, tys20, tys21, tys22, tys23, Try.ntmps32, Try.results32, frE]
      exact Fin.eq (by simp [cutR, g1, g2, ho, hb, frE]) rfl
    · simp only [run0, run1, run2, run3, run4, run5, run6, run7, run8, run9, run10, run11, run12, run13, run14, run15, run16, run17, run18, run19, run20, run21, run22, reduceCtorEq, Nat.reduceEqDiff, Nat.reduceAdd, Nat.reduceSub, Nat.reduceLeDiff, indexAddrA, indexRefA, appendA, strA, Nat.reduceMul, Nat.zero_mul, Nat.reduceMod, Int.reduceEq, Int.reduceLT, Int.reduceLE, Nat.reduceLT, Nat.lt_irrefl, Nat.reduceBEq, tys0, tys1, tys2, tys3, tys4, tys5, tys6, tys7, tys8, tys9, tys10, tys11, tys12, tys13, tys14, tys15, tys16, tys17, tys18, tys19, tys20, tys21, tys22, tys23, Try.ntmps32, Try.results32, frE]
      exact Fin.eq (by simp [cutR, g1, g2, ho, hb, frE]) rfl
  case false =>
    have k1 := isE_length m1
    cases m2 : r.isEmpty
    case true =>
      have k2 := isE_not m2
      have ho : overB l r = false := by simp [overB, m2]
      have hk := key (P := True) ho
      simp only [run0, run1, run2, run3, run4, run5, run6, run7, run8, run9, run10, run11, run12, run13, run14, run15, run16, run17, run18, run19, run20, run21, run22, reduceCtorEq, Nat.reduceEqDiff, Nat.reduceAdd, Nat.reduceSub, Nat.reduceLeDiff, indexAddrA, indexRefA, appendA, strA, Nat.reduceMul, Nat.zero_mul, Nat.reduceMod, Int.reduceEq, Int.reduceLT, Int.reduceLE, Nat.reduceLT, Nat.lt_irrefl, Nat.reduceBEq, tys0, tys1, tys2, tys3, tys4, tys5, tys6, tys7, tys8, tys9, tys10, tys11, tys12, tys13, tys14, tys15, tys16, tys17, tys18, tys19, tys20, tys21, tys22, tys23, Try.ntmps32, Try.results32, List.length_map, k1, k2]
      refine RunL.callp rfl rfl ok_f80 hss (by simp only [pureL, pureB, pl, pr, Bool.and_self]) rfl ?_
      rw [hk]
      cases hb : cutBad l r
      · simp only [run0, run1, run2, run3, run4, run5, run6, run7, run8, run9, run10, run11, run12, run13, run14, run15, run16, run17, run18, run19, run20, run21, run22, reduceCtorEq, Nat.reduceEqDiff, Nat.reduceAdd, Nat.reduceSub, Nat.reduceLeDiff, indexAddrA, indexRefA, appendA, strA, Nat.reduceMul, Nat.zero_mul, Nat.reduceMod, Int.reduceEq, Int.reduceLT, Int.reduceLE, Nat.reduceLT, Nat.lt_irrefl, Nat.reduceBEq, tys0, tys1, tys2, tys3, tys4, tys5, tys6, tys7, tys8, tys9, tys10, tys11, tys12, tys13, tys14, tys15, tys16, tys17, tys18, tys19, tys20, tys21, tys22, tys23, Try.ntmps32, Try.results32, frE]
        exact Fin.eq (by simp [cutR, g1, g2, ho, hb, frE]) rfl
      · simp only [run0, run1, run2, run3, run4, run5, run6, run7, run8, run9, run10, run11, run12, run13, run14, run15, run16, run17, run18, run19, run20, run21, run22, reduceCtorEq, Nat.reduceEqDiff, Nat.reduceAdd, Nat.reduceSub, Nat.reduceLeDiff, indexAddrA, indexRefA, appendA, strA, Nat.reduceMul, Nat.zero_mul, Nat.reduceMod, Int.reduceEq, Int.reduceLT, Int.reduceLE, Nat.reduceLT, Nat.lt_irrefl, Nat.reduceBEq, tys0, tys1, tys2, tys3, tys4, tys5, tys6, tys7, tys8, tys9, tys10, tys11, tys12, tys13, tys14, tys15, tys16, tys17, tys18, tys19, tys20, tys21, tys22, tys23, Try.ntmps32, Try.results32, frE]
        exact Fin.eq (by simp [cutR, g1, g2, ho, hb, frE]) rfl
    case false =>
      have k2 := isE_length m2
      have b1 : cutM l < l.length := bestI_lt _ _ _ _ _ (by omega) (by omega)
      have b2 : cutL r < r.length := bestI_lt _ _ _ _ _ (by omega) (by omega)
      have c1 := frs_at b1
      have c2 := frs_at b2
      have b3 : (cutM l : Int) < (l.length : Int) := by omega
      have b4 : (cutL r : Int) < (r.length : Int) := by omega
      have hc := cmpQ_ok (l.getD (cutM l) (0, 1)) (r.getD (cutL r) (0, 1))
      simp only [fr] at hc
      have hgm : Ct Try.prog 77 [.sl false (l.map frE), .int .i64 1] [] (.int .i64 (cutM l)) [] := gaBest_ok 1 l hl
      have hgl : Ct Try.prog 77 [.sl false (r.map frE), .int .i64 (-1)] [] (.int .i64 (cutL r)) [] := gaBest_ok (-1) r hr
      simp only [run0, run1, run2, run3, run4, run5, run6, run7, run8, run9, run10, run11, run12, run13, run14, run15, run16, run17, run18, run19, run20, run21, run22, reduceCtorEq, Nat.reduceEqDiff, Nat.reduceAdd, Nat.reduceSub, Nat.reduceLeDiff, indexAddrA, indexRefA, appendA, strA, Nat.reduceMul, Nat.zero_mul, Nat.reduceMod, Int.reduceEq, Int.reduceLT, Int.reduceLE, Nat.reduceLT, Nat.lt_irrefl, Nat.reduceBEq, tys0, tys1, tys2, tys3, tys4, tys5, tys6, tys7, tys8, tys9, tys10, tys11, tys12, tys13, tys14, tys15, tys16, tys17, tys18, tys19, tys20, tys21, tys22, tys23, Try.ntmps32, Try.results32, List.length_map, k1, k2]
      refine RunL.callp rfl rfl ok_f77 hgm (by simp only [pureL, pureB, pl, Bool.and_self]) rfl ?_
      simp only [run0, run1, run2, run3, run4, run5, run6, run7, run8, run9, run10, run11, run12, run13, run14, run15, run16, run17, run18, run19, run20, run21, run22, reduceCtorEq, Nat.reduceEqDiff, Nat.reduceAdd, Nat.reduceSub, Nat.reduceLeDiff, indexAddrA, indexRefA, appendA, strA, Nat.reduceMul, Nat.zero_mul, Nat.reduceMod, Int.reduceEq, Int.reduceLT, Int.reduceLE, Nat.reduceLT, Nat.lt_irrefl, Nat.reduceBEq, tys0, tys1, tys2, tys3, tys4, tys5, tys6, tys7, tys8, tys9, tys10, tys11, tys12, tys13, tys14, tys15, tys16, tys17, tys18, tys19, tys20, tys21, tys22, tys23, Try.ntmps32, Try.results32]
      refine RunL.callp rfl rfl ok_f77 hgl (by simp only [pureL, pureB, pr, Bool.and_self]) rfl ?_
      simp only [run0, run1, run2, run3, run4, run5, run6, run7, run8, run9, run10, run11, run12, run13, run14, run15, run16, run17, run18, run19, run20, run21, run22, reduceCtorEq, Nat.reduceEqDiff, Nat.reduceAdd, Nat.reduceSub, Nat.reduceLeDiff, indexAddrA, indexRefA, appendA, strA, Nat.reduceMul, Nat.zero_mul, Nat.reduceMod, Int.reduceEq, Int.reduceLT, Int.reduceLE, Nat.reduceLT, Nat.lt_irrefl, Nat.reduceBEq, tys0, tys1, tys2, tys3, tys4, tys5, tys6, tys7, tys8, tys9, tys10, tys11, tys12, tys13, tys14, tys15, tys16, tys17, tys18, tys19, tys20, tys21, tys22, tys23, Try.ntmps32, Try.results32, List.length_map, c1, c2, b3, b4, Int.toNat_natCast, Int.natCast_nonneg]
      refine ⟨by kernel_rfl, ?_⟩
      refine RunL.callp rfl rfl ok_f78 (hc) (by first | rfl | simp only [pureL, pureB, Bool.and_self, Bool.and_true, Bool.true_and]) rfl ?_
      by_cases ho : 0 ≤ cmpQ (l.getD (cutM l) (0, 1)) (r.getD (cutL r) (0, 1))
      · have ho2 : overB l r = true := by simp only [overB, m1, m2, ho]; rfl
        simp only [run0, run1, run2, run3, run4, run5, run6, run7, run8, run9, run10, run11, run12, run13, run14, run15, run16, run17, run18, run19, run20, run21, run22, reduceCtorEq, Nat.reduceEqDiff, Nat.reduceAdd, Nat.reduceSub, Nat.reduceLeDiff, indexAddrA, indexRefA, appendA, strA, Nat.reduceMul, Nat.zero_mul, Nat.reduceMod, Int.reduceEq, Int.reduceLT, Int.reduceLE, Nat.reduceLT, Nat.lt_irrefl, Nat.reduceBEq, tys0, tys1, tys2, tys3, tys4, tys5, tys6, tys7, tys8, tys9, tys10, tys11, tys12, tys13, tys14, tys15, tys16, tys17, tys18, tys19, tys20, tys21, tys22, tys23, Try.ntmps32, Try.results32, ho]
        refine RunL.callp rfl rfl ok_f79 (shInt_ok 0) (by first | rfl | simp only [pureL, pureB, Bool.and_self, Bool.and_true, Bool.true_and]) rfl ?_
        simp only [run0, run1, run2, run3, run4, run5, run6, run7, run8, run9, run10, run11, run12, run13, run14, run15, run16, run17, run18, run19, run20, run21, run22, reduceCtorEq, Nat.reduceEqDiff, Nat.reduceAdd, Nat.reduceSub, Nat.reduceLeDiff, indexAddrA, indexRefA, appendA, strA, Nat.reduceMul, Nat.zero_mul, Nat.reduceMod, Int.reduceEq, Int.reduceLT, Int.reduceLE, Nat.reduceLT, Nat.lt_irrefl, Nat.reduceBEq, tys0, tys1, tys2, tys3, tys4, tys5, tys6, tys7, tys8, tys9, tys10, tys11, tys12, tys13, tys14, tys15, tys16, tys17, tys18, tys19, tys20, tys21, tys22, tys23, Try.ntmps32, Try.results32, fr]
        exact Fin.eq (by simp [cutR, g1, g2, ho2, frE]) rfl
      · have ho2 : overB l r = false := by simp only [overB, m1, m2, ho]; rfl
        have hk := key (P := True) ho2
        simp only [run0, run1, run2, run3, run4, run5, run6, run7, run8, run9, run10, run11, run12, run13, run14, run15, run16, run17, run18, run19, run20, run21, run22, reduceCtorEq, Nat.reduceEqDiff, Nat.reduceAdd, Nat.reduceSub, Nat.reduceLeDiff, indexAddrA, indexRefA, appendA, strA, Nat.reduceMul, Nat.zero_mul, Nat.reduceMod, Int.reduceEq, Int.reduceLT, Int.reduceLE, Nat.reduceLT, Nat.lt_irrefl, Nat.reduceBEq, tys0, tys1, tys2, tys3, tys4, tys5, tys6, tys7, tys8, tys9, tys10, tys11, tys12, tys13, tys14, tys15, tys16, tys17, tys18, tys19, tys20, tys21, tys22, tys23, Try.ntmps32, Try.results32, ho]
        refine RunL.callp rfl rfl ok_f80 hss (by simp only [pureL, pureB, pl, pr, Bool.and_self]) rfl ?_
        rw [hk]
        cases hb : cutBad l r
        · simp only [run0, run1, run2, run3, run4, run5, run6, run7, run8, run9, run10, run11, run12, run13, run14, run15, run16, run17, run18, run19, run20, run21, run22, reduceCtorEq, Nat.reduceEqDiff, Nat.reduceAdd, Nat.reduceSub, Nat.reduceLeDiff, indexAddrA, indexRefA, appendA, strA, Nat.reduceMul, Nat.zero_mul, Nat.reduceMod, Int.reduceEq, Int.reduceLT, Int.reduceLE, Nat.reduceLT, Nat.lt_irrefl, Nat.reduceBEq, tys0, tys1, tys2, tys3, tys4, tys5, tys6, tys7, tys8, tys9, tys10, tys11, tys12, tys13, tys14, tys15, tys16, tys17, tys18, tys19, tys20, tys21, tys22, tys23, Try.ntmps32, Try.results32, frE]
          exact Fin.eq (by simp [cutR, g1, g2, ho2, hb, frE]) rfl
        · simp only [run0, run1, run2, run3, run4, run5, run6, run7, run8, run9, run10, run11, run12, run13, run14, run15, run16, run17, run18, run19, run20, run21, run22, reduceCtorEq, Nat.reduceEqDiff, Nat.reduceAdd, Nat.reduceSub, Nat.reduceLeDiff, indexAddrA, indexRefA, appendA, strA, Nat.reduceMul, Nat.zero_mul, Nat.reduceMod, Int.reduceEq, Int.reduceLT, Int.reduceLE, Nat.reduceLT, Nat.lt_irrefl, Nat.reduceBEq, tys0, tys1, tys2, tys3, tys4, tys5, tys6, tys7, tys8, tys9, tys10, tys11, tys12, tys13, tys14, tys15, tys16, tys17, tys18, tys19, tys20, tys21, tys22, tys23, Try.ntmps32, Try.results32, frE]
          exact Fin.eq (by simp [cutR, g1, g2, ho2, hb, frE]) rfl

/-! ### the program -/
theorem cmpQ_one {p q : Fr} : cmpQ p q = 1 ↔ 0 < cmpQ p q := by rcases cmpQ_val p q with h | h | h <;> omega
theorem cmpQ_minus {p q : Fr} : cmpQ p q = -1 ↔ cmpQ p q < 0 := by rcases cmpQ_val p q with h | h | h <;> omega
theorem goodF_at {l : List Fr} {b : Nat} (h : goodL l = true) (hb : b < l.length) : goodF (l.getD b (0, 1)) = true := by
  rw [List.getD_eq_getElem?_getD, List.getElem?_eq_getElem hb]
  exact (goodL_all h).2 _ (List.getElem_mem hb)

theorem implCut_ok (l r : List Fr) (hl : l.length ≤ 1048576) (hr : r.length ≤ 1048576) : Ct Try.prog 34 [.sl false (l.map frE), .sl false (r.map frE)] [] (cutR l r) [] := by
  have pl := frs_pure l
  have pr := frs_pure r
  refine Ct.by_ hmix [] Try.func34 rfl ?_
  simp only [run0, run1, run2, run3, run4, run5, run6, run7, run8, run9, run10, run11, run12, run13, run14, run15, run16, run17, run18, run19, run20, run21, run22, reduceCtorEq, Nat.reduceEqDiff, Nat.reduceAdd, Nat.reduceSub, Nat.reduceLeDiff, indexAddrA, indexRefA, appendA, strA, Nat.reduceMul, Nat.zero_mul, Nat.reduceMod, Int.reduceEq, Int.reduceLT, Int.reduceLE, Nat.reduceLT, Nat.lt_irrefl, Nat.reduceBEq, tys0, tys1, tys2, tys3, tys4, tys5, tys6, tys7, tys8, tys9, tys10, tys11, tys12, tys13, tys14, tys15, tys16, tys17, tys18, tys19, tys20, tys21, tys22, tys23, Try.ntmps34, Try.results34]
  refine RunL.callp rfl rfl ok_f81 (fractionsOk_ok l hl) (by simp only [pureL, pureB, pl, Bool.and_self]) rfl ?_
  cases g1 : goodL l
  · simp only [run0, run1, run2, run3, run4, run5, run6, run7, run8, run9, run10, run11, run12, run13, run14, run15, run16, run17, run18, run19, run20, run21, run22, reduceCtorEq, Nat.reduceEqDiff, Nat.reduceAdd, Nat.reduceSub, Nat.reduceLeDiff, indexAddrA, indexRefA, appendA, strA, Nat.reduceMul, Nat.zero_mul, Nat.reduceMod, Int.reduceEq, Int.reduceLT, Int.reduceLE, Nat.reduceLT, Nat.lt_irrefl, Nat.reduceBEq, tys0, tys1, tys2, tys3, tys4, tys5, tys6, tys7, tys8, tys9, tys10, tys11, tys12, tys13, tys14, tys15, tys16, tys17, tys18, tys19, tys20, tys21, tys22, tys23, Try.ntmps34, Try.results34]
    exact Fin.eq (by simp [cutR, g1, frE]) rfl
  simp only [run0, run1, run2, run3, run4, run5, run6, run7, run8, run9, run10, run11, run12, run13, run14, run15, run16, run17, run18, run19, run20, run21, run22, reduceCtorEq, Nat.reduceEqDiff, Nat.reduceAdd, Nat.reduceSub, Nat.reduceLeDiff, indexAddrA, indexRefA, appendA, strA, Nat.reduceMul, Nat.zero_mul, Nat.reduceMod, Int.reduceEq, Int.reduceLT, Int.reduceLE, Nat.reduceLT, Nat.lt_irrefl, Nat.reduceBEq, tys0, tys1, tys2, tys3, tys4, tys5, tys6, tys7, tys8, tys9, tys10, tys11, tys12, tys13, tys14, tys15, tys16, tys17, tys18, tys19, tys20, tys21, tys22, tys23, Try.ntmps34, Try.results34]
  refine RunL.callp rfl rfl ok_f81 (fractionsOk_ok r hr) (by simp only [pureL, pureB, pr, Bool.and_self]) rfl ?_
  cases g2 : goodL r
  · simp only [run0, run1, run2, run3, run4, run5, run6, run7, run8, run9, run10, run11, run12, run13, run14, run15, run16, run17, run18, run19, run20, run21, run22, reduceCtorEq, Nat.reduceEqDiff, Nat.reduceAdd, Nat.reduceSub, Nat.reduceLeDiff, indexAddrA, indexRefA, appendA, strA, Nat.reduceMul, Nat.zero_mul, Nat.reduceMod, Int.reduceEq, Int.reduceLT, Int.reduceLE, Nat.reduceLT, Nat.lt_irrefl, Nat.reduceBEq, tys0, tys1, tys2, tys3, tys4, tys5, tys6, tys7, tys8, tys9, tys10, tys11, tys12, tys13, tys14, tys15, tys16, tys17, tys18, tys19, tys20, tys21, tys22, tys23, Try.ntmps34, Try.results34]
    exact Fin.eq (by simp [cutR, g1, g2, frE]) rfl
  simp only [run0, run1, run2, run3, run4, run5, run6, run7, run8, run9, run10, run11, run12, run13, run14, run15, run16, run17, run18, run19, run20, run21, run22, reduceCtorEq, Nat.reduceEqDiff, Nat.reduceAdd, Nat.reduceSub, Nat.reduceLeDiff, indexAddrA, indexRefA, appendA, strA, Nat.reduceMul, Nat.zero_mul, Nat.reduceMod, Int.reduceEq, Int.reduceLT, Int.reduceLE, Nat.reduceLT, Nat.lt_irrefl, Nat.reduceBEq, tys0, tys1, tys2, tys3, tys4, tys5, tys6, tys7, tys8, tys9, tys10, tys11, tys12, tys13, tys14, tys15, tys16, tys17, tys18, tys19, tys20, tys21, tys22, tys23, Try.ntmps34, Try.results34, List.length_map]
  refine AWp.loop_inv (ι := BeS) (fun q => ⟨[.sl false (l.map frE), .sl false (r.map frE), .junk, .junk, .ptr 0 0, .int .i64 0, .int .i64 0, .bool false, .int .i64 q.b, .int .i64 0, .junk, .junk, .junk, .junk, .junk, .junk, .junk, .junk, .junk, .junk, .junk, .junk, .junk, .junk, .junk, .sl false (l.map frE), .int .i64 l.length, .int .i64 q.d.length, .junk, .junk, .junk, .junk, .junk, .junk, .junk, .junk, .junk, .junk, .junk, .junk, .junk, .junk, .junk, .junk, .junk, .junk, .junk, .junk, .junk, .junk, .junk, .junk, .junk, .junk, .junk, .junk, .junk, .junk, .junk, .junk, .junk, .junk, .junk, .junk, .junk, .junk, .junk, .junk, .junk, .junk, .junk, .junk, .junk, .junk, .junk, .junk, .junk, .junk, .junk, .junk, .junk, .junk, .junk, .junk, .junk, .junk, .junk, .junk, .junk, .junk], .box 42 [.int .i64 0, .int .i64 0] :: q.X⟩)
    (fun q => l = q.d ++ q.r ∧ q.b ≤ q.d.length ∧ bestI 1 l q.b q.r q.d.length = bestI 1 l 0 l 0) (fun q => q.r.length) ⟨[], l, 0, []⟩ ⟨rfl, Nat.le_refl _, rfl⟩ ⟨by simp only [List.length_nil, Int.natCast_zero]; repeat constructor, rfl⟩ ?_
  rintro ⟨d, q, b, X⟩ ⟨ha, h2, h3⟩
  refine W.sound hmix (E := []) ?_
  simp only at ha h2 h3
  cases q with
  | cons e q =>
    obtain ⟨e1, e2, e5⟩ := frs_split ha hl
    have hb : b < l.length := by omega
    have e3 := frs_at hb
    have hc := cmpP_ok e (l.getD b (0, 1))
    rw [← cmpPQ ((goodL_all g1).2 e (by rw [ha]; simp)) (goodF_at g1 hb)] at hc
    simp only [fr] at hc
    have hb2 : (b : Int) < (l.length : Int) := by omega
    simp only [run0, run1, run2, run3, run4, run5, run6, run7, run8, run9, run10, run11, run12, run13, run14, run15, run16, run17, run18, run19, run20, run21, run22, reduceCtorEq, Nat.reduceEqDiff, Nat.reduceAdd, Nat.reduceSub, Nat.reduceLeDiff, indexAddrA, indexRefA, appendA, strA, Nat.reduceMul, Nat.zero_mul, Nat.reduceMod, Int.reduceEq, Int.reduceLT, Int.reduceLE, Nat.reduceLT, Nat.lt_irrefl, Nat.reduceBEq, tys0, tys1, tys2, tys3, tys4, tys5, tys6, tys7, tys8, tys9, tys10, tys11, tys12, tys13, tys14, tys15, tys16, tys17, tys18, tys19, tys20, tys21, tys22, tys23, Try.ntmps34, Try.results34, List.length_map, e1, e2, e3, hb2, Int.toNat_natCast, Int.natCast_nonneg, List.getElem?_append_right, Nat.sub_self]
    refine ⟨by kernel_rfl, ?_⟩
    refine RunL.callp rfl rfl ok_f82 (hc) (by first | rfl | simp only [pureL, pureB, Bool.and_self, Bool.and_true, Bool.true_and]) rfl ?_
    rw [bestI_cons 1 l e q b d.length] at h3
    by_cases hp : 0 < cmpQ e (l.getD b (0, 1))
    · rw [if_pos (cmpQ_one.2 hp)] at h3
      simp only [run0, run1, run2, run3, run4, run5, run6, run7, run8, run9, run10, run11, run12, run13, run14, run15, run16, run17, run18, run19, run20, run21, run22, reduceCtorEq, Nat.reduceEqDiff, Nat.reduceAdd, Nat.reduceSub, Nat.reduceLeDiff, indexAddrA, indexRefA, appendA, strA, Nat.reduceMul, Nat.zero_mul, Nat.reduceMod, Int.reduceEq, Int.reduceLT, Int.reduceLE, Nat.reduceLT, Nat.lt_irrefl, Nat.reduceBEq, tys0, tys1, tys2, tys3, tys4, tys5, tys6, tys7, tys8, tys9, tys10, tys11, tys12, tys13, tys14, tys15, tys16, tys17, tys18, tys19, tys20, tys21, tys22, tys23, Try.ntmps34, Try.results34, hp, e5]
      exact ⟨⟨d ++ [e], q, d.length, _⟩, ⟨by simp [ha], by simp, by simp only [List.length_append, List.length_cons, List.length_nil]; exact h3⟩, by simp, by simp only [List.length_append, List.length_cons, List.length_nil]; repeat constructor, rfl⟩
    · rw [if_neg (fun e => hp (cmpQ_one.1 e))] at h3
      simp only [run0, run1, run2, run3, run4, run5, run6, run7, run8, run9, run10, run11, run12, run13, run14, run15, run16, run17, run18, run19, run20, run21, run22, reduceCtorEq, Nat.reduceEqDiff, Nat.reduceAdd, Nat.reduceSub, Nat.reduceLeDiff, indexAddrA, indexRefA, appendA, strA, Nat.reduceMul, Nat.zero_mul, Nat.reduceMod, Int.reduceEq, Int.reduceLT, Int.reduceLE, Nat.reduceLT, Nat.lt_irrefl, Nat.reduceBEq, tys0, tys1, tys2, tys3, tys4, tys5, tys6, tys7, tys8, tys9, tys10, tys11, tys12, tys13, tys14, tys15, tys16, tys17, tys18, tys19, tys20, tys21, tys22, tys23, Try.ntmps34, Try.results34, hp, e5]
      exact ⟨⟨d ++ [e], q, b, _⟩, ⟨by simp [ha], by simp; omega, by simp only [List.length_append, List.length_cons, List.length_nil]; exact h3⟩, by simp, by simp only [List.length_append, List.length_cons, List.length_nil]; repeat constructor, rfl⟩
  | nil =>
  have e1 := frs_end ha
  have hbm : b = cutM l := h3
  clear h2 h3 ha
  subst hbm
  simp only [run0, run1, run2, run3, run4, run5, run6, run7, run8, run9, run10, run11, run12, run13, run14, run15, run16, run17, run18, run19, run20, run21, run22, reduceCtorEq, Nat.reduceEqDiff, Nat.reduceAdd, Nat.reduceSub, Nat.reduceLeDiff, indexAddrA, indexRefA, appendA, strA, Nat.reduceMul, Nat.zero_mul, Nat.reduceMod, Int.reduceEq, Int.reduceLT, Int.reduceLE, Nat.reduceLT, Nat.lt_irrefl, Nat.reduceBEq, tys0, tys1, tys2, tys3, tys4, tys5, tys6, tys7, tys8, tys9, tys10, tys11, tys12, tys13, tys14, tys15, tys16, tys17, tys18, tys19, tys20, tys21, tys22, tys23, Try.ntmps34, Try.results34, List.length_map, e1]
  refine AWp.loop_inv (ι := BeS) (fun q => ⟨[.sl false (l.map frE), .sl false (r.map frE), .junk, .junk, .ptr 0 0, .int .i64 0, .int .i64 0, .bool false, .int .i64 (cutM l), .int .i64 q.b, .junk, .junk, .junk, .junk, .junk, .junk, .junk, .junk, .junk, .junk, .junk, .junk, .junk, .junk, .junk, .junk, .junk, .junk, .junk, .junk, .junk, .junk, .junk, .junk, .junk, .junk, .junk, .junk, .junk, .junk, .junk, .sl false (r.map frE), .int .i64 r.length, .int .i64 q.d.length, .junk, .junk, .junk, .junk, .junk, .junk, .junk, .junk, .junk, .junk, .junk, .junk, .junk, .junk, .junk, .junk, .junk, .junk, .junk, .junk, .junk, .junk, .junk, .junk, .junk, .junk, .junk, .junk, .junk, .junk, .junk, .junk, .junk, .junk, .junk, .junk, .junk, .junk, .junk, .junk, .junk, .junk, .junk, .junk, .junk, .junk], .box 42 [.int .i64 0, .int .i64 0] :: q.X⟩)
    (fun q => r = q.d ++ q.r ∧ q.b ≤ q.d.length ∧ bestI (-1) r q.b q.r q.d.length = bestI (-1) r 0 r 0) (fun q => q.r.length) ⟨[], r, 0, X⟩ ⟨rfl, Nat.le_refl _, rfl⟩ ⟨by simp only [List.length_nil, Int.natCast_zero]; repeat constructor, rfl⟩ ?_
  rintro ⟨d, q, b, X⟩ ⟨ha, h2, h3⟩
  refine W.sound hmix (E := []) ?_
  simp only at ha h2 h3
  cases q with
  | cons e q =>
    obtain ⟨e1, e2, e5⟩ := frs_split ha hr
    have hb : b < r.length := by omega
    have e3 := frs_at hb
    have hc := cmpP_ok e (r.getD b (0, 1))
    rw [← cmpPQ ((goodL_all g2).2 e (by rw [ha]; simp)) (goodF_at g2 hb)] at hc
    simp only [fr] at hc
    have hb2 : (b : Int) < (r.length : Int) := by omega
    simp only [run0, run1, run2, run3, run4, run5, run6, run7, run8, run9, run10, run11, run12, run13, run14, run15, run16, run17, run18, run19, run20, run21, run22, reduceCtorEq, Nat.reduceEqDiff, Nat.reduceAdd, Nat.reduceSub, Nat.reduceLeDiff, indexAddrA, indexRefA, appendA, strA, Nat.reduceMul, Nat.zero_mul, Nat.reduceMod, Int.reduceEq, Int.reduceLT, Int.reduceLE, Nat.reduceLT, Nat.lt_irrefl, Nat.reduceBEq, tys0, tys1, tys2, tys3, tys4, tys5, tys6, tys7, tys8, tys9, tys10, tys11, tys12, tys13, tys14, tys15, tys16, tys17, tys18, tys19, tys20, tys21, tys22, tys23, Try.ntmps34, Try.results34, List.length_map, e1, e2, e3, hb2, Int.toNat_natCast, Int.natCast_nonneg, List.getElem?_append_right, Nat.sub_self]
    refine ⟨by kernel_rfl, ?_⟩
    refine RunL.callp rfl rfl ok_f82 (hc) (by first | rfl | simp only [pureL, pureB, Bool.and_self, Bool.and_true, Bool.true_and]) rfl ?_
    rw [bestI_cons (-1) r e q b d.length] at h3
    by_cases hp : cmpQ e (r.getD b (0, 1)) < 0
    · rw [if_pos (cmpQ_minus.2 hp)] at h3
      simp only [run0, run1, run2, run3, run4, run5, run6, run7, run8, run9, run10, run11, run12, run13, run14, run15, run16, run17, run18, run19, run20, run21, run22, reduceCtorEq, Nat.reduceEqDiff, Nat.reduceAdd, Nat.reduceSub, Nat.reduceLeDiff, indexAddrA, indexRefA, appendA, strA, Nat.reduceMul, Nat.zero_mul, Nat.reduceMod, Int.reduceEq, Int.reduceLT, Int.reduceLE, Nat.reduceLT, Nat.lt_irrefl, Nat.reduceBEq, tys0, tys1, tys2, tys3, tys4, tys5, tys6, tys7, tys8, tys9, tys10, tys11, tys12, tys13, tys14, tys15, tys16, tys17, tys18, tys19, tys20, tys21, tys22, tys23, Try.ntmps34, Try.results34, hp, e5]
      exact ⟨⟨d ++ [e], q, d.length, _⟩, ⟨by simp [ha], by simp, by simp only [List.length_append, List.length_cons, List.length_nil]; exact h3⟩, by simp, by simp only [List.length_append, List.length_cons, List.length_nil]; repeat constructor, rfl⟩
    · rw [if_neg (fun e => hp (cmpQ_minus.1 e))] at h3
      simp only [run0, run1, run2, run3, run4, run5, run6, run7, run8, run9, run10, run11, run12, run13, run14, run15, run16, run17, run18, run19, run20, run21, run22, reduceCtorEq, Nat.reduceEqDiff, Nat.reduceAdd, Nat.reduceSub, Nat.reduceLeDiff, indexAddrA, indexRefA, appendA, strA, Nat.reduceMul, Nat.zero_mul, Nat.reduceMod, Int.reduceEq, Int.reduceLT, Int.reduceLE, Nat.reduceLT, Nat.lt_irrefl, Nat.reduceBEq, tys0, tys1, tys2, tys3, tys4, tys5, tys6, tys7, tys8, tys9, tys10, tys11, tys12, tys13, tys14, tys15, tys16, tys17, tys18, tys19, tys20, tys21, tys22, tys23, Try.ntmps34, Try.results34, hp, e5]
      exact ⟨⟨d ++ [e], q, b, _⟩, ⟨by simp [ha], by simp; omega, by simp only [List.length_append, List.length_cons, List.length_nil]; exact h3⟩, by simp, by simp only [List.length_append, List.length_cons, List.length_nil]; repeat constructor, rfl⟩
  | nil =>
  have e1 := frs_end ha
  have hbm : b = cutL r := h3
  clear h2 h3 ha
  subst hbm
  have hss := simplest_ok l r hl hr
  have hk : simR l r = if cutBad l r then .tup [frE (0, 0), .bool false] else .tup [frE (frN (cutX l r), frD (cutX l r)), .bool true] := by
    unfold simR; cases cutBad l r <;> rfl
  cases m1 : l.isEmpty
  case true =>
    have k1 := isE_not m1
    have ho : overB l r = false := by simp [overB, m1]
    simp only [run0, run1, run2, run3, run4, run5, run6, run7, run8, run9, run10, run11, run12, run13, run14, run15, run16, run17, run18, run19, run20, run21, run22, reduceCtorEq, Nat.reduceEqDiff, Nat.reduceAdd, Nat.reduceSub, Nat.reduceLeDiff, indexAddrA, indexRefA, appendA, strA, Nat.reduceMul, Nat.zero_mul, Nat.reduceMod, Int.reduceEq, Int.reduceLT, Int.reduceLE, Nat.reduceLT, Nat.lt_irrefl, Nat.reduceBEq, tys0, tys1, tys2, tys3, tys4, tys5, tys6, tys7, tys8, tys9, tys10, tys11, tys12, tys13, tys14, tys15, tys16, tys17, tys18, tys19, tys20, tys21, tys22, tys23, Try.ntmps34, Try.results34, List.length_map, e1, k1]
    refine ⟨by kernel_rfl, ?_⟩
    refine RunL.callp rfl rfl ok_f84 hss (by simp only [pureL, pureB, pl, pr, Bool.and_self]) rfl ?_
    rw [hk]
    cases hb : cutBad l r
    · simp only [run0, run1, run2, run3, run4, run5, run6, run7, run8, run9, run10, run11, run12, run13, run14, run15, run16, run17, run18, run19, run20, run21, run22, reduceCtorEq, Nat.reduceEqDiff, Nat.reduceAdd, Nat.reduceSub, Nat.reduceLeDiff, indexAddrA, indexRefA, appendA, strA, Nat.reduceMul, Nat.zero_mul, Nat.reduceMod, Int.reduceEq, Int.reduceLT, Int.reduceLE, Nat.reduceLT, Nat.lt_irrefl, Nat.reduceBEq, tys0, tys1, tys2, tys3, tys4, tys5, tys6, tys7, tys8, tys9, tys10, tys11, tys12, tys13, tys14, tys15, tys16, tys17, tys18, tys19, tys20, tys21, tys22, tys23, Try.ntmps34, Try.results34, frE, List.getElem?_append_right, Nat.sub_self]
      exact Fin.eq (by simp [cutR, g1, g2, ho, hb, frE]) rfl
    · simp only [run0, run1, run2, run3, run4, run5, run6, run7, run8, run9, run10, run11, run12, run13, run14, run15, run16, run17, run18, run19, run20, run21, run22, reduceCtorEq, Nat.reduceEqDiff, Nat.reduceAdd, Nat.reduceSub, Nat.reduceLeDiff, indexAddrA, indexRefA, appendA, strA, Nat.reduceMul, Nat.zero_mul, Nat.reduceMod, Int.reduceEq, Int.reduceLT, Int.reduceLE, Nat.reduceLT, Nat.lt_irrefl, Nat.reduceBEq, tys0, tys1, tys2, tys3, tys4, tys5, tys6, tys7, tys8, tys9, tys10, tys11, tys12, tys13, tys14, tys15, tys16, tys17, tys18, tys19, tys20, tys21, tys22, tys23, Try.ntmps34, Try.results34, frE, List.getElem?_append_right, Nat.sub_self]
      exact Fin.eq (by simp [cutR, g1, g2, ho, hb, frE]) rfl
  case false =>
    have k1 := isE_length m1
    cases m2 : r.isEmpty
    case true =>
      have k2 := isE_not m2
      have ho : overB l r = false := by simp [overB, m2]
      simp only [run0, run1, run2, run3, run4, run5, run6, run7, run8, run9, run10, run11, run12, run13, run14, run15, run16, run17, run18, run19, run20, run21, run22, reduceCtorEq, Nat.reduceEqDiff, Nat.reduceAdd, Nat.reduceSub, Nat.reduceLeDiff, indexAddrA, indexRefA, appendA, strA, Nat.reduceMul, Nat.zero_mul, Nat.reduceMod, Int.reduceEq, Int.reduceLT, Int.reduceLE, Nat.reduceLT, Nat.lt_irrefl, Nat.reduceBEq, tys0, tys1, tys2, tys3, tys4, tys5, tys6, tys7, tys8, tys9, tys10, tys11, tys12, tys13, tys14, tys15, tys16, tys17, tys18, tys19, tys20, tys21, tys22, tys23, Try.ntmps34, Try.results34, List.length_map, e1, k1, k2]
      refine ⟨by kernel_rfl, ?_⟩
      refine RunL.callp rfl rfl ok_f84 hss (by simp only [pureL, pureB, pl, pr, Bool.and_self]) rfl ?_
      rw [hk]
      cases hb : cutBad l r
      · simp only [run0, run1, run2, run3, run4, run5, run6, run7, run8, run9, run10, run11, run12, run13, run14, run15, run16, run17, run18, run19, run20, run21, run22, reduceCtorEq, Nat.reduceEqDiff, Nat.reduceAdd, Nat.reduceSub, Nat.reduceLeDiff, indexAddrA, indexRefA, appendA, strA, Nat.reduceMul, Nat.zero_mul, Nat.reduceMod, Int.reduceEq, Int.reduceLT, Int.reduceLE, Nat.reduceLT, Nat.lt_irrefl, Nat.reduceBEq, tys0, tys1, tys2, tys3, tys4, tys5, tys6, tys7, tys8, tys9, tys10, tys11, tys12, tys13, tys14, tys15, tys16, tys17, tys18, tys19, tys20, tys21, tys22, tys23, Try.ntmps34, Try.results34, frE, List.getElem?_append_right, Nat.sub_self]
        exact Fin.eq (by simp [cutR, g1, g2, ho, hb, frE]) rfl
      · simp only [run0, run1, run2, run3, run4, run5, run6, run7, run8, run9, run10, run11, run12, run13, run14, run15, run16, run17, run18, run19, run20, run21, run22, reduceCtorEq, Nat.reduceEqDiff, Nat.reduceAdd, Nat.reduceSub, Nat.reduceLeDiff, indexAddrA, indexRefA, appendA, strA, Nat.reduceMul, Nat.zero_mul, Nat.reduceMod, Int.reduceEq, Int.reduceLT, Int.reduceLE, Nat.reduceLT, Nat.lt_irrefl, Nat.reduceBEq, tys0, tys1, tys2, tys3, tys4, tys5, tys6, tys7, tys8, tys9, tys10, tys11, tys12, tys13, tys14, tys15, tys16, tys17, tys18, tys19, tys20, tys21, tys22, tys23, Try.ntmps34, Try.results34, frE, List.getElem?_append_right, Nat.sub_self]
        exact Fin.eq (by simp [cutR, g1, g2, ho, hb, frE]) rfl
    case false =>
      have k2 := isE_length m2
      have b1 : cutM l < l.length := bestI_lt _ _ _ _ _ (by omega) (by omega)
      have b2 : cutL r < r.length := bestI_lt _ _ _ _ _ (by omega) (by omega)
      have c1 := frs_at b1
      have c2 := frs_at b2
      have b3 : (cutM l : Int) < (l.length : Int) := by omega
      have b4 : (cutL r : Int) < (r.length : Int) := by omega
      have hc := cmpP_ok (l.getD (cutM l) (0, 1)) (r.getD (cutL r) (0, 1))
      rw [← cmpPQ (goodF_at g1 b1) (goodF_at g2 b2)] at hc
      simp only [fr] at hc
      simp only [run0, run1, run2, run3, run4, run5, run6, run7, run8, run9, run10, run11, run12, run13, run14, run15, run16, run17, run18, run19, run20, run21, run22, reduceCtorEq, Nat.reduceEqDiff, Nat.reduceAdd, Nat.reduceSub, Nat.reduceLeDiff, indexAddrA, indexRefA, appendA, strA, Nat.reduceMul, Nat.zero_mul, Nat.reduceMod, Int.reduceEq, Int.reduceLT, Int.reduceLE, Nat.reduceLT, Nat.lt_irrefl, Nat.reduceBEq, tys0, tys1, tys2, tys3, tys4, tys5, tys6, tys7, tys8, tys9, tys10, tys11, tys12, tys13, tys14, tys15, tys16, tys17, tys18, tys19, tys20, tys21, tys22, tys23, Try.ntmps34, Try.results34, List.length_map, e1, k1, k2, c1, c2, b3, b4, Int.toNat_natCast, Int.natCast_nonneg]
      refine ⟨by kernel_rfl, ?_⟩
      refine RunL.callp rfl rfl ok_f82 (hc) (by first | rfl | simp only [pureL, pureB, Bool.and_self, Bool.and_true, Bool.true_and]) rfl ?_
      by_cases ho : 0 ≤ cmpQ (l.getD (cutM l) (0, 1)) (r.getD (cutL r) (0, 1))
      · have ho2 : overB l r = true := by simp only [overB, m1, m2, ho]; rfl
        simp only [run0, run1, run2, run3, run4, run5, run6, run7, run8, run9, run10, run11, run12, run13, run14, run15, run16, run17, run18, run19, run20, run21, run22, reduceCtorEq, Nat.reduceEqDiff, Nat.reduceAdd, Nat.reduceSub, Nat.reduceLeDiff, indexAddrA, indexRefA, appendA, strA, Nat.reduceMul, Nat.zero_mul, Nat.reduceMod, Int.reduceEq, Int.reduceLT, Int.reduceLE, Nat.reduceLT, Nat.lt_irrefl, Nat.reduceBEq, tys0, tys1, tys2, tys3, tys4, tys5, tys6, tys7, tys8, tys9, tys10, tys11, tys12, tys13, tys14, tys15, tys16, tys17, tys18, tys19, tys20, tys21, tys22, tys23, Try.ntmps34, Try.results34, ho]
        refine RunL.callp rfl rfl ok_f83 (whole_ok 0) (by first | rfl | simp only [pureL, pureB, Bool.and_self, Bool.and_true, Bool.true_and]) rfl ?_
        simp only [run0, run1, run2, run3, run4, run5, run6, run7, run8, run9, run10, run11, run12, run13, run14, run15, run16, run17, run18, run19, run20, run21, run22, reduceCtorEq, Nat.reduceEqDiff, Nat.reduceAdd, Nat.reduceSub, Nat.reduceLeDiff, indexAddrA, indexRefA, appendA, strA, Nat.reduceMul, Nat.zero_mul, Nat.reduceMod, Int.reduceEq, Int.reduceLT, Int.reduceLE, Nat.reduceLT, Nat.lt_irrefl, Nat.reduceBEq, tys0, tys1, tys2, tys3, tys4, tys5, tys6, tys7, tys8, tys9, tys10, tys11, tys12, tys13, tys14, tys15, tys16, tys17, tys18, tys19, tys20, tys21, tys22, tys23, Try.ntmps34, Try.results34, frE]
        exact Fin.eq (by simp [cutR, g1, g2, ho2, frE]) rfl
      · have ho2 : overB l r = false := by simp only [overB, m1, m2, ho]; rfl
        simp only [run0, run1, run2, run3, run4, run5, run6, run7, run8, run9, run10, run11, run12, run13, run14, run15, run16, run17, run18, run19, run20, run21, run22, reduceCtorEq, Nat.reduceEqDiff, Nat.reduceAdd, Nat.reduceSub, Nat.reduceLeDiff, indexAddrA, indexRefA, appendA, strA, Nat.reduceMul, Nat.zero_mul, Nat.reduceMod, Int.reduceEq, Int.reduceLT, Int.reduceLE, Nat.reduceLT, Nat.lt_irrefl, Nat.reduceBEq, tys0, tys1, tys2, tys3, tys4, tys5, tys6, tys7, tys8, tys9, tys10, tys11, tys12, tys13, tys14, tys15, tys16, tys17, tys18, tys19, tys20, tys21, tys22, tys23, Try.ntmps34, Try.results34, ho]
        refine RunL.callp rfl rfl ok_f84 hss (by simp only [pureL, pureB, pl, pr, Bool.and_self]) rfl ?_
        rw [hk]
        cases hb : cutBad l r
        · simp only [run0, run1, run2, run3, run4, run5, run6, run7, run8, run9, run10, run11, run12, run13, run14, run15, run16, run17, run18, run19, run20, run21, run22, reduceCtorEq, Nat.reduceEqDiff, Nat.reduceAdd, Nat.reduceSub, Nat.reduceLeDiff, indexAddrA, indexRefA, appendA, strA, Nat.reduceMul, Nat.zero_mul, Nat.reduceMod, Int.reduceEq, Int.reduceLT, Int.reduceLE, Nat.reduceLT, Nat.lt_irrefl, Nat.reduceBEq, tys0, tys1, tys2, tys3, tys4, tys5, tys6, tys7, tys8, tys9, tys10, tys11, tys12, tys13, tys14, tys15, tys16, tys17, tys18, tys19, tys20, tys21, tys22, tys23, Try.ntmps34, Try.results34, frE, List.getElem?_append_right, Nat.sub_self]
          exact Fin.eq (by simp [cutR, g1, g2, ho2, hb, frE]) rfl
        · simp only [run0, run1, run2, run3, run4, run5, run6, run7, run8, run9, run10, run11, run12, run13, run14, run15, run16, run17, run18, run19, run20, run21, run22, reduceCtorEq, Nat.reduceEqDiff, Nat.reduceAdd, Nat.reduceSub, Nat.reduceLeDiff, indexAddrA, indexRefA, appendA, strA, Nat.reduceMul, Nat.zero_mul, Nat.reduceMod, Int.reduceEq, Int.reduceLT, Int.reduceLE, Nat.reduceLT, Nat.lt_irrefl, Nat.reduceBEq, tys0, tys1, tys2, tys3, tys4, tys5, tys6, tys7, tys8, tys9, tys10, tys11, tys12, tys13, tys14, tys15, tys16, tys17, tys18, tys19, tys20, tys21, tys22, tys23, Try.ntmps34, Try.results34, frE, List.getElem?_append_right, Nat.sub_self]
          exact Fin.eq (by simp [cutR, g1, g2, ho2, hb, frE]) rfl

end Go.Proofs.Ytllcljajlemmaaa
/-
  Games that are numbers: the simplest number between, and the order of the positions.
-/
namespace Go.Proofs.Ytllcljajlemmaaa
open Go K
set_option linter.unusedSimpArgs false
set_option linter.unusedVariables false
set_option maxHeartbeats 1600000
set_option maxRecDepth 8000

def valF (l r : List Fr) : Fr := (frN (cutX l r), frD (cutX l r))
theorem leB_lt {x y : Int} {a : Fr} (hx : x.natAbs ≤ 50000000) (hy : y.natAbs ≤ 50000000) (ha : FB a) (h1 : leB x a = true) (h2 : leB y a = false) : x < y := by
  have k1 := (leB_iff hx ha).1 h1
  have k2 : ¬ (y * a.2 ≤ a.1 * 1048576) := fun h => by rw [(leB_iff hy ha).2 h] at h2; cases h2
  exact Int.lt_of_mul_lt_mul_right (a := a.2) (by omega) (by have := ha.1; omega)
theorem geB_lt {x y : Int} {a : Fr} (hx : x.natAbs ≤ 50000000) (hy : y.natAbs ≤ 50000000) (ha : FB a) (h1 : geB x a = true) (h2 : geB y a = false) : y < x := by
  have k1 := (geB_iff hx ha).1 h1
  have k2 : ¬ (a.1 * 1048576 ≤ y * a.2) := fun h => by rw [(geB_iff hy ha).2 h] at h2; cases h2
  exact Int.lt_of_mul_lt_mul_right (a := a.2) (by omega) (by have := ha.1; omega)
theorem any_off {α : Type} {p : α → Bool} {l : List α} (h : l.any p = false) {a : α} (ha : a ∈ l) : p a = false := by
  cases hp : p a with
  | false => rfl
  | true => rw [List.any_eq_true.2 ⟨a, ha, hp⟩] at h; cases h
theorem up_lt {l : List Fr} (hl : ∀ a ∈ l, FB a) {x y : Int} (hx : x.natAbs ≤ 50000000) (hy : y.natAbs ≤ 50000000) (h1 : l.any (leB x) = true) (h2 : l.any (leB y) = false) : x < y := by
  obtain ⟨a, ha, k⟩ := List.any_eq_true.1 h1
  exact leB_lt hx hy (hl a ha) k (any_off h2 ha)
theorem down_lt {l : List Fr} (hl : ∀ a ∈ l, FB a) {x y : Int} (hx : x.natAbs ≤ 50000000) (hy : y.natAbs ≤ 50000000) (h1 : l.any (geB x) = true) (h2 : l.any (geB y) = false) : y < x := by
  obtain ⟨a, ha, k⟩ := List.any_eq_true.1 h1
  exact geB_lt hx hy (hl a ha) k (any_off h2 ha)
theorem bad_off {l r : List Fr} (h : cutBad l r = false) : l.any (leB (cutX l r)) = false ∧ r.any (geB (cutX l r)) = false := by
  simpa [cutBad] using h
/-- Two walks to simplest numbers, each of them in the other's gap, end at one number. -/
theorem walk_same {l r l' r' : List Fr} (hl : ∀ a ∈ l, FB a) (hr : ∀ a ∈ r, FB a) (hl' : ∀ a ∈ l', FB a) (hr' : ∀ a ∈ r', FB a)
    (hb : cutBad l r = false) (hb' : cutBad l' r' = false) (c1 : l.any (leB (cutX l' r')) = false) (c2 : r.any (geB (cutX l' r')) = false)
    (c3 : l'.any (leB (cutX l r)) = false) (c4 : r'.any (geB (cutX l r)) = false) :
    ∀ (k : Nat) (p : SiS), p.n + k = 20 → SiI l r p → SiI l' r' p → cutX l r = cutX l' r'
  | k, p, hk, h, h' => by
    have hn : p.n ≤ 20 := by omega
    have sx := h.small hn
    have s1 := (cut_small l r).1
    have s2 := (cut_small l' r').1
    obtain ⟨b1, b2⟩ := bad_off hb
    obtain ⟨b3, b4⟩ := bad_off hb'
    cases u : l.any (leB p.i.x)
    · cases d : r.any (geB p.i.x)
      · have hx := h.stop hn (.inl (by simp [cutS, u, d]))
        cases u' : l'.any (leB p.i.x)
        · cases d' : r'.any (geB p.i.x)
          · rw [hx, h'.stop hn (.inl (by simp [cutS, u', d']))]
          · have := down_lt hr' sx s1 d' c4
            omega
        · have := up_lt hl' sx s1 u' c3
          omega
      · have q1 := down_lt hr sx s1 d b2
        have q2 := down_lt hr sx s2 d c2
        cases u' : l'.any (leB p.i.x)
        · cases d' : r'.any (geB p.i.x)
          · have := h'.stop hn (.inl (by simp [cutS, u', d']))
            omega
          · rcases (h.down hn u d p.X).2 with ⟨_, e⟩ | ⟨e, f⟩
            · rw [hb] at e; cases e
            rcases (h'.down hn u' d' p.X).2 with ⟨_, e'⟩ | ⟨e', f'⟩
            · rw [hb'] at e'; cases e'
            cases k with
            | zero => omega
            | succ k => exact walk_same hl hr hl' hr' hb hb' c1 c2 c3 c4 k _ (by show p.n + 1 + k = 20; omega) f f'
        · have := up_lt hl' sx s1 u' c3
          omega
    · have q1 := up_lt hl sx s1 u b1
      have q2 := up_lt hl sx s2 u c1
      cases u' : l'.any (leB p.i.x)
      · cases d' : r'.any (geB p.i.x)
        · have := h'.stop hn (.inl (by simp [cutS, u', d']))
          omega
        · have := down_lt hr' sx s1 d' c4
          omega
      · rcases (h.up hn u p.X).2 with ⟨_, e⟩ | ⟨e, f⟩
        · rw [hb] at e; cases e
        rcases (h'.up hn u' p.X).2 with ⟨_, e'⟩ | ⟨e', f'⟩
        · rw [hb'] at e'; cases e'
        cases k with
        | zero => omega
        | succ k => exact walk_same hl hr hl' hr' hb hb' c1 c2 c3 c4 k _ (by show p.n + 1 + k = 20; omega) f f'
theorem walk_end {l r : List Fr} (hb : cutBad l r = false) : ∀ (k : Nat) (p : SiS), p.n + k = 20 → SiI l r p → ∃ q, SiI l r q ∧ q.n ≤ 20 ∧ cutX l r = q.i.x
  | k, p, hk, h => by
    have hn : p.n ≤ 20 := by omega
    cases u : l.any (leB p.i.x)
    · cases d : r.any (geB p.i.x)
      · exact ⟨p, h, hn, h.stop hn (.inl (by simp [cutS, u, d]))⟩
      · rcases (h.down hn u d p.X).2 with ⟨_, e⟩ | ⟨e, f⟩
        · rw [hb] at e; cases e
        cases k with
        | zero => omega
        | succ k => exact walk_end hb k _ (by show p.n + 1 + k = 20; omega) f
    · rcases (h.up hn u p.X).2 with ⟨_, e⟩ | ⟨e, f⟩
      · rw [hb] at e; cases e
      cases k with
      | zero => omega
      | succ k => exact walk_end hb k _ (by show p.n + 1 + k = 20; omega) f
theorem le_scale {g p q a1 a2 : Int} (hg : 0 < g) : (g * p) * a2 ≤ a1 * (g * q) ↔ p * a2 ≤ a1 * q := by
  rw [Int.mul_assoc, Int.mul_left_comm a1 g q]
  exact ⟨fun h => Int.le_of_mul_le_mul_left h hg, fun h => Int.mul_le_mul_of_nonneg_left h (by omega)⟩
theorem ge_scale {g p q a1 a2 : Int} (hg : 0 < g) : a1 * (g * q) ≤ (g * p) * a2 ↔ a1 * q ≤ p * a2 := by
  rw [Int.mul_assoc, Int.mul_left_comm a1 g q]
  exact ⟨fun h => Int.le_of_mul_le_mul_left h hg, fun h => Int.mul_le_mul_of_nonneg_left h (by omega)⟩
theorem valF_spec {l r : List Fr} (hb : cutBad l r = false) : FB (valF l r) ∧ (∀ a, FB a → (leB (cutX l r) a = true ↔ leQ (valF l r) a)) ∧ (∀ a, FB a → (geB (cutX l r) a = true ↔ leQ a (valF l r))) := by
  obtain ⟨q, h, hn, hx⟩ := walk_end hb 20 _ rfl (SiI.start l r)
  have s1 := (cut_small l r).1
  have hok := h.wj.ok (by rw [h.size]; exact hn)
  have hat := h.rl.at_
  rw [← hx] at hok hat
  obtain ⟨g, g0, g1, g2, g3, g4, g5⟩ := hat.spec (by omega)
  have hv : valF l r = (q.s.an, q.s.ad) := by
    unfold valF frN frD
    rw [if_pos hok, if_pos hok, ← hat.1, ← hat.2]
  have hgd : goodB q.s.an q.s.ad = true := by
    rw [hat.1, hat.2]; exact hok
  rw [hv]
  refine ⟨good_range hgd, fun a ha => ?_, fun a ha => ?_⟩
  · rw [leB_iff s1 ha]
    unfold leQ
    rw [g1, g2]
    exact le_scale g0
  · rw [geB_iff s1 ha]
    unfold leQ
    rw [g1, g2]
    exact ge_scale g0
theorem valF_in {l r : List Fr} (hl : ∀ a ∈ l, FB a) (hr : ∀ a ∈ r, FB a) (hb : cutBad l r = false) : (∀ a ∈ l, ¬ leQ (valF l r) a) ∧ ∀ a ∈ r, ¬ leQ a (valF l r) := by
  obtain ⟨_, h1, h2⟩ := valF_spec hb
  obtain ⟨b1, b2⟩ := bad_off hb
  exact ⟨fun a ha h => (by rw [← h1 a (hl a ha), any_off b1 ha] at h; cases h), fun a ha h => (by rw [← h2 a (hr a ha), any_off b2 ha] at h; cases h)⟩
theorem any_on {α : Type} {p : α → Bool} {l : List α} (h : ∀ a ∈ l, p a = false) : l.any p = false := by
  cases hp : l.any p with
  | false => rfl
  | true =>
    obtain ⟨a, ha, k⟩ := List.any_eq_true.1 hp
    rw [h a ha] at k; cases k
theorem valF_same {l r l' r' : List Fr} (hl : ∀ a ∈ l, FB a) (hr : ∀ a ∈ r, FB a) (hl' : ∀ a ∈ l', FB a) (hr' : ∀ a ∈ r', FB a)
    (hb : cutBad l r = false) (hb' : cutBad l' r' = false) (c1 : ∀ a ∈ l, ¬ leQ (valF l' r') a) (c2 : ∀ a ∈ r, ¬ leQ a (valF l' r'))
    (c3 : ∀ a ∈ l', ¬ leQ (valF l r) a) (c4 : ∀ a ∈ r', ¬ leQ a (valF l r)) : valF l r = valF l' r' := by
  obtain ⟨_, h1, h2⟩ := valF_spec hb
  obtain ⟨_, h3, h4⟩ := valF_spec hb'
  have := walk_same hl hr hl' hr' hb hb' (any_on fun a ha => by
      have := c1 a ha; rw [← h3 a (hl a ha)] at this; simpa using this) (any_on fun a ha => by
      have := c2 a ha; rw [← h4 a (hr a ha)] at this; simpa using this) (any_on fun a ha => by
      have := c3 a ha; rw [← h1 a (hl' a ha)] at this; simpa using this) (any_on fun a ha => by
      have := c4 a ha; rw [← h2 a (hr' a ha)] at this; simpa using this) 20 ⟨0, wk0, sw0, []⟩ rfl (SiI.start l r) (SiI.start l' r')
  unfold valF
  rw [this]

end Go.Proofs.Ytllcljajlemmaaa
/-
  Games that are numbers: what positions are worth, told in two ways.
-/
namespace Go.Proofs.Ytllcljajlemmaaa
open Go K
set_option linter.unusedSimpArgs false
set_option linter.unusedVariables false
set_option maxHeartbeats 1600000
set_option maxRecDepth 8000

structure Wt where
  num : Bool
  told : Bool
  val : Fr
def wt0 : Wt := ⟨false, false, (0, 0)⟩
def wAt (ws : List Wt) (x : Int) : Wt := ws.getD x.toNat wt0
def vals (ws : List Wt) (l : List Int) : List Fr := l.map fun x => (wAt ws x).val
def apartB (l r : List Fr) : Bool := l.all fun x => r.all fun y => decide (cmpQ x y < 0)
def wS (p : GP) (ws : List Wt) : Wt :=
  if (p.1 ++ p.2).all fun x => (wAt ws x).told then
    if ((p.1 ++ p.2).all fun x => (wAt ws x).num) && apartB (vals ws p.1) (vals ws p.2) then
      if cutBad (vals ws p.1) (vals ws p.2) then wt0 else ⟨true, true, valF (vals ws p.1) (vals ws p.2)⟩
    else ⟨false, true, (0, 0)⟩
  else wt0
def wsG (g : List GP) : Nat → List Wt
  | 0 => []
  | n + 1 => wsG g n ++ [wS (g.getD n ([], [])) (wsG g n)]
def wG (g : List GP) (i : Nat) : Wt := wS (g.getD i ([], [])) (wsG g i)
theorem wsG_len (g : List GP) : ∀ n, (wsG g n).length = n
  | 0 => rfl
  | n + 1 => by simp [wsG, wsG_len g n]
theorem wsG_get (g : List GP) : ∀ (n i : Nat), i < n → (wsG g n)[i]? = some (wG g i)
  | n + 1, i, h => by
    unfold wsG
    by_cases e : i = n
    · subst e
      rw [List.getElem?_append_right (by rw [wsG_len]; exact Nat.le_refl _), wsG_len, Nat.sub_self]; rfl
    · rw [List.getElem?_append_left (by rw [wsG_len]; omega)]
      exact wsG_get g n i (by omega)
theorem wAt_wsG (g : List GP) {n : Nat} {x : Int} (h0 : 0 ≤ x) (h : x < n) : wAt (wsG g n) x = wG g x.toNat := by
  unfold wAt
  rw [List.getD_eq_getElem?_getD, wsG_get g n x.toNat (by omega)]; rfl
theorem vals_wsG (g : List GP) {n : Nat} {l : List Int} (h : ∀ x ∈ l, 0 ≤ x ∧ x < (n : Int)) : vals (wsG g n) l = l.map fun x => (wG g x.toNat).val :=
  List.map_congr_left fun x hx => by rw [wAt_wsG g (h x hx).1 (h x hx).2]
abbrev lv (g : List GP) (i : Nat) : List Fr := (lefts g i).map fun x => (wG g x.toNat).val
abbrev rv (g : List GP) (i : Nat) : List Fr := (rights g i).map fun x => (wG g x.toNat).val
theorem wG_eq (g : List GP) (i : Nat) : wG g i = if ((lefts g i ++ rights g i).all fun x => (wAt (wsG g i) x).told) = true then (if (((lefts g i ++ rights g i).all fun x => (wAt (wsG g i) x).num) && apartB (vals (wsG g i) (lefts g i)) (vals (wsG g i) (rights g i))) = true then (if cutBad (vals (wsG g i) (lefts g i)) (vals (wsG g i) (rights g i)) = true then wt0 else ⟨true, true, valF (vals (wsG g i) (lefts g i)) (vals (wsG g i) (rights g i))⟩) else ⟨false, true, (0, 0)⟩) else wt0 := rfl
theorem num_facts {g : List GP} (hg : GameOk g) {i : Nat} (h : (wG g i).num = true) :
    (∀ x ∈ lefts g i, (wG g x.toNat).num = true) ∧ (∀ x ∈ rights g i, (wG g x.toNat).num = true) ∧ cutBad (lv g i) (rv g i) = false ∧ (wG g i).val = valF (lv g i) (rv g i) := by
  have hL : vals (wsG g i) (lefts g i) = lv g i := vals_wsG g fun x hx => lefts_lt hg hx
  have hR : vals (wsG g i) (rights g i) = rv g i := vals_wsG g fun x hx => rights_lt hg hx
  rw [wG_eq] at h ⊢
  rw [hL, hR] at h ⊢
  split at h
  · rename_i h1
    split at h
    · rename_i h2
      split at h
      · cases h
      · rename_i h3
        rw [if_pos h1, if_pos h2, if_neg h3]
        simp only [Bool.and_eq_true, List.all_eq_true, List.mem_append] at h2
        refine ⟨fun x hx => ?_, fun x hx => ?_, by simpa using h3, rfl⟩
        · have := h2.1 x (.inl hx)
          rwa [wAt_wsG g (lefts_lt hg hx).1 (lefts_lt hg hx).2] at this
        · have := h2.1 x (.inr hx)
          rwa [wAt_wsG g (rights_lt hg hx).1 (rights_lt hg hx).2] at this
    · cases h
  · cases h
theorem num_FB {g : List GP} (hg : GameOk g) : ∀ (s i : Nat), i < s → (wG g i).num = true → FB (wG g i).val
  | s + 1, i, hs, h => by
    obtain ⟨h1, h2, h3, h4⟩ := num_facts hg h
    rw [h4]
    exact (valF_spec h3).1
theorem num_in {g : List GP} (hg : GameOk g) {i : Nat} (h : (wG g i).num = true) : (∀ a ∈ lv g i, FB a) ∧ (∀ a ∈ rv g i, FB a) ∧ (∀ a ∈ lv g i, ¬ leQ (wG g i).val a) ∧ ∀ a ∈ rv g i, ¬ leQ a (wG g i).val := by
  obtain ⟨h1, h2, h3, h4⟩ := num_facts hg h
  have k1 : ∀ a ∈ lv g i, FB a := fun a ha => by
    obtain ⟨x, hx, rfl⟩ := List.mem_map.1 ha
    exact num_FB hg _ _ (Nat.lt_succ_self _) (h1 x hx)
  have k2 : ∀ a ∈ rv g i, FB a := fun a ha => by
    obtain ⟨x, hx, rfl⟩ := List.mem_map.1 ha
    exact num_FB hg _ _ (Nat.lt_succ_self _) (h2 x hx)
  rw [h4]
  exact ⟨k1, k2, valF_in k1 k2 h3⟩
theorem leQ_refl (a : Fr) : leQ a a := Int.le_refl _
theorem num_order {g : List GP} (hg : GameOk g) : ∀ (s a b : Nat), a + b < s → (wG g a).num = true → (wG g b).num = true → (leG g a b = true ↔ leQ (wG g a).val (wG g b).val)
  | s + 1, a, b, hs, ha, hb => by
    obtain ⟨a1, a2, a3, a4⟩ := num_facts hg ha
    obtain ⟨b1, b2, b3, b4⟩ := num_facts hg hb
    obtain ⟨a5, a6, a7, a8⟩ := num_in hg ha
    obtain ⟨b5, b6, b7, b8⟩ := num_in hg hb
    have fa := num_FB hg _ _ (Nat.lt_succ_self _) ha
    have fb := num_FB hg _ _ (Nat.lt_succ_self _) hb
    have ihL : ∀ x ∈ lefts g a, (leG g b x.toNat = true ↔ leQ (wG g b).val (wG g x.toNat).val) := fun x hx =>
      num_order hg s b x.toNat (by have := lefts_lt hg hx; omega) hb (a1 x hx)
    have ihR : ∀ y ∈ rights g b, (leG g y.toNat a = true ↔ leQ (wG g y.toNat).val (wG g a).val) := fun y hy =>
      num_order hg s y.toNat a (by have := rights_lt hg hy; omega) (b2 y hy) ha
    rw [leG_eq hg]
    simp only [Bool.and_eq_true, List.all_eq_true, Bool.not_eq_true']
    constructor
    · rintro ⟨hL, hR⟩
      rcases leQ_total (wG g a).val (wG g b).val with h | h
      · exact h
      have e : (wG g a).val = (wG g b).val := by
        have e := valF_same a5 a6 b5 b6 a3 b3 (fun z hz => by
          obtain ⟨x, hx, rfl⟩ := List.mem_map.1 hz
          rw [← b4, ← ihL x hx, hL x hx]; simp) (fun z hz q => by
          rw [← b4] at q
          exact a8 z hz (leQ_trans (a6 z hz) fb fa q h)) (fun z hz q => by
          rw [← a4] at q
          exact b7 z hz (leQ_trans fb fa (b5 z hz) h q)) (fun z hz => by
          obtain ⟨y, hy, rfl⟩ := List.mem_map.1 hz
          rw [← a4, ← ihR y hy, hR y hy]; simp)
        rw [a4, b4]; exact e
      rw [e]; exact leQ_refl _
    · intro h
      refine ⟨fun x hx => ?_, fun y hy => ?_⟩
      · cases q : leG g b x.toNat with
        | false => rfl
        | true =>
          have k := (ihL x hx).1 q
          have hz : (wG g x.toNat).val ∈ lv g a := List.mem_map.2 ⟨x, hx, rfl⟩
          exact absurd (leQ_trans fa fb (a5 _ hz) h k) (a7 _ hz)
      · cases q : leG g y.toNat a with
        | false => rfl
        | true =>
          have k := (ihR y hy).1 q
          have hz : (wG g y.toNat).val ∈ rv g b := List.mem_map.2 ⟨y, hy, rfl⟩
          exact absurd (leQ_trans (b6 _ hz) fa fb k h) (b8 _ hz)

/-! ### the program's way -/
structure Wo where
  num : Bool
  lost : Bool
  val : Fr
def wo0 : Wo := ⟨false, false, (0, 0)⟩
def iAt (ws : List Wo) (x : Int) : Wo := ws.getD x.toNat wo0
def ivals (ws : List Wo) (l : List Int) : List Fr := l.map fun x => (iAt ws x).val
def pairB (g : List GP) (l r : List Int) : Bool := l.all fun x => r.all fun y => !leG g y.toNat x.toNat
def iNum (g : List GP) (p : GP) (ws : List Wo) : Bool := ((p.1 ++ p.2).all fun x => (iAt ws x).num) && pairB g p.1 p.2
def iLost (p : GP) (ws : List Wo) : Bool := (p.1 ++ p.2).any fun x => (iAt ws x).lost
def simV (l r : List Fr) : Fr := if cutBad l r then (0, 0) else valF l r
def wI (g : List GP) (p : GP) (ws : List Wo) : Wo :=
  if iNum g p ws && !iLost p ws then ⟨true, cutBad (ivals ws p.1) (ivals ws p.2), simV (ivals ws p.1) (ivals ws p.2)⟩ else ⟨iNum g p ws, iLost p ws, (0, 0)⟩
def wiG (g : List GP) : Nat → List Wo
  | 0 => []
  | n + 1 => wiG g n ++ [wI g (g.getD n ([], [])) (wiG g n)]
def Rw (t : Wt) (i : Wo) : Prop := i.lost = !t.told ∧ (t.num = true → t.told = true) ∧ (t.told = true → i.num = t.num ∧ (t.num = true → i.val = t.val))
theorem wiG_len (g : List GP) : ∀ n, (wiG g n).length = n
  | 0 => rfl
  | n + 1 => by simp [wiG, wiG_len g n]
def iG (g : List GP) (i : Nat) : Wo := wI g (g.getD i ([], [])) (wiG g i)
theorem wiG_get (g : List GP) : ∀ (n i : Nat), i < n → (wiG g n)[i]? = some (iG g i)
  | n + 1, i, h => by
    unfold wiG
    by_cases e : i = n
    · subst e
      rw [List.getElem?_append_right (by rw [wiG_len]; exact Nat.le_refl _), wiG_len, Nat.sub_self]; rfl
    · rw [List.getElem?_append_left (by rw [wiG_len]; omega)]
      exact wiG_get g n i (by omega)
theorem iAt_wiG (g : List GP) {n : Nat} {x : Int} (h0 : 0 ≤ x) (h : x < n) : iAt (wiG g n) x = iG g x.toNat := by
  unfold iAt
  rw [List.getD_eq_getElem?_getD, wiG_get g n x.toNat (by omega)]; rfl
theorem all_same {α : Type} {l : List α} {p q : α → Bool} (h : ∀ x ∈ l, p x = q x) : l.all p = l.all q := by
  induction l with
  | nil => rfl
  | cons a r ih => simp only [List.all_cons, h a (by simp), ih fun x hx => h x (by simp [hx])]
theorem any_not {α : Type} {l : List α} {p q : α → Bool} (h : ∀ x ∈ l, p x = !q x) : l.any p = !l.all q := by
  induction l with
  | nil => rfl
  | cons a r ih => simp only [List.any_cons, List.all_cons, h a (by simp), ih fun x hx => h x (by simp [hx]), Bool.not_and]
theorem worth_same {g : List GP} (hg : GameOk g) : ∀ (s i : Nat), i < s → Rw (wG g i) (iG g i)
  | s + 1, i, hs => by
    have hp : ∀ x ∈ lefts g i ++ rights g i, 0 ≤ x ∧ x < (i : Int) := fun x hx => by
      rcases List.mem_append.1 hx with h | h
      · exact lefts_lt hg h
      · exact rights_lt hg h
    have ih : ∀ x ∈ lefts g i ++ rights g i, Rw (wAt (wsG g i) x) (iAt (wiG g i) x) := fun x hx => by
      rw [wAt_wsG g (hp x hx).1 (hp x hx).2, iAt_wiG g (hp x hx).1 (hp x hx).2]
      exact worth_same hg s x.toNat (by have := hp x hx; omega)
    have hlost : iLost (g.getD i ([], [])) (wiG g i) = !((lefts g i ++ rights g i).all fun x => (wAt (wsG g i) x).told) := any_not fun x hx => (ih x hx).1
    have hW := wG_eq g i
    have hI : iG g i = if (iNum g (g.getD i ([], [])) (wiG g i) && !iLost (g.getD i ([], [])) (wiG g i)) = true then (⟨true, cutBad (ivals (wiG g i) (lefts g i)) (ivals (wiG g i) (rights g i)), simV (ivals (wiG g i) (lefts g i)) (ivals (wiG g i) (rights g i))⟩ : Wo) else ⟨iNum g (g.getD i ([], [])) (wiG g i), iLost (g.getD i ([], [])) (wiG g i), (0, 0)⟩ := rfl
    rw [hlost] at hI
    cases ht : (lefts g i ++ rights g i).all fun x => (wAt (wsG g i) x).told
    · rw [ht, if_neg (by simp)] at hW
      rw [ht, if_neg (by simp)] at hI
      rw [hW, hI]
      exact ⟨rfl, fun h => (by cases h), fun h => (by cases h)⟩
    rw [ht, if_pos rfl] at hW
    have told : ∀ x ∈ lefts g i ++ rights g i, (wAt (wsG g i) x).told = true := List.all_eq_true.1 ht
    have hnum : iNum g (g.getD i ([], [])) (wiG g i) = (((lefts g i ++ rights g i).all fun x => (wAt (wsG g i) x).num) && pairB g (lefts g i) (rights g i)) := by
      have e : ((lefts g i ++ rights g i).all fun x => (iAt (wiG g i) x).num) = ((lefts g i ++ rights g i).all fun x => (wAt (wsG g i) x).num) := all_same fun x hx => ((ih x hx).2.2 (told x hx)).1
      rw [← e]; rfl
    rw [hnum, ht] at hI
    simp only [Bool.not_true, Bool.not_false, Bool.and_true] at hI
    cases hn : (lefts g i ++ rights g i).all fun x => (wAt (wsG g i) x).num
    · rw [hn, Bool.false_and, if_neg (by simp)] at hW hI
      rw [hW, hI]
      exact ⟨rfl, fun _ => rfl, fun _ => ⟨rfl, fun h => (by cases h)⟩⟩
    have nums : ∀ x ∈ lefts g i ++ rights g i, (wAt (wsG g i) x).num = true := List.all_eq_true.1 hn
    have hN : ∀ x ∈ lefts g i ++ rights g i, (wG g x.toNat).num = true := fun x hx => by
      have := nums x hx
      rwa [wAt_wsG g (hp x hx).1 (hp x hx).2] at this
    have hVL : ivals (wiG g i) (lefts g i) = vals (wsG g i) (lefts g i) := List.map_congr_left fun x hx => ((ih x (by simp [hx])).2.2 (told x (by simp [hx]))).2 (nums x (by simp [hx]))
    have hVR : ivals (wiG g i) (rights g i) = vals (wsG g i) (rights g i) := List.map_congr_left fun x hx => ((ih x (by simp [hx])).2.2 (told x (by simp [hx]))).2 (nums x (by simp [hx]))
    have hap : apartB (vals (wsG g i) (lefts g i)) (vals (wsG g i) (rights g i)) = pairB g (lefts g i) (rights g i) := by
      unfold apartB pairB vals
      rw [List.all_map]
      refine all_same fun x hx => ?_
      simp only [Function.comp_def, List.all_map]
      refine all_same fun y hy => ?_
      have x1 := lefts_lt hg hx
      have y1 := rights_lt hg hy
      simp only [wAt_wsG g x1.1 x1.2, wAt_wsG g y1.1 y1.2]
      have n1 := hN x (by simp [hx])
      have n2 := hN y (by simp [hy])
      have k := num_order hg _ y.toNat x.toNat (Nat.lt_succ_self _) n2 n1
      have c := cmpQ_neg (num_FB hg _ _ (Nat.lt_succ_self _) n1) (num_FB hg _ _ (Nat.lt_succ_self _) n2)
      cases q : leG g y.toNat x.toNat
      · simp only [Bool.not_false, decide_eq_true_eq]
        rw [c, ← k, q]; simp
      · simp only [Bool.not_true, decide_eq_false_iff_not]
        rw [c, ← k, q]; simp
    rw [hn, hap, Bool.true_and] at hW
    rw [hn, Bool.true_and, hVL, hVR] at hI
    cases hpair : pairB g (lefts g i) (rights g i)
    · rw [hpair, if_neg (by simp)] at hW hI
      rw [hW, hI]
      exact ⟨rfl, fun _ => rfl, fun _ => ⟨rfl, fun h => (by cases h)⟩⟩
    rw [hpair, if_pos rfl] at hW hI
    unfold simV at hI
    cases hb : cutBad (vals (wsG g i) (lefts g i)) (vals (wsG g i) (rights g i))
    · rw [hb, if_neg (by simp)] at hW hI
      rw [hW, hI]
      exact ⟨rfl, fun _ => rfl, fun _ => ⟨rfl, fun _ => rfl⟩⟩
    · rw [hb, if_pos rfl] at hW hI
      rw [hW, hI]
      exact ⟨rfl, fun h => (by cases h), fun h => (by cases h)⟩
/-- Positions behind one do not matter. -/
theorem wsG_take (g : List GP) (m : Nat) : ∀ n, n ≤ m → wsG (g.take m) n = wsG g n
  | 0, _ => rfl
  | n + 1, h => by
    have e : (g.take m).getD n ([], []) = g.getD n ([], []) := by
      rw [List.getD_eq_getElem?_getD, List.getD_eq_getElem?_getD, List.getElem?_take, if_pos (by omega)]
    unfold wsG
    rw [wsG_take g m n (by omega), e]
theorem GameOk.take {g : List GP} (hg : GameOk g) (m : Nat) : GameOk (g.take m) := fun i p hp => by
  rw [List.getElem?_take] at hp
  split at hp
  · exact hg i p hp
  · cases hp

end Go.Proofs.Ytllcljajlemmaaa
/-
  Games that are numbers: the reference.
-/
namespace Go.Proofs.Ytllcljajlemmaaa
open Go K
set_option linter.unusedSimpArgs false
set_option linter.unusedVariables false
set_option maxHeartbeats 1600000
set_option maxRecDepth 8000

def wtE (w : Wt) : AV := .agg [.bool w.num, .bool w.told, .int .i64 w.val.1, .int .i64 w.val.2]
theorem wts_pure : ∀ l : List Wt, pureL (l.map wtE) = true
  | [] => rfl
  | x :: r => by simp only [List.map_cons, pureL, wtE, pureB, wts_pure r, Bool.and_self]
theorem wts_noOwn (l : List Wt) : noOwn (l.map wtE) = true := by
  refine List.all_eq_true.2 fun e he => ?_
  obtain ⟨w, _, rfl⟩ := List.mem_map.1 he; rfl
theorem wt_get {ws : List Wt} {x : Int} (h : 0 ≤ x ∧ x < (ws.length : Int)) : (ws.map wtE)[x.toNat]? = some (.agg [.bool (wAt ws x).num, .bool (wAt ws x).told, .int .i64 (wAt ws x).val.1, .int .i64 (wAt ws x).val.2]) := by
  have h2 : x.toNat < ws.length := by omega
  unfold wAt
  rw [List.getD_eq_getElem?_getD, List.getElem?_map, List.getElem?_eq_getElem h2]
  rfl
def inW (ws : List Wt) (l : List Int) : Prop := ∀ x ∈ l, 0 ≤ x ∧ x < (ws.length : Int)
theorem gaKnowing_ok (ws : List Wt) (l : List Int) (h : inW ws l) (hl : l.length ≤ 1048576) : Ct Try.prog 162 [.sl false (ws.map wtE), .sl false (ints l)] [] (.tup [.bool (l.all fun x => (wAt ws x).told), .bool (l.all fun x => (wAt ws x).num)]) [] := by
  refine Ct.by_ hmix [] Try.func162 rfl ?_
  simp only [run0, run1, run2, run3, run4, run5, run6, run7, run8, run9, run10, run11, run12, run13, run14, run15, run16, run17, run18, run19, run20, run21, run22, reduceCtorEq, Nat.reduceEqDiff, Nat.reduceAdd, Nat.reduceSub, Nat.reduceLeDiff, indexAddrA, indexRefA, appendA, strA, Nat.reduceMul, Nat.zero_mul, Nat.reduceMod, Int.reduceEq, Int.reduceLT, Int.reduceLE, Nat.reduceLT, Nat.lt_irrefl, Nat.reduceBEq, tys0, tys1, tys2, tys3, tys4, tys5, tys6, tys7, tys8, tys9, tys10, tys11, tys12, tys13, tys14, tys15, tys16, tys17, tys18, tys19, tys20, tys21, tys22, tys23, Try.ntmps162, Try.results162, ints_length]
  refine AWp.loop_inv (ι := List Int × List Int) (fun q => ⟨[.sl false (ws.map wtE), .junk, .junk, .junk, .bool false, .bool false, .bool (q.1.all fun x => (wAt ws x).told), .bool (q.1.all fun x => (wAt ws x).num), .junk, .junk, .sl false (ints l), .int .i64 l.length, .int .i64 q.1.length, .junk, .junk, .junk, .junk, .junk, .junk, .junk, .junk, .junk, .junk, .junk, .junk, .junk, .junk, .junk, .junk, .junk, .junk, .junk, .junk, .junk, .junk], []⟩)
    (fun q => l = q.1 ++ q.2) (fun q => q.2.length) ([], l) rfl ⟨by simp only [List.length_nil, Int.natCast_zero, List.all_nil]; repeat constructor, rfl⟩ ?_
  rintro ⟨d, r⟩ ha
  refine W.sound hmix (E := []) ?_
  simp only at ha
  cases r with
  | nil =>
    have e1 := int_end ha
    rw [List.append_nil] at ha
    subst ha
    simp only [run0, run1, run2, run3, run4, run5, run6, run7, run8, run9, run10, run11, run12, run13, run14, run15, run16, run17, run18, run19, run20, run21, run22, reduceCtorEq, Nat.reduceEqDiff, Nat.reduceAdd, Nat.reduceSub, Nat.reduceLeDiff, indexAddrA, indexRefA, appendA, strA, Nat.reduceMul, Nat.zero_mul, Nat.reduceMod, Int.reduceEq, Int.reduceLT, Int.reduceLE, Nat.reduceLT, Nat.lt_irrefl, Nat.reduceBEq, tys0, tys1, tys2, tys3, tys4, tys5, tys6, tys7, tys8, tys9, tys10, tys11, tys12, tys13, tys14, tys15, tys16, tys17, tys18, tys19, tys20, tys21, tys22, tys23, Try.ntmps162, Try.results162, e1]
    exact Fin.eq rfl rfl
  | cons e r =>
    obtain ⟨e1, e2, e5⟩ := int_split ha hl
    have he := h e (by rw [ha]; simp)
    have h3 := wt_get he
    have k1 : (((d ++ [e]).all fun x => (wAt ws x).told) = ((d.all fun x => (wAt ws x).told) && (wAt ws e).told)) := by simp
    have k2 : (((d ++ [e]).all fun x => (wAt ws x).num) = ((d.all fun x => (wAt ws x).num) && (wAt ws e).num)) := by simp
    have key : ∀ t n : Bool, t = ((d ++ [e]).all fun x => (wAt ws x).told) → n = ((d ++ [e]).all fun x => (wAt ws x).num) → _ = _ → True := fun _ _ _ _ (_ : (0 : Nat) = 0) => trivial
    clear key
    have o1 := he.1
    have o2 := he.2
    generalize hT : (d.all fun x => (wAt ws x).told) = T at *
    generalize hN : (d.all fun x => (wAt ws x).num) = N at *
    cases T <;> cases N
    all_goals
      simp only [run0, run1, run2, run3, run4, run5, run6, run7, run8, run9, run10, run11, run12, run13, run14, run15, run16, run17, run18, run19, run20, run21, run22, reduceCtorEq, Nat.reduceEqDiff, Nat.reduceAdd, Nat.reduceSub, Nat.reduceLeDiff, indexAddrA, indexRefA, appendA, strA, Nat.reduceMul, Nat.zero_mul, Nat.reduceMod, Int.reduceEq, Int.reduceLT, Int.reduceLE, Nat.reduceLT, Nat.lt_irrefl, Nat.reduceBEq, tys0, tys1, tys2, tys3, tys4, tys5, tys6, tys7, tys8, tys9, tys10, tys11, tys12, tys13, tys14, tys15, tys16, tys17, tys18, tys19, tys20, tys21, tys22, tys23, Try.ntmps162, Try.results162, e1, e2, e5, h3, o1, o2, List.length_map, Int.toNat_natCast, Int.natCast_nonneg]
      exact ⟨(d ++ [e], r), by simp [ha], by simp, by simp only [k1, k2, Bool.false_and, Bool.true_and, List.length_append, List.length_cons, List.length_nil]; repeat constructor⟩
structure GvS where
  d : List Int
  r : List Int
theorem gaValues_ok (ws : List Wt) (l : List Int) (h : inW ws l) (hl : l.length ≤ 1048576) : Ct Try.prog 163 [.sl false (ws.map wtE), .sl false (ints l)] [] (.sl false ((vals ws l).map frE)) [] := by
  refine Ct.by_ hmix [] Try.func163 rfl ?_
  simp only [run0, run1, run2, run3, run4, run5, run6, run7, run8, run9, run10, run11, run12, run13, run14, run15, run16, run17, run18, run19, run20, run21, run22, reduceCtorEq, Nat.reduceEqDiff, Nat.reduceAdd, Nat.reduceSub, Nat.reduceLeDiff, indexAddrA, indexRefA, appendA, strA, Nat.reduceMul, Nat.zero_mul, Nat.reduceMod, Int.reduceEq, Int.reduceLT, Int.reduceLE, Nat.reduceLT, Nat.lt_irrefl, Nat.reduceBEq, tys0, tys1, tys2, tys3, tys4, tys5, tys6, tys7, tys8, tys9, tys10, tys11, tys12, tys13, tys14, tys15, tys16, tys17, tys18, tys19, tys20, tys21, tys22, tys23, Try.ntmps163, Try.results163, ints_length]
  refine AWp.nil 5 42 2 rfl ?_
  refine AWp.loop_inv (ι := List Int × List Int) (fun q => ⟨[.sl false (ws.map wtE), .junk, .junk, .junk, nilV, .ref 0 [] q.1.length q.1.length, .junk, .junk, .sl false (ints l), .int .i64 l.length, .int .i64 q.1.length, .junk, .junk, .junk, .junk, .junk, .junk, .junk, .junk, .junk, .junk, .junk, .junk, .junk], [.vec 42 2 q.1.length ((vals ws q.1).map frE)]⟩)
    (fun q => l = q.1 ++ q.2) (fun q => q.2.length) ([], l) rfl ⟨by simp only [List.length_nil, Int.natCast_zero]; repeat constructor, rfl⟩ ?_
  rintro ⟨d, r⟩ ha
  refine W.sound hmix (E := []) ?_
  simp only at ha
  cases r with
  | nil =>
    have e1 := int_end ha
    rw [List.append_nil] at ha
    subst ha
    simp only [run0, run1, run2, run3, run4, run5, run6, run7, run8, run9, run10, run11, run12, run13, run14, run15, run16, run17, run18, run19, run20, run21, run22, reduceCtorEq, Nat.reduceEqDiff, Nat.reduceAdd, Nat.reduceSub, Nat.reduceLeDiff, indexAddrA, indexRefA, appendA, strA, Nat.reduceMul, Nat.zero_mul, Nat.reduceMod, Int.reduceEq, Int.reduceLT, Int.reduceLE, Nat.reduceLT, Nat.lt_irrefl, Nat.reduceBEq, tys0, tys1, tys2, tys3, tys4, tys5, tys6, tys7, tys8, tys9, tys10, tys11, tys12, tys13, tys14, tys15, tys16, tys17, tys18, tys19, tys20, tys21, tys22, tys23, Try.ntmps163, Try.results163, e1]
    exact Fin.value (Vw_frs rfl rfl (by simp [vals]))
  | cons e r =>
    obtain ⟨e1, e2, e5⟩ := int_split ha hl
    have he := h e (by rw [ha]; simp)
    have h3 := wt_get he
    have o1 := he.1
    have o2 := he.2
    have hda : l.length = d.length + (r.length + 1) := by rw [ha]; simp
    have f3 : d.length + 1 ≤ 137438953472 := by omega
    have f4 := frs_noOwn (vals ws d)
    have f5 : (vals ws d).length = d.length := by simp [vals]
    simp only [run0, run1, run2, run3, run4, run5, run6, run7, run8, run9, run10, run11, run12, run13, run14, run15, run16, run17, run18, run19, run20, run21, run22, reduceCtorEq, Nat.reduceEqDiff, Nat.reduceAdd, Nat.reduceSub, Nat.reduceLeDiff, indexAddrA, indexRefA, appendA, strA, Nat.reduceMul, Nat.zero_mul, Nat.reduceMod, Int.reduceEq, Int.reduceLT, Int.reduceLE, Nat.reduceLT, Nat.lt_irrefl, Nat.reduceBEq, tys0, tys1, tys2, tys3, tys4, tys5, tys6, tys7, tys8, tys9, tys10, tys11, tys12, tys13, tys14, tys15, tys16, tys17, tys18, tys19, tys20, tys21, tys22, tys23, Try.ntmps163, Try.results163, e1, e2, e5, h3, o1, o2, f3, f4, f5, List.length_map, Int.toNat_natCast, Int.natCast_nonneg]
    exact ⟨(d ++ [e], r), by simp [ha], by simp, by simp only [List.length_append, List.length_cons, List.length_nil]; repeat constructor, by simp [frE, vals]⟩
theorem apart_split (d r : List Fr) (e : Fr) (R : List Fr) : apartB (d ++ e :: r) R = (apartB d R && (R.all (fun y => decide (cmpQ e y < 0)) && apartB r R)) := by
  unfold apartB
  rw [List.all_append, List.all_cons]
structure ApS where
  d : List Fr
  r : List Fr
  X : List AObj
theorem gaApart_ok (l r : List Fr) (hl : l.length ≤ 1048576) (hr : r.length ≤ 1048576) : Ct Try.prog 164 [.sl false (l.map frE), .sl false (r.map frE)] [] (.bool (apartB l r)) [] := by
  refine Ct.by_ hmix [] Try.func164 rfl ?_
  simp only [run0, run1, run2, run3, run4, run5, run6, run7, run8, run9, run10, run11, run12, run13, run14, run15, run16, run17, run18, run19, run20, run21, run22, reduceCtorEq, Nat.reduceEqDiff, Nat.reduceAdd, Nat.reduceSub, Nat.reduceLeDiff, indexAddrA, indexRefA, appendA, strA, Nat.reduceMul, Nat.zero_mul, Nat.reduceMod, Int.reduceEq, Int.reduceLT, Int.reduceLE, Nat.reduceLT, Nat.lt_irrefl, Nat.reduceBEq, tys0, tys1, tys2, tys3, tys4, tys5, tys6, tys7, tys8, tys9, tys10, tys11, tys12, tys13, tys14, tys15, tys16, tys17, tys18, tys19, tys20, tys21, tys22, tys23, Try.ntmps164, Try.results164, List.length_map]
  refine AWp.loop_inv (ι := ApS) (fun q => ⟨[.junk, .sl false (r.map frE), .junk, .junk, .bool false, .junk, .junk, .junk, .junk, .sl false (l.map frE), .int .i64 l.length, .int .i64 q.d.length, .junk, .junk, .junk, .junk, .junk, .junk, .junk, .junk, .junk, .junk, .junk, .junk, .junk, .junk, .junk], q.X⟩)
    (fun q => l = q.d ++ q.r ∧ apartB q.d r = true) (fun q => q.r.length) ⟨[], l, []⟩ ⟨rfl, rfl⟩ ⟨by simp only [List.length_nil, Int.natCast_zero]; repeat constructor, rfl⟩ ?_
  rintro ⟨d, s, X⟩ ⟨ha, hd⟩
  refine W.sound hmix (E := []) ?_
  simp only at ha hd
  cases s with
  | nil =>
    have e1 := frs_end ha
    rw [List.append_nil] at ha
    subst ha
    simp only [run0, run1, run2, run3, run4, run5, run6, run7, run8, run9, run10, run11, run12, run13, run14, run15, run16, run17, run18, run19, run20, run21, run22, reduceCtorEq, Nat.reduceEqDiff, Nat.reduceAdd, Nat.reduceSub, Nat.reduceLeDiff, indexAddrA, indexRefA, appendA, strA, Nat.reduceMul, Nat.zero_mul, Nat.reduceMod, Int.reduceEq, Int.reduceLT, Int.reduceLE, Nat.reduceLT, Nat.lt_irrefl, Nat.reduceBEq, tys0, tys1, tys2, tys3, tys4, tys5, tys6, tys7, tys8, tys9, tys10, tys11, tys12, tys13, tys14, tys15, tys16, tys17, tys18, tys19, tys20, tys21, tys22, tys23, Try.ntmps164, Try.results164, e1]
    exact Fin.eq (by rw [hd]) rfl
  | cons e s =>
    obtain ⟨e1, e2, e5⟩ := frs_split ha hl
    simp only [run0, run1, run2, run3, run4, run5, run6, run7, run8, run9, run10, run11, run12, run13, run14, run15, run16, run17, run18, run19, run20, run21, run22, reduceCtorEq, Nat.reduceEqDiff, Nat.reduceAdd, Nat.reduceSub, Nat.reduceLeDiff, indexAddrA, indexRefA, appendA, strA, Nat.reduceMul, Nat.zero_mul, Nat.reduceMod, Int.reduceEq, Int.reduceLT, Int.reduceLE, Nat.reduceLT, Nat.lt_irrefl, Nat.reduceBEq, tys0, tys1, tys2, tys3, tys4, tys5, tys6, tys7, tys8, tys9, tys10, tys11, tys12, tys13, tys14, tys15, tys16, tys17, tys18, tys19, tys20, tys21, tys22, tys23, Try.ntmps164, Try.results164, e1, e2, List.length_map, Int.toNat_natCast, Int.natCast_nonneg]
    refine AWp.loop_inv (ι := ApS) (fun q => ⟨[.junk, .sl false (r.map frE), .junk, .junk, .bool false, .junk, .ptr X.length 0, .junk, .junk, .sl false (l.map frE), .int .i64 l.length, .int .i64 d.length, .junk, .junk, .junk, .sl false (r.map frE), .int .i64 r.length, .int .i64 q.d.length, .junk, .junk, .junk, .junk, .junk, .junk, .junk, .junk, .junk], q.X⟩)
      (fun q => r = q.d ++ q.r ∧ q.d.all (fun y => decide (cmpQ e y < 0)) = true ∧ q.X[X.length]? = some (.box 42 [.int .i64 e.1, .int .i64 e.2])) (fun q => q.r.length) ⟨[], r, X ++ [.box 42 [.int .i64 e.1, .int .i64 e.2]]⟩ ⟨rfl, rfl, by simp⟩ ⟨by simp only [List.length_nil, Int.natCast_zero]; repeat constructor, by first | rfl | simp⟩ ?_
    rintro ⟨d2, s2, Y⟩ ⟨hb, hd2, hY⟩
    refine W.sound hmix (E := []) ?_
    simp only at hb hd2 hY
    cases s2 with
    | nil =>
      have k1 := frs_end hb
      rw [List.append_nil] at hb
      subst hb
      simp only [run0, run1, run2, run3, run4, run5, run6, run7, run8, run9, run10, run11, run12, run13, run14, run15, run16, run17, run18, run19, run20, run21, run22, reduceCtorEq, Nat.reduceEqDiff, Nat.reduceAdd, Nat.reduceSub, Nat.reduceLeDiff, indexAddrA, indexRefA, appendA, strA, Nat.reduceMul, Nat.zero_mul, Nat.reduceMod, Int.reduceEq, Int.reduceLT, Int.reduceLE, Nat.reduceLT, Nat.lt_irrefl, Nat.reduceBEq, tys0, tys1, tys2, tys3, tys4, tys5, tys6, tys7, tys8, tys9, tys10, tys11, tys12, tys13, tys14, tys15, tys16, tys17, tys18, tys19, tys20, tys21, tys22, tys23, Try.ntmps164, Try.results164, k1, e5]
      exact ⟨⟨d ++ [e], s, Y⟩, ⟨by simp [ha], by rw [apart_split, hd, hd2]; rfl⟩, by simp, by simp only [List.length_append, List.length_cons, List.length_nil]; repeat constructor, rfl⟩
    | cons b s2 =>
      obtain ⟨k1, k2, k5⟩ := frs_split hb hr
      have hc := cmpQ_ok e b
      simp only [fr] at hc
      have hY2 : ∀ b, (Y ++ [b])[X.length]? = some (.box 42 [.int .i64 e.1, .int .i64 e.2]) := fun b => by
        rw [List.getElem?_append_left (List.getElem?_eq_some_iff.1 hY).1]; exact hY
      have hY3 : ∀ b, (Y ++ [b])[Y.length]? = some b := fun b => by rw [List.getElem?_append_right (Nat.le_refl _), Nat.sub_self]; rfl
      have hY4 : ∀ b c, (Y ++ [b]).set Y.length c = Y ++ [c] := fun b c => by rw [List.set_append_right _ _ (Nat.le_refl _), Nat.sub_self]; rfl
      simp only [run0, run1, run2, run3, run4, run5, run6, run7, run8, run9, run10, run11, run12, run13, run14, run15, run16, run17, run18, run19, run20, run21, run22, reduceCtorEq, Nat.reduceEqDiff, Nat.reduceAdd, Nat.reduceSub, Nat.reduceLeDiff, indexAddrA, indexRefA, appendA, strA, Nat.reduceMul, Nat.zero_mul, Nat.reduceMod, Int.reduceEq, Int.reduceLT, Int.reduceLE, Nat.reduceLT, Nat.lt_irrefl, Nat.reduceBEq, tys0, tys1, tys2, tys3, tys4, tys5, tys6, tys7, tys8, tys9, tys10, tys11, tys12, tys13, tys14, tys15, tys16, tys17, tys18, tys19, tys20, tys21, tys22, tys23, Try.ntmps164, Try.results164, k1, k2, hY2, hY3, hY4, List.length_map, Int.toNat_natCast, Int.natCast_nonneg]
      refine RunL.callp rfl rfl ok_f78 (hc) (by first | rfl | simp only [pureL, pureB, Bool.and_self, Bool.and_true, Bool.true_and]) rfl ?_
      by_cases hq : 0 ≤ cmpQ e b
      · simp only [run0, run1, run2, run3, run4, run5, run6, run7, run8, run9, run10, run11, run12, run13, run14, run15, run16, run17, run18, run19, run20, run21, run22, reduceCtorEq, Nat.reduceEqDiff, Nat.reduceAdd, Nat.reduceSub, Nat.reduceLeDiff, indexAddrA, indexRefA, appendA, strA, Nat.reduceMul, Nat.zero_mul, Nat.reduceMod, Int.reduceEq, Int.reduceLT, Int.reduceLE, Nat.reduceLT, Nat.lt_irrefl, Nat.reduceBEq, tys0, tys1, tys2, tys3, tys4, tys5, tys6, tys7, tys8, tys9, tys10, tys11, tys12, tys13, tys14, tys15, tys16, tys17, tys18, tys19, tys20, tys21, tys22, tys23, Try.ntmps164, Try.results164, hq]
        refine Fin.eq ?_ rfl
        have : apartB l r = false := by
          rw [ha, apart_split, hd, hb]
          simp only [List.all_append, List.all_cons]
          rw [show decide (cmpQ e b < 0) = false by simp; omega]
          simp
        rw [this]
      · simp only [run0, run1, run2, run3, run4, run5, run6, run7, run8, run9, run10, run11, run12, run13, run14, run15, run16, run17, run18, run19, run20, run21, run22, reduceCtorEq, Nat.reduceEqDiff, Nat.reduceAdd, Nat.reduceSub, Nat.reduceLeDiff, indexAddrA, indexRefA, appendA, strA, Nat.reduceMul, Nat.zero_mul, Nat.reduceMod, Int.reduceEq, Int.reduceLT, Int.reduceLE, Nat.reduceLT, Nat.lt_irrefl, Nat.reduceBEq, tys0, tys1, tys2, tys3, tys4, tys5, tys6, tys7, tys8, tys9, tys10, tys11, tys12, tys13, tys14, tys15, tys16, tys17, tys18, tys19, tys20, tys21, tys22, tys23, Try.ntmps164, Try.results164, hq, k5]
        exact ⟨⟨d2 ++ [b], s2, _⟩, ⟨by simp [hb], by rw [List.all_append, hd2]; simp; omega, hY2 _⟩, by simp, by simp only [List.length_append, List.length_cons, List.length_nil]; repeat constructor, rfl⟩

end Go.Proofs.Ytllcljajlemmaaa
/-
  Games that are numbers: the reference, what a position is worth.
-/
namespace Go.Proofs.Ytllcljajlemmaaa
open Go K
set_option linter.unusedSimpArgs false
set_option linter.unusedVariables false
set_option maxHeartbeats 1600000
set_option maxRecDepth 8000

theorem ints_one (l : List Int) : ((ints l).all fun z => z.cells.length == 1) = true := by
  refine List.all_eq_true.2 fun e he => ?_
  obtain ⟨w, _, rfl⟩ := List.mem_map.1 he; rfl
theorem ints_sh (k : Nat) (l : List Int) : (ints l).map (shA k) = ints l := by
  simp only [ints, List.map_map]
  exact List.map_congr_left fun x _ => rfl
theorem l1OwnI_ok (l : List Int) (hl : l.length ≤ 1048576) : Ct Try.prog 57 [.sl false (ints l)] [] (.ref 0 [] 1 l.length) [.vec 3 1 1 (ints l)] := by
  have f3 : l.length ≤ 137438953472 := by omega
  have f4 := ints_noOwn l
  refine Ct.by_ hmix [] Try.func57 rfl ?_
  have f5 := ints_one l
  simp only [run0, run1, run2, run3, run4, run5, run6, run7, run8, run9, run10, run11, run12, run13, run14, run15, run16, run17, run18, run19, run20, run21, run22, reduceCtorEq, Nat.reduceEqDiff, Nat.reduceAdd, Nat.reduceSub, Nat.reduceLeDiff, indexAddrA, indexRefA, appendA, strA, Nat.reduceMul, Nat.zero_mul, Nat.reduceMod, Int.reduceEq, Int.reduceLT, Int.reduceLE, Nat.reduceLT, Nat.lt_irrefl, Nat.reduceBEq, tys0, tys1, tys2, tys3, tys4, tys5, tys6, tys7, tys8, tys9, tys10, tys11, tys12, tys13, tys14, tys15, tys16, tys17, tys18, tys19, tys20, tys21, tys22, tys23, Try.ntmps57, Try.results57, ints_length, f3, f4, f5, Nat.zero_add, List.nil_append]
  exact Fin.own rfl rfl
theorem Vw_wts {L : List AObj} {id g n : Nat} {T : TypeId} {l : List Wt} {o : Bool} (hL : L[id]? = some (.vec T 4 g (l.map wtE))) (hn : n = l.length) : Vw L (.ref id [] g n) (.sl o (l.map wtE)) := by
  subst hn
  have := Vw.refPur (L := L) (id := id) (g := g) (n := l.length) (o := o) hL (by simp) (fun e he c hc => by
    obtain ⟨e', _, rfl⟩ := List.mem_map.1 he
    simp only [wtE, AV.cells, List.mem_cons, List.not_mem_nil, or_false] at hc
    rcases hc with rfl | rfl | rfl | rfl <;> exact ⟨.of rfl, fun xs h => by cases h⟩)
  rwa [List.take_of_length_le (by simp)] at this
theorem gaNumber_ok (p : GP) (ws : List Wt) (h1 : inW ws p.1) (h2 : inW ws p.2) (l1 : p.1.length ≤ 1000) (l2 : p.2.length ≤ 1000)
    (hF : ((p.1 ++ p.2).all fun x => (wAt ws x).told) = true → ((p.1 ++ p.2).all fun x => (wAt ws x).num) = true → (∀ a ∈ vals ws p.1, FB a) ∧ ∀ a ∈ vals ws p.2, FB a) :
    Ct Try.prog 137 [.agg [.sl false (ints p.1), .sl false (ints p.2)], .sl false (ws.map wtE)] [] (wtE (wS p ws)) [] := by
  have hW : ∀ i, isW (kindE [8000000, 2000000 + 57, 3000000 + 162]) i = false ∧ rowsAt (kindE [8000000, 2000000 + 57, 3000000 + 162]) i = false := fun i => ⟨by rw [isW_none i rfl]; rfl, by rw [rowsAt_E]; rfl⟩
  have hk := gaKnowing_ok ws (p.1 ++ p.2) (fun x hx => by rcases List.mem_append.1 hx with h | h; exact h1 x h; exact h2 x h) (by simp; omega)
  have hv1 := gaValues_ok ws p.1 h1 (by omega)
  have hv2 := gaValues_ok ws p.2 h2 (by omega)
  have ha := gaApart_ok (vals ws p.1) (vals ws p.2) (by simp [vals]; omega) (by simp [vals]; omega)
  have hs : (((p.1 ++ p.2).all fun x => (wAt ws x).told) = true → ((p.1 ++ p.2).all fun x => (wAt ws x).num) = true → _) := fun q1 q2 => shSimplest_ok (vals ws p.1) (vals ws p.2) (by simp [vals]; omega) (by simp [vals]; omega) (hF q1 q2).1 (hF q1 q2).2
  have pw := wts_pure ws
  have f3 : p.1.length + p.2.length ≤ 137438953472 := by omega
  have f4 := ints_noOwn p.1
  have f5 := ints_noOwn p.2
  unfold wS
  generalize (p.1 ++ p.2).all (fun x => (wAt ws x).told) = T at *
  generalize (p.1 ++ p.2).all (fun x => (wAt ws x).num) = N at *
  refine Ct.by_ hmix [ 8000000, 2000000 + 57, 3000000 + 162] Try.func137 rfl ?_
  simp only [run0, run1, run2, run3, run4, run5, run6, run7, run8, run9, run10, run11, run12, run13, run14, run15, run16, run17, run18, run19, run20, run21, run22, reduceCtorEq, Nat.reduceEqDiff, Nat.reduceAdd, Nat.reduceSub, Nat.reduceLeDiff, indexAddrA, indexRefA, appendA, strA, Nat.reduceMul, Nat.zero_mul, Nat.reduceMod, Int.reduceEq, Int.reduceLT, Int.reduceLE, Nat.reduceLT, Nat.lt_irrefl, Nat.reduceBEq, tys0, tys1, tys2, tys3, tys4, tys5, tys6, tys7, tys8, tys9, tys10, tys11, tys12, tys13, tys14, tys15, tys16, tys17, tys18, tys19, tys20, tys21, tys22, tys23, Try.ntmps137, Try.results137]
  refine ⟨[0, 1, 2, 4, 5, 3, 6, 7, 8, 9, 10, 11, 12], by kernel_rfl, ?_⟩
  simp only [run0, run1, run2, run3, run4, run5, run6, run7, run8, run9, run10, run11, run12, run13, run14, run15, run16, run17, run18, run19, run20, run21, run22, reduceCtorEq, Nat.reduceEqDiff, Nat.reduceAdd, Nat.reduceSub, Nat.reduceLeDiff, indexAddrA, indexRefA, appendA, strA, Nat.reduceMul, Nat.zero_mul, Nat.reduceMod, Int.reduceEq, Int.reduceLT, Int.reduceLE, Nat.reduceLT, Nat.lt_irrefl, Nat.reduceBEq, tys0, tys1, tys2, tys3, tys4, tys5, tys6, tys7, tys8, tys9, tys10, tys11, tys12, tys13, tys14, tys15, tys16, tys17, tys18, tys19, tys20, tys21, tys22, tys23, Try.ntmps137, Try.results137]
  refine RunL.callgp rfl rfl ok_f57 rfl (l1OwnI_ok p.1 (by omega)) (by simp only [pureL, pureB, ints_pure, Bool.and_self]) rfl ?_
  have f6 := ints_one p.2
  simp only [run0, run1, run2, run3, run4, run5, run6, run7, run8, run9, run10, run11, run12, run13, run14, run15, run16, run17, run18, run19, run20, run21, run22, reduceCtorEq, Nat.reduceEqDiff, Nat.reduceAdd, Nat.reduceSub, Nat.reduceLeDiff, indexAddrA, indexRefA, appendA, strA, Nat.reduceMul, Nat.zero_mul, Nat.reduceMod, Int.reduceEq, Int.reduceLT, Int.reduceLE, Nat.reduceLT, Nat.lt_irrefl, Nat.reduceBEq, tys0, tys1, tys2, tys3, tys4, tys5, tys6, tys7, tys8, tys9, tys10, tys11, tys12, tys13, tys14, tys15, tys16, tys17, tys18, tys19, tys20, tys21, tys22, tys23, Try.ntmps137, Try.results137, shR, sh1, shA, shO, ints_sh, List.map_cons, List.map_nil, List.append_assoc, List.cons_append, List.nil_append, ints_length, f3, f4, f5, f6, Nat.zero_add]
  refine RunL.lendB rfl rfl ok_f162 rfl hW hk rfl (fun X => .cons (.pur (.of (show pureB (.sl false (ws.map wtE)) = true by simp only [pureB, pw]))) (.cons (Vw_ints (id := 2) (g := 2) (n := p.1.length + p.2.length) (sz := 1) (T := 3) (es := ints p.1 ++ ints p.2) (a := p.1 ++ p.2) rfl (by simp [ints]) (by simp)) .nil)) rfl ?_
  simp only [run0, run1, run2, run3, run4, run5, run6, run7, run8, run9, run10, run11, run12, run13, run14, run15, run16, run17, run18, run19, run20, run21, run22, reduceCtorEq, Nat.reduceEqDiff, Nat.reduceAdd, Nat.reduceSub, Nat.reduceLeDiff, indexAddrA, indexRefA, appendA, strA, Nat.reduceMul, Nat.zero_mul, Nat.reduceMod, Int.reduceEq, Int.reduceLT, Int.reduceLE, Nat.reduceLT, Nat.lt_irrefl, Nat.reduceBEq, tys0, tys1, tys2, tys3, tys4, tys5, tys6, tys7, tys8, tys9, tys10, tys11, tys12, tys13, tys14, tys15, tys16, tys17, tys18, tys19, tys20, tys21, tys22, tys23, Try.ntmps137, Try.results137]
  refine ⟨[0, 1, 2, 3, 4, 5, 6, 7, 8, 9], by kernel_rfl, ?_⟩
  simp only [run0, run1, run2, run3, run4, run5, run6, run7, run8, run9, run10, run11, run12, run13, run14, run15, run16, run17, run18, run19, run20, run21, run22, reduceCtorEq, Nat.reduceEqDiff, Nat.reduceAdd, Nat.reduceSub, Nat.reduceLeDiff, indexAddrA, indexRefA, appendA, strA, Nat.reduceMul, Nat.zero_mul, Nat.reduceMod, Int.reduceEq, Int.reduceLT, Int.reduceLE, Nat.reduceLT, Nat.lt_irrefl, Nat.reduceBEq, tys0, tys1, tys2, tys3, tys4, tys5, tys6, tys7, tys8, tys9, tys10, tys11, tys12, tys13, tys14, tys15, tys16, tys17, tys18, tys19, tys20, tys21, tys22, tys23, Try.ntmps137, Try.results137]
  refine RunL.callp rfl rfl ok_f163 hv1 (by simp only [pureL, pureB, pw, ints_pure, Bool.and_self]) rfl ?_
  simp only [run0, run1, run2, run3, run4, run5, run6, run7, run8, run9, run10, run11, run12, run13, run14, run15, run16, run17, run18, run19, run20, run21, run22, reduceCtorEq, Nat.reduceEqDiff, Nat.reduceAdd, Nat.reduceSub, Nat.reduceLeDiff, indexAddrA, indexRefA, appendA, strA, Nat.reduceMul, Nat.zero_mul, Nat.reduceMod, Int.reduceEq, Int.reduceLT, Int.reduceLE, Nat.reduceLT, Nat.lt_irrefl, Nat.reduceBEq, tys0, tys1, tys2, tys3, tys4, tys5, tys6, tys7, tys8, tys9, tys10, tys11, tys12, tys13, tys14, tys15, tys16, tys17, tys18, tys19, tys20, tys21, tys22, tys23, Try.ntmps137, Try.results137]
  refine RunL.callp rfl rfl ok_f163 hv2 (by simp only [pureL, pureB, pw, ints_pure, Bool.and_self]) rfl ?_
  cases T
  · simp only [run0, run1, run2, run3, run4, run5, run6, run7, run8, run9, run10, run11, run12, run13, run14, run15, run16, run17, run18, run19, run20, run21, run22, reduceCtorEq, Nat.reduceEqDiff, Nat.reduceAdd, Nat.reduceSub, Nat.reduceLeDiff, indexAddrA, indexRefA, appendA, strA, Nat.reduceMul, Nat.zero_mul, Nat.reduceMod, Int.reduceEq, Int.reduceLT, Int.reduceLE, Nat.reduceLT, Nat.lt_irrefl, Nat.reduceBEq, tys0, tys1, tys2, tys3, tys4, tys5, tys6, tys7, tys8, tys9, tys10, tys11, tys12, tys13, tys14, tys15, tys16, tys17, tys18, tys19, tys20, tys21, tys22, tys23, Try.ntmps137, Try.results137]
    exact Fin.eq rfl rfl
  cases N
  · simp only [run0, run1, run2, run3, run4, run5, run6, run7, run8, run9, run10, run11, run12, run13, run14, run15, run16, run17, run18, run19, run20, run21, run22, reduceCtorEq, Nat.reduceEqDiff, Nat.reduceAdd, Nat.reduceSub, Nat.reduceLeDiff, indexAddrA, indexRefA, appendA, strA, Nat.reduceMul, Nat.zero_mul, Nat.reduceMod, Int.reduceEq, Int.reduceLT, Int.reduceLE, Nat.reduceLT, Nat.lt_irrefl, Nat.reduceBEq, tys0, tys1, tys2, tys3, tys4, tys5, tys6, tys7, tys8, tys9, tys10, tys11, tys12, tys13, tys14, tys15, tys16, tys17, tys18, tys19, tys20, tys21, tys22, tys23, Try.ntmps137, Try.results137]
    exact Fin.eq rfl rfl
  have pv1 := frs_pure (vals ws p.1)
  have pv2 := frs_pure (vals ws p.2)
  simp only [run0, run1, run2, run3, run4, run5, run6, run7, run8, run9, run10, run11, run12, run13, run14, run15, run16, run17, run18, run19, run20, run21, run22, reduceCtorEq, Nat.reduceEqDiff, Nat.reduceAdd, Nat.reduceSub, Nat.reduceLeDiff, indexAddrA, indexRefA, appendA, strA, Nat.reduceMul, Nat.zero_mul, Nat.reduceMod, Int.reduceEq, Int.reduceLT, Int.reduceLE, Nat.reduceLT, Nat.lt_irrefl, Nat.reduceBEq, tys0, tys1, tys2, tys3, tys4, tys5, tys6, tys7, tys8, tys9, tys10, tys11, tys12, tys13, tys14, tys15, tys16, tys17, tys18, tys19, tys20, tys21, tys22, tys23, Try.ntmps137, Try.results137]
  refine RunL.callp rfl rfl ok_f164 ha (by simp only [pureL, pureB, pv1, pv2, Bool.and_self]) rfl ?_
  cases hap : apartB (vals ws p.1) (vals ws p.2)
  · simp only [run0, run1, run2, run3, run4, run5, run6, run7, run8, run9, run10, run11, run12, run13, run14, run15, run16, run17, run18, run19, run20, run21, run22, reduceCtorEq, Nat.reduceEqDiff, Nat.reduceAdd, Nat.reduceSub, Nat.reduceLeDiff, indexAddrA, indexRefA, appendA, strA, Nat.reduceMul, Nat.zero_mul, Nat.reduceMod, Int.reduceEq, Int.reduceLT, Int.reduceLE, Nat.reduceLT, Nat.lt_irrefl, Nat.reduceBEq, tys0, tys1, tys2, tys3, tys4, tys5, tys6, tys7, tys8, tys9, tys10, tys11, tys12, tys13, tys14, tys15, tys16, tys17, tys18, tys19, tys20, tys21, tys22, tys23, Try.ntmps137, Try.results137]
    exact Fin.eq rfl rfl
  have hs := hs rfl rfl
  unfold simR at hs
  simp only [run0, run1, run2, run3, run4, run5, run6, run7, run8, run9, run10, run11, run12, run13, run14, run15, run16, run17, run18, run19, run20, run21, run22, reduceCtorEq, Nat.reduceEqDiff, Nat.reduceAdd, Nat.reduceSub, Nat.reduceLeDiff, indexAddrA, indexRefA, appendA, strA, Nat.reduceMul, Nat.zero_mul, Nat.reduceMod, Int.reduceEq, Int.reduceLT, Int.reduceLE, Nat.reduceLT, Nat.lt_irrefl, Nat.reduceBEq, tys0, tys1, tys2, tys3, tys4, tys5, tys6, tys7, tys8, tys9, tys10, tys11, tys12, tys13, tys14, tys15, tys16, tys17, tys18, tys19, tys20, tys21, tys22, tys23, Try.ntmps137, Try.results137]
  refine RunL.callp rfl rfl ok_f80 hs (by simp only [pureL, pureB, pv1, pv2, Bool.and_self]) rfl ?_
  cases hb : cutBad (vals ws p.1) (vals ws p.2)
  · simp only [run0, run1, run2, run3, run4, run5, run6, run7, run8, run9, run10, run11, run12, run13, run14, run15, run16, run17, run18, run19, run20, run21, run22, reduceCtorEq, Nat.reduceEqDiff, Nat.reduceAdd, Nat.reduceSub, Nat.reduceLeDiff, indexAddrA, indexRefA, appendA, strA, Nat.reduceMul, Nat.zero_mul, Nat.reduceMod, Int.reduceEq, Int.reduceLT, Int.reduceLE, Nat.reduceLT, Nat.lt_irrefl, Nat.reduceBEq, tys0, tys1, tys2, tys3, tys4, tys5, tys6, tys7, tys8, tys9, tys10, tys11, tys12, tys13, tys14, tys15, tys16, tys17, tys18, tys19, tys20, tys21, tys22, tys23, Try.ntmps137, Try.results137, frE]
    exact Fin.eq rfl rfl
  · simp only [run0, run1, run2, run3, run4, run5, run6, run7, run8, run9, run10, run11, run12, run13, run14, run15, run16, run17, run18, run19, run20, run21, run22, reduceCtorEq, Nat.reduceEqDiff, Nat.reduceAdd, Nat.reduceSub, Nat.reduceLeDiff, indexAddrA, indexRefA, appendA, strA, Nat.reduceMul, Nat.zero_mul, Nat.reduceMod, Int.reduceEq, Int.reduceLT, Int.reduceLE, Nat.reduceLT, Nat.lt_irrefl, Nat.reduceBEq, tys0, tys1, tys2, tys3, tys4, tys5, tys6, tys7, tys8, tys9, tys10, tys11, tys12, tys13, tys14, tys15, tys16, tys17, tys18, tys19, tys20, tys21, tys22, tys23, Try.ntmps137, Try.results137, frE]
    exact Fin.eq rfl rfl

end Go.Proofs.Ytllcljajlemmaaa
/-
  Nimbers of games: copies.
-/
namespace Go.Proofs.Ytllcljajlemmaaa
open Go K
set_option linter.unusedSimpArgs false
set_option linter.unusedVariables false
set_option maxHeartbeats 1600000
set_option maxRecDepth 8000

theorem und66 : Try.prog.underlying 66 = some (.slice 3) := by kernel_rfl
theorem und24 : Try.prog.underlying 24 = some (.slice 70) := by kernel_rfl
theorem cloneI_ok (l : List Int) (o : Bool) (hl : l.length ≤ 1048576) : Ct Try.prog 102 [.sl o (ints l)] [] (.sl false (ints l)) [] := by
  have f3 : l.length ≤ 137438953472 := by omega
  have f4 := ints_noOwn l
  have f5 := ints_one l
  refine Ct.intro Try.func102 rfl ?_
  refine AWp.seq ?_
  refine W.sound hmix (E := []) ?_
  simp only [run0, run1, run2, run3, run4, run5, run6, run7, run8, run9, run10, run11, run12, run13, run14, run15, run16, run17, run18, run19, run20, run21, run22, reduceCtorEq, Nat.reduceEqDiff, Nat.reduceAdd, Nat.reduceSub, Nat.reduceLeDiff, indexAddrA, indexRefA, appendA, strA, Nat.reduceMul, Nat.zero_mul, Nat.reduceMod, Int.reduceEq, Int.reduceLT, Int.reduceLE, Nat.reduceLT, Nat.lt_irrefl, Nat.reduceBEq, tys0, tys1, tys2, tys3, tys4, tys5, tys6, tys7, tys8, tys9, tys10, tys11, tys12, tys13, tys14, tys15, tys16, tys17, tys18, tys19, tys20, tys21, tys22, tys23, Try.ntmps102, Try.results102]
  refine AWp.seq (AWp.seq (AWp.nilTest rfl rfl rfl rfl rfl rfl und66 rfl ?_ (fun e he => ?_) ?_))
  · exact (by decide : 3 < 8)
  · obtain ⟨y, _, rfl⟩ := List.mem_map.1 he
    simp [AV.cells]
  intro b hb
  refine AWp.cond (b := b) rfl (fun h => ?_) (fun h => ?_)
  · subst h
    have : l = [] := by
      cases l with
      | nil => rfl
      | cons a r => have := hb (by simp [ints]); cases this
    subst this
    refine W.sound hmix (E := []) ?_
    simp only [run0, run1, run2, run3, run4, run5, run6, run7, run8, run9, run10, run11, run12, run13, run14, run15, run16, run17, run18, run19, run20, run21, run22, reduceCtorEq, Nat.reduceEqDiff, Nat.reduceAdd, Nat.reduceSub, Nat.reduceLeDiff, indexAddrA, indexRefA, appendA, strA, Nat.reduceMul, Nat.zero_mul, Nat.reduceMod, Int.reduceEq, Int.reduceLT, Int.reduceLE, Nat.reduceLT, Nat.lt_irrefl, Nat.reduceBEq, tys0, tys1, tys2, tys3, tys4, tys5, tys6, tys7, tys8, tys9, tys10, tys11, tys12, tys13, tys14, tys15, tys16, tys17, tys18, tys19, tys20, tys21, tys22, tys23, Try.ntmps102, Try.results102]
    exact Fin.value (Vw.nil false)
  · subst h
    refine W.sound hmix (E := []) ?_
    simp only [run0, run1, run2, run3, run4, run5, run6, run7, run8, run9, run10, run11, run12, run13, run14, run15, run16, run17, run18, run19, run20, run21, run22, reduceCtorEq, Nat.reduceEqDiff, Nat.reduceAdd, Nat.reduceSub, Nat.reduceLeDiff, indexAddrA, indexRefA, appendA, strA, Nat.reduceMul, Nat.zero_mul, Nat.reduceMod, Int.reduceEq, Int.reduceLT, Int.reduceLE, Nat.reduceLT, Nat.lt_irrefl, Nat.reduceBEq, tys0, tys1, tys2, tys3, tys4, tys5, tys6, tys7, tys8, tys9, tys10, tys11, tys12, tys13, tys14, tys15, tys16, tys17, tys18, tys19, tys20, tys21, tys22, tys23, Try.ntmps102, Try.results102]
    refine W.sound hmix (E := []) ?_
    simp only [run0, run1, run2, run3, run4, run5, run6, run7, run8, run9, run10, run11, run12, run13, run14, run15, run16, run17, run18, run19, run20, run21, run22, reduceCtorEq, Nat.reduceEqDiff, Nat.reduceAdd, Nat.reduceSub, Nat.reduceLeDiff, indexAddrA, indexRefA, appendA, strA, Nat.reduceMul, Nat.zero_mul, Nat.reduceMod, Int.reduceEq, Int.reduceLT, Int.reduceLE, Nat.reduceLT, Nat.lt_irrefl, Nat.reduceBEq, tys0, tys1, tys2, tys3, tys4, tys5, tys6, tys7, tys8, tys9, tys10, tys11, tys12, tys13, tys14, tys15, tys16, tys17, tys18, tys19, tys20, tys21, tys22, tys23, Try.ntmps102, Try.results102, ints_length, f3, f4, f5, Nat.zero_add, List.nil_append]
    exact Fin.value (Vw_ints rfl rfl rfl)
theorem poss_two (l : List GP) : ((l.map posE).all fun z => z.cells.length == 2) = true := by
  refine List.all_eq_true.2 fun e he => ?_
  obtain ⟨w, _, rfl⟩ := List.mem_map.1 he; rfl
theorem cloneP_ok (g : List GP) (o : Bool) (hg : g ≠ []) (hl : g.length ≤ 1048576) : Ct Try.prog 60 [.sl o (g.map posE)] [] (.ref 0 [] 1 g.length) [.vec 70 2 1 (g.map posE)] := by
  have f3 : g.length ≤ 137438953472 := by omega
  have f4 := posL_noOwn g
  have f5 := poss_two g
  refine Ct.intro Try.func60 rfl ?_
  refine AWp.seq ?_
  refine W.sound hmix (E := []) ?_
  simp only [run0, run1, run2, run3, run4, run5, run6, run7, run8, run9, run10, run11, run12, run13, run14, run15, run16, run17, run18, run19, run20, run21, run22, reduceCtorEq, Nat.reduceEqDiff, Nat.reduceAdd, Nat.reduceSub, Nat.reduceLeDiff, indexAddrA, indexRefA, appendA, strA, Nat.reduceMul, Nat.zero_mul, Nat.reduceMod, Int.reduceEq, Int.reduceLT, Int.reduceLE, Nat.reduceLT, Nat.lt_irrefl, Nat.reduceBEq, tys0, tys1, tys2, tys3, tys4, tys5, tys6, tys7, tys8, tys9, tys10, tys11, tys12, tys13, tys14, tys15, tys16, tys17, tys18, tys19, tys20, tys21, tys22, tys23, Try.ntmps60, Try.results60]
  refine AWp.seq (AWp.seq (AWp.nilTest rfl rfl rfl rfl rfl rfl und24 rfl ?_ (fun e he => ?_) ?_))
  · exact (by decide : 3 < 8)
  · obtain ⟨y, _, rfl⟩ := List.mem_map.1 he
    simp [AV.cells, posE]
  intro b hb
  have hb := hb (by simpa using hg)
  subst hb
  refine AWp.cond (b := false) rfl (fun h => by cases h) (fun h => ?_)
  refine W.sound hmix (E := []) ?_
  simp only [run0, run1, run2, run3, run4, run5, run6, run7, run8, run9, run10, run11, run12, run13, run14, run15, run16, run17, run18, run19, run20, run21, run22, reduceCtorEq, Nat.reduceEqDiff, Nat.reduceAdd, Nat.reduceSub, Nat.reduceLeDiff, indexAddrA, indexRefA, appendA, strA, Nat.reduceMul, Nat.zero_mul, Nat.reduceMod, Int.reduceEq, Int.reduceLT, Int.reduceLE, Nat.reduceLT, Nat.lt_irrefl, Nat.reduceBEq, tys0, tys1, tys2, tys3, tys4, tys5, tys6, tys7, tys8, tys9, tys10, tys11, tys12, tys13, tys14, tys15, tys16, tys17, tys18, tys19, tys20, tys21, tys22, tys23, Try.ntmps60, Try.results60]
  refine W.sound hmix (E := []) ?_
  simp only [run0, run1, run2, run3, run4, run5, run6, run7, run8, run9, run10, run11, run12, run13, run14, run15, run16, run17, run18, run19, run20, run21, run22, reduceCtorEq, Nat.reduceEqDiff, Nat.reduceAdd, Nat.reduceSub, Nat.reduceLeDiff, indexAddrA, indexRefA, appendA, strA, Nat.reduceMul, Nat.zero_mul, Nat.reduceMod, Int.reduceEq, Int.reduceLT, Int.reduceLE, Nat.reduceLT, Nat.lt_irrefl, Nat.reduceBEq, tys0, tys1, tys2, tys3, tys4, tys5, tys6, tys7, tys8, tys9, tys10, tys11, tys12, tys13, tys14, tys15, tys16, tys17, tys18, tys19, tys20, tys21, tys22, tys23, Try.ntmps60, Try.results60, List.length_map, f3, f4, f5, Nat.zero_add, List.nil_append]
  exact Fin.own rfl rfl

end Go.Proofs.Ytllcljajlemmaaa
/-
  Nimbers of games: the program's game of nimbers.
-/
namespace Go.Proofs.Ytllcljajlemmaaa
open Go K
set_option linter.unusedSimpArgs false
set_option linter.unusedVariables false
set_option maxHeartbeats 1600000
set_option maxRecDepth 8000

def iota (k : Nat) : List Int := (List.range k).map fun i : Nat => (i : Int)
theorem iota_len (k : Nat) : (iota k).length = k := by simp [iota]
theorem iota_succ (k : Nat) : iota (k + 1) = iota k ++ [(k : Int)] := by simp [iota, List.range_succ]
def nimG (n : Nat) : List GP := (List.range n).map fun k => (iota k, iota k)
theorem nimG_len (n : Nat) : (nimG n).length = n := by simp [nimG]
theorem nimG_succ (n : Nat) : nimG (n + 1) = nimG n ++ [(iota n, iota n)] := by simp [nimG, List.range_succ]
theorem cloneO_ok (l : List Int) (o : Bool) (hne : l ≠ []) (hl : l.length ≤ 1048576) : Ct Try.prog 102 [.sl o (ints l)] [] (.ref 0 [] 1 l.length) [.vec 3 1 1 (ints l)] := by
  have f3 : l.length ≤ 137438953472 := by omega
  have f4 := ints_noOwn l
  have f5 := ints_one l
  refine Ct.intro Try.func102 rfl ?_
  refine AWp.seq ?_
  refine W.sound hmix (E := []) ?_
  simp only [run0, run1, run2, run3, run4, run5, run6, run7, run8, run9, run10, run11, run12, run13, run14, run15, run16, run17, run18, run19, run20, run21, run22, reduceCtorEq, Nat.reduceEqDiff, Nat.reduceAdd, Nat.reduceSub, Nat.reduceLeDiff, indexAddrA, indexRefA, appendA, strA, Nat.reduceMul, Nat.zero_mul, Nat.reduceMod, Int.reduceEq, Int.reduceLT, Int.reduceLE, Nat.reduceLT, Nat.lt_irrefl, Nat.reduceBEq, tys0, tys1, tys2, tys3, tys4, tys5, tys6, tys7, tys8, tys9, tys10, tys11, tys12, tys13, tys14, tys15, tys16, tys17, tys18, tys19, tys20, tys21, tys22, tys23, Try.ntmps102, Try.results102]
  refine AWp.seq (AWp.seq (AWp.nilTest rfl rfl rfl rfl rfl rfl und66 rfl ?_ (fun e he => ?_) ?_))
  · exact (by decide : 3 < 8)
  · obtain ⟨y, _, rfl⟩ := List.mem_map.1 he
    simp [AV.cells]
  intro b hb
  have hb := hb (by simpa [ints] using hne)
  subst hb
  refine AWp.cond (b := false) rfl (fun h => by cases h) (fun h => ?_)
  refine W.sound hmix (E := []) ?_
  simp only [run0, run1, run2, run3, run4, run5, run6, run7, run8, run9, run10, run11, run12, run13, run14, run15, run16, run17, run18, run19, run20, run21, run22, reduceCtorEq, Nat.reduceEqDiff, Nat.reduceAdd, Nat.reduceSub, Nat.reduceLeDiff, indexAddrA, indexRefA, appendA, strA, Nat.reduceMul, Nat.zero_mul, Nat.reduceMod, Int.reduceEq, Int.reduceLT, Int.reduceLE, Nat.reduceLT, Nat.lt_irrefl, Nat.reduceBEq, tys0, tys1, tys2, tys3, tys4, tys5, tys6, tys7, tys8, tys9, tys10, tys11, tys12, tys13, tys14, tys15, tys16, tys17, tys18, tys19, tys20, tys21, tys22, tys23, Try.ntmps102, Try.results102]
  refine W.sound hmix (E := []) ?_
  simp only [run0, run1, run2, run3, run4, run5, run6, run7, run8, run9, run10, run11, run12, run13, run14, run15, run16, run17, run18, run19, run20, run21, run22, reduceCtorEq, Nat.reduceEqDiff, Nat.reduceAdd, Nat.reduceSub, Nat.reduceLeDiff, indexAddrA, indexRefA, appendA, strA, Nat.reduceMul, Nat.zero_mul, Nat.reduceMod, Int.reduceEq, Int.reduceLT, Int.reduceLE, Nat.reduceLT, Nat.lt_irrefl, Nat.reduceBEq, tys0, tys1, tys2, tys3, tys4, tys5, tys6, tys7, tys8, tys9, tys10, tys11, tys12, tys13, tys14, tys15, tys16, tys17, tys18, tys19, tys20, tys21, tys22, tys23, Try.ntmps102, Try.results102, ints_length, f3, f4, f5, Nat.zero_add, List.nil_append]
  exact Fin.own rfl rfl

theorem ints_okS (l : List Int) (T : TypeId) (z g : Nat) : ([AObj.vec T z g (ints l)]).all okSO = true := by
  have : okSL (ints l) = true := okSL_mem.2 fun x hx => by
    obtain ⟨y, _, rfl⟩ := List.mem_map.1 hx; rfl
  simp only [List.all_cons, List.all_nil, okSO, this, Bool.and_self]
/-- What the program's loop leaves. -/
def ngE : Nat → List AV
  | 0 => []
  | k + 1 => ngE k ++ [if k = 0 then .agg [.sl false [], .sl false []] else .agg [.ref (2 * k) [] 1 k, .ref (2 * k + 1) [] 1 k]]
def ngX : Nat → List AObj
  | 0 => []
  | k + 1 => ngX k ++ if k = 0 then [] else [.vec 3 1 1 (ints (iota k)), .vec 3 1 1 (ints (iota k))]
def ngL (k : Nat) : List AObj := .vec 70 2 k (ngE k) :: .vec 3 1 k (ints (iota k)) :: ngX k
theorem ngE_len : ∀ k, (ngE k).length = k
  | 0 => rfl
  | k + 1 => by simp [ngE, ngE_len k]
theorem ngX_len : ∀ k, (ngX (k + 1)).length = 2 * k
  | 0 => rfl
  | k + 1 => by
    have := ngX_len k
    rw [ngX, if_neg (by omega), List.length_append, this]
    simp; omega
theorem ngE_noOwn : ∀ k, noOwn (ngE k) = true
  | 0 => rfl
  | k + 1 => by
    have := ngE_noOwn k
    unfold noOwn at this ⊢
    rw [ngE, List.all_append, this]
    split <;> rfl
theorem ngX_get : ∀ (n k : Nat), k + 1 < n → (ngX n)[2 * k]? = some (.vec 3 1 1 (ints (iota (k + 1)))) ∧ (ngX n)[2 * k + 1]? = some (.vec 3 1 1 (ints (iota (k + 1))))
  | 0, k, h => by omega
  | n + 1, k, h => by
    rcases Nat.lt_or_ge (k + 1) n with hlt | hge
    · obtain ⟨h1, h2⟩ := ngX_get n k hlt
      rw [ngX, List.getElem?_append_left (List.getElem?_eq_some_iff.1 h1).1, List.getElem?_append_left (List.getElem?_eq_some_iff.1 h2).1]
      exact ⟨h1, h2⟩
    · obtain rfl : n = k + 1 := by omega
      have := ngX_len k
      rw [ngX, if_neg (by omega), List.getElem?_append_right (by omega), List.getElem?_append_right (by omega), this]
      simp
theorem ngE_get : ∀ (n k : Nat), k < n → (ngE n)[k]? = some (if k = 0 then .agg [.sl false [], .sl false []] else .agg [.ref (2 * k) [] 1 k, .ref (2 * k + 1) [] 1 k])
  | 0, k, h => by omega
  | n + 1, k, h => by
    rcases Nat.lt_or_ge k n with hlt | hge
    · rw [ngE, List.getElem?_append_left (by rw [ngE_len]; exact hlt)]
      exact ngE_get n k hlt
    · obtain rfl : n = k := by omega
      rw [ngE, List.getElem?_append_right (by rw [ngE_len]; omega), ngE_len]
      simp
theorem ng_view (n : Nat) : Vw (ngL n) (.ref 0 [] n n) (.sl false ((nimG n).map posE)) := by
  refine Vw.ref (es := ngE n) (es' := ngE n) (T := 70) (sz := 2) rfl rfl (by simp [nimG_len]) fun i e y he hy => ?_
  have hi : i < n := by
    have := (List.getElem?_eq_some_iff.1 hy).1
    simp [nimG_len] at this; exact this
  have h1 : ((nimG n).map posE)[i]? = some (posE (iota i, iota i)) := by
    simp [nimG, hi]
  rw [h1] at hy
  cases hy
  rw [ngE_get n i hi] at he
  by_cases h0 : i = 0
  · subst h0
    rw [if_pos rfl] at he
    cases he
    refine ⟨rfl, fun j c d hc hd => ?_⟩
    rcases j with _ | _ | j
    · simp [posE, AV.cells, iota] at hc hd; subst hc hd; exact Vw.pur (.of (show pureB (.sl false []) = true from rfl))
    · simp [posE, AV.cells, iota] at hc hd; subst hc hd; exact Vw.pur (.of (show pureB (.sl false []) = true from rfl))
    · simp [AV.cells] at hc
  · rw [if_neg h0] at he
    cases he
    obtain ⟨k, rfl⟩ : ∃ k, i = k + 1 := ⟨i - 1, by omega⟩
    obtain ⟨g1, g2⟩ := ngX_get n k hi
    have e1 : (ngL n)[2 * (k + 1)]? = some (.vec 3 1 1 (ints (iota (k + 1)))) := g1
    have e2 : (ngL n)[2 * (k + 1) + 1]? = some (.vec 3 1 1 (ints (iota (k + 1)))) := g2
    refine ⟨rfl, fun j c d hc hd => ?_⟩
    rcases j with _ | _ | j
    · simp [posE, AV.cells] at hc hd; subst hc hd; exact Vw_ints e1 rfl (iota_len _).symm
    · simp [posE, AV.cells] at hc hd; subst hc hd; exact Vw_ints e2 rfl (iota_len _).symm
    · simp [AV.cells] at hc
theorem nimberGame_ok : Ct Try.prog 75 [.int .i64 39] [] (.sl false ((nimG 40).map posE)) [] := by
  have hw : IntKind.i64.wrap (39 + 1) = 40 := by rw [i64_id (by omega) (by omega)]; rfl
  refine Ct.by_ hmix [] Try.func75 rfl ?_
  simp only [run0, run1, run2, run3, run4, run5, run6, run7, run8, run9, run10, run11, run12, run13, run14, run15, run16, run17, run18, run19, run20, run21, run22, reduceCtorEq, Nat.reduceEqDiff, Nat.reduceAdd, Nat.reduceSub, Nat.reduceLeDiff, indexAddrA, indexRefA, appendA, strA, Nat.reduceMul, Nat.zero_mul, Nat.reduceMod, Int.reduceEq, Int.reduceLT, Int.reduceLE, Nat.reduceLT, Nat.lt_irrefl, Nat.reduceBEq, tys0, tys1, tys2, tys3, tys4, tys5, tys6, tys7, tys8, tys9, tys10, tys11, tys12, tys13, tys14, tys15, tys16, tys17, tys18, tys19, tys20, tys21, tys22, tys23, Try.ntmps75, Try.results75, hw]
  refine AWp.loop_inv (ι := Nat) (fun k => ⟨[.junk, .junk, nilV, .ref 0 [] k k, .ref 1 [] k k, .junk, .junk, .junk, .junk, .int .i64 40, .int .i64 k, .junk, .junk, .junk, .junk, .junk, .junk, .junk, .junk, .junk, .junk, .junk, .junk, .junk, .junk, .junk, .junk], ngL k⟩)
    (fun k => k ≤ 40) (fun k => 40 - k) 0 (by omega) ⟨by simp only [Int.natCast_zero]; repeat constructor, rfl⟩ ?_
  intro k hk
  refine W.sound hmix (E := []) ?_
  by_cases hk4 : k < 40
  case neg =>
    obtain rfl : k = 40 := by omega
    have e1 : ¬ (((40 : Nat) : Int) < 40) := by omega
    simp only [run0, run1, run2, run3, run4, run5, run6, run7, run8, run9, run10, run11, run12, run13, run14, run15, run16, run17, run18, run19, run20, run21, run22, reduceCtorEq, Nat.reduceEqDiff, Nat.reduceAdd, Nat.reduceSub, Nat.reduceLeDiff, indexAddrA, indexRefA, appendA, strA, Nat.reduceMul, Nat.zero_mul, Nat.reduceMod, Int.reduceEq, Int.reduceLT, Int.reduceLE, Nat.reduceLT, Nat.lt_irrefl, Nat.reduceBEq, tys0, tys1, tys2, tys3, tys4, tys5, tys6, tys7, tys8, tys9, tys10, tys11, tys12, tys13, tys14, tys15, tys16, tys17, tys18, tys19, tys20, tys21, tys22, tys23, Try.ntmps75, Try.results75, e1]
    exact Fin.value (ng_view 40)
  have e1 : (k : Int) < 40 := by omega
  have e5 : IntKind.i64.wrap ((k : Int) + 1) = ((k + 1 : Nat) : Int) := by rw [i64_id (by omega) (by omega)]; simp
  have f3 : k + 1 ≤ 137438953472 := by omega
  have f4 := ngE_noOwn k
  have f5 := ints_noOwn (iota k)
  have f6 := ngE_len k
  have f7 : (ints (iota k)).length = k := by simp [ints, iota_len]
  have hv : ∀ X, Vw (.vec 70 2 k (ngE k) :: .vec 3 1 k (ints (iota k)) :: X) (.ref 1 [] k k) (.sl false (ints (iota k))) := fun X => Vw_ints rfl rfl (iota_len k).symm
  by_cases h0 : k = 0
  · subst h0
    have c1 := cloneI_ok [] false (by simp)
    simp only [run0, run1, run2, run3, run4, run5, run6, run7, run8, run9, run10, run11, run12, run13, run14, run15, run16, run17, run18, run19, run20, run21, run22, reduceCtorEq, Nat.reduceEqDiff, Nat.reduceAdd, Nat.reduceSub, Nat.reduceLeDiff, indexAddrA, indexRefA, appendA, strA, Nat.reduceMul, Nat.zero_mul, Nat.reduceMod, Int.reduceEq, Int.reduceLT, Int.reduceLE, Nat.reduceLT, Nat.lt_irrefl, Nat.reduceBEq, tys0, tys1, tys2, tys3, tys4, tys5, tys6, tys7, tys8, tys9, tys10, tys11, tys12, tys13, tys14, tys15, tys16, tys17, tys18, tys19, tys20, tys21, tys22, tys23, Try.ntmps75, Try.results75, e1, ngL]
    refine RunL.lendV rfl rfl ok_f102 rfl c1 (.cons (hv _) .nil) rfl rfl ?_
    simp only [run0, run1, run2, run3, run4, run5, run6, run7, run8, run9, run10, run11, run12, run13, run14, run15, run16, run17, run18, run19, run20, run21, run22, reduceCtorEq, Nat.reduceEqDiff, Nat.reduceAdd, Nat.reduceSub, Nat.reduceLeDiff, indexAddrA, indexRefA, appendA, strA, Nat.reduceMul, Nat.zero_mul, Nat.reduceMod, Int.reduceEq, Int.reduceLT, Int.reduceLE, Nat.reduceLT, Nat.lt_irrefl, Nat.reduceBEq, tys0, tys1, tys2, tys3, tys4, tys5, tys6, tys7, tys8, tys9, tys10, tys11, tys12, tys13, tys14, tys15, tys16, tys17, tys18, tys19, tys20, tys21, tys22, tys23, Try.ntmps75, Try.results75, e1]
    refine RunL.lendV rfl rfl ok_f102 rfl c1 (.cons (hv _) .nil) rfl rfl ?_
    simp only [run0, run1, run2, run3, run4, run5, run6, run7, run8, run9, run10, run11, run12, run13, run14, run15, run16, run17, run18, run19, run20, run21, run22, reduceCtorEq, Nat.reduceEqDiff, Nat.reduceAdd, Nat.reduceSub, Nat.reduceLeDiff, indexAddrA, indexRefA, appendA, strA, Nat.reduceMul, Nat.zero_mul, Nat.reduceMod, Int.reduceEq, Int.reduceLT, Int.reduceLE, Nat.reduceLT, Nat.lt_irrefl, Nat.reduceBEq, tys0, tys1, tys2, tys3, tys4, tys5, tys6, tys7, tys8, tys9, tys10, tys11, tys12, tys13, tys14, tys15, tys16, tys17, tys18, tys19, tys20, tys21, tys22, tys23, Try.ntmps75, Try.results75, e5, f3, f4, f5, f6, f7]
    exact ⟨1, by omega, by omega, by repeat constructor, by simp [ngL, ngE, ngX, iota, ints]⟩
  · have hxl : (ngX k).length = 2 * (k - 1) := by
      obtain ⟨q, rfl⟩ : ∃ q, k = q + 1 := ⟨k - 1, by omega⟩
      exact ngX_len q
    have c1 := cloneO_ok (iota k) false (by intro h; have := congrArg List.length h; rw [iota_len] at this; exact h0 this) (by rw [iota_len]; omega)
    rw [iota_len] at c1
    have hsh := ints_sh
    have hN : ngL (k + 1) = .vec 70 2 (k + 1) (ngE k ++ [.agg [.ref (2 * k) [] 1 k, .ref (2 * k + 1) [] 1 k]]) :: .vec 3 1 (k + 1) (ints (iota k) ++ [.int .i64 k]) :: (ngX k ++ [.vec 3 1 1 (ints (iota k)), .vec 3 1 1 (ints (iota k))]) := by
      simp [ngL, ngE, ngX, h0, iota_succ, ints]
    simp only [run0, run1, run2, run3, run4, run5, run6, run7, run8, run9, run10, run11, run12, run13, run14, run15, run16, run17, run18, run19, run20, run21, run22, reduceCtorEq, Nat.reduceEqDiff, Nat.reduceAdd, Nat.reduceSub, Nat.reduceLeDiff, indexAddrA, indexRefA, appendA, strA, Nat.reduceMul, Nat.zero_mul, Nat.reduceMod, Int.reduceEq, Int.reduceLT, Int.reduceLE, Nat.reduceLT, Nat.lt_irrefl, Nat.reduceBEq, tys0, tys1, tys2, tys3, tys4, tys5, tys6, tys7, tys8, tys9, tys10, tys11, tys12, tys13, tys14, tys15, tys16, tys17, tys18, tys19, tys20, tys21, tys22, tys23, Try.ntmps75, Try.results75, e1, ngL]
    refine RunL.lendGV rfl rfl ok_f102 rfl c1 (.cons (hv _) .nil) rfl (ints_okS _ _ _ _) rfl ?_
    simp only [run0, run1, run2, run3, run4, run5, run6, run7, run8, run9, run10, run11, run12, run13, run14, run15, run16, run17, run18, run19, run20, run21, run22, reduceCtorEq, Nat.reduceEqDiff, Nat.reduceAdd, Nat.reduceSub, Nat.reduceLeDiff, indexAddrA, indexRefA, appendA, strA, Nat.reduceMul, Nat.zero_mul, Nat.reduceMod, Int.reduceEq, Int.reduceLT, Int.reduceLE, Nat.reduceLT, Nat.lt_irrefl, Nat.reduceBEq, tys0, tys1, tys2, tys3, tys4, tys5, tys6, tys7, tys8, tys9, tys10, tys11, tys12, tys13, tys14, tys15, tys16, tys17, tys18, tys19, tys20, tys21, tys22, tys23, Try.ntmps75, Try.results75, e1, shA, shO, hsh]
    refine RunL.lendGV rfl rfl ok_f102 rfl c1 (.cons (hv _) .nil) rfl (ints_okS _ _ _ _) rfl ?_
    simp only [run0, run1, run2, run3, run4, run5, run6, run7, run8, run9, run10, run11, run12, run13, run14, run15, run16, run17, run18, run19, run20, run21, run22, reduceCtorEq, Nat.reduceEqDiff, Nat.reduceAdd, Nat.reduceSub, Nat.reduceLeDiff, indexAddrA, indexRefA, appendA, strA, Nat.reduceMul, Nat.zero_mul, Nat.reduceMod, Int.reduceEq, Int.reduceLT, Int.reduceLE, Nat.reduceLT, Nat.lt_irrefl, Nat.reduceBEq, tys0, tys1, tys2, tys3, tys4, tys5, tys6, tys7, tys8, tys9, tys10, tys11, tys12, tys13, tys14, tys15, tys16, tys17, tys18, tys19, tys20, tys21, tys22, tys23, Try.ntmps75, Try.results75, e5, f3, f4, f5, f6, f7, shA, shO, hsh, hxl]
    exact ⟨k + 1, by omega, by omega, by repeat constructor, by unfold ngL at hN; rw [hN, show 2 * (k - 1) + 1 + 1 = 2 * k by omega]⟩

end Go.Proofs.Ytllcljajlemmaaa
/-
  Positions with rows of their own: seen as values, marked, held.
-/
namespace Go.Proofs.Ytllcljajlemmaaa
open Go K
set_option linter.unusedSimpArgs false
set_option linter.unusedVariables false
set_option maxHeartbeats 1600000
set_option maxRecDepth 8000

theorem ints_okTO (l : List Int) (T : TypeId) (z g : Nat) : okTO (.vec T z g (ints l)) = true := by
  have h : ∀ l : List Int, okTL (ints l) = true := fun l => by
    induction l with
    | nil => rfl
    | cons a r ih => simp only [ints, List.map_cons] at ih ⊢; simp [okTL, okT, ih]
  simp [okTO, h, ints_noOwn]
def OwnI (L : List AObj) (l : List Int) (x : AV) (S : List Nat) : Prop := (l = [] ∧ x = nilV ∧ S = []) ∨ ∃ id g, x = .ref id [] g l.length ∧ L[id]? = some (.vec 3 1 g (ints l)) ∧ S = [id]
/-- Each row of ints among 'S' lies in 'L2' as in 'L'. -/
def Kept (S : List Nat) (L L2 : List AObj) : Prop := ∀ id ∈ S, ∀ T z g es, L[id]? = some (.vec T z g es) → L2[id]? = some (.vec T z g es)
theorem Kept.more (S : List Nat) (L X : List AObj) : Kept S L (L ++ X) := fun id _ T z g es hL => by rw [List.getElem?_append_left (List.getElem?_eq_some_iff.1 hL).1]; exact hL
theorem OwnI.mono {L L' : List AObj} {l : List Int} {x : AV} {S : List Nat} (h : OwnI L l x S) (hf : Kept S L L') : OwnI L' l x S := by
  rcases h with h | ⟨id, g, h1, h2, rfl⟩
  · exact .inl h
  · exact .inr ⟨id, g, h1, hf id (by simp) _ _ _ _ h2, rfl⟩
theorem OwnI.keep {L : List AObj} {l : List Int} {x : AV} {S S' : List Nat} (h : OwnI L l x S) (hS : ∀ id ∈ S, id ∈ S') : OwnI (keepS S' L) l x S := by
  rcases h with h | ⟨id, g, h1, h2, rfl⟩
  · exact .inl h
  · exact .inr ⟨id, g, h1, keepS_in (hS id (by simp)) (ints_okTO _ _ _ _) h2, rfl⟩
theorem OwnI.sh {M L' : List AObj} {k : Nat} (hg : ∀ id, L'[id + k]? = (M[id]?).map (shO k)) {l : List Int} {x : AV} {S : List Nat} (h : OwnI M l x S) : OwnI L' l (shA k x) (S.map (· + k)) := by
  rcases h with ⟨h5, rfl, rfl⟩ | ⟨id, g, rfl, h2, rfl⟩
  · exact .inl ⟨h5, rfl, rfl⟩
  · refine .inr ⟨id + k, g, by simp [shA], ?_, by simp⟩
    rw [hg, h2]
    simp [shO, shL_eq, ints, shA, Function.comp_def]
theorem OwnI.lt {L : List AObj} {l : List Int} {x : AV} {S : List Nat} (h : OwnI L l x S) : ∀ id ∈ S, ∃ T z g es, L[id]? = some (.vec T z g es) := fun i hi => by
  rcases h with ⟨_, _, rfl⟩ | ⟨id, g, rfl, h2, rfl⟩
  · simp at hi
  · simp at hi; subst hi; exact ⟨_, _, _, _, h2⟩
theorem OwnI.okT {L : List AObj} {l : List Int} {x : AV} {S : List Nat} (h : OwnI L l x S) : okT x = true := by
  rcases h with ⟨_, rfl, _⟩ | ⟨id, g, rfl, h2, rfl⟩ <;> rfl
theorem OwnI.one {L : List AObj} {l : List Int} {x : AV} {S : List Nat} (h : OwnI L l x S) : AV.solid x = true ∧ x.cells = [x] ∧ (∀ xs, x ≠ .sl true xs) := by
  rcases h with ⟨_, rfl, _⟩ | ⟨id, g, rfl, h2, rfl⟩
  · exact ⟨rfl, rfl, fun _ h => by cases h⟩
  · exact ⟨rfl, rfl, fun _ h => by cases h⟩
theorem OwnI.view {L : List AObj} {l : List Int} {x : AV} {S : List Nat} (h : OwnI L l x S) : Vw L x (.sl false (ints l)) := by
  rcases h with ⟨rfl, rfl, _⟩ | ⟨id, g, rfl, h2, _⟩
  · exact Vw.nil false
  · exact Vw_ints h2 rfl rfl
def OwnPE (L : List AObj) : List GP → List AV → List Nat → Prop
  | [], es, S => es = [] ∧ S = []
  | p :: ps, es, S => ∃ a b es' S1 S2 S', es = .agg [a, b] :: es' ∧ S = S1 ++ (S2 ++ S') ∧ OwnI L p.1 a S1 ∧ OwnI L p.2 b S2 ∧ OwnPE L ps es' S'
theorem Kept.app {S1 S2 : List Nat} {L L2 : List AObj} (h : Kept (S1 ++ S2) L L2) : Kept S1 L L2 ∧ Kept S2 L L2 := ⟨fun id hi => h id (by simp [hi]), fun id hi => h id (by simp [hi])⟩
theorem OwnPE.mono {L L' : List AObj} : ∀ {l : List GP} {es : List AV} {S : List Nat}, OwnPE L l es S → Kept S L L' → OwnPE L' l es S
  | [], _, _, h, _ => h
  | p :: ps, _, _, ⟨a, b, es', S1, S2, S', he, hS, h1, h2, h3⟩, hf => by
    subst hS
    exact ⟨a, b, es', S1, S2, S', he, rfl, h1.mono hf.app.1, h2.mono hf.app.2.app.1, h3.mono hf.app.2.app.2⟩
theorem OwnPE.len {L : List AObj} : ∀ {l : List GP} {es : List AV} {S : List Nat}, OwnPE L l es S → es.length = l.length
  | [], _, _, h => by rw [h.1]; rfl
  | p :: ps, _, _, ⟨a, b, es', S1, S2, S', he, hS, h1, h2, h3⟩ => by rw [he]; simp [h3.len]
theorem OwnPE.lt {L : List AObj} : ∀ {l : List GP} {es : List AV} {S : List Nat}, OwnPE L l es S → ∀ id ∈ S, ∃ T z g es, L[id]? = some (.vec T z g es)
  | [], _, _, h, id, hi => by rw [h.2] at hi; cases hi
  | p :: ps, _, _, ⟨a, b, es', S1, S2, S', he, hS, h1, h2, h3⟩, id, hi => by
    rw [hS] at hi
    rcases List.mem_append.1 hi with hi | hi
    · exact h1.lt id hi
    rcases List.mem_append.1 hi with hi | hi
    · exact h2.lt id hi
    · exact h3.lt id hi
theorem OwnPE.snoc {L : List AObj} : ∀ {l : List GP} {es : List AV} {S : List Nat}, OwnPE L l es S → ∀ {p : GP} {a b : AV} {S1 S2 : List Nat}, OwnI L p.1 a S1 → OwnI L p.2 b S2 → OwnPE L (l ++ [p]) (es ++ [.agg [a, b]]) (S ++ (S1 ++ S2))
  | [], _, _, h, p, a, b, S1, S2, h1, h2 => by
    obtain ⟨rfl, rfl⟩ := h
    exact ⟨a, b, [], S1, S2, [], rfl, by simp, h1, h2, rfl, rfl⟩
  | q :: ps, _, _, ⟨a', b', es', T1, T2, S', he, hS, k1, k2, k3⟩, p, a, b, S1, S2, h1, h2 =>
    ⟨a', b', _, T1, T2, _, by rw [he]; rfl, by rw [hS]; simp, k1, k2, k3.snoc h1 h2⟩
theorem OwnPE.okTL {L : List AObj} : ∀ {l : List GP} {es : List AV} {S : List Nat}, OwnPE L l es S → okTL es = true
  | [], _, _, h => by rw [h.1]; rfl
  | p :: ps, _, _, ⟨a, b, es', S1, S2, S', he, hS, h1, h2, h3⟩ => by rw [he]; simp [K.okTL, K.okT, h1.okT, h2.okT, h3.okTL]
theorem OwnPE.noOwn {L : List AObj} : ∀ {l : List GP} {es : List AV} {S : List Nat}, OwnPE L l es S → noOwn es = true
  | [], _, _, h => by rw [h.1]; rfl
  | p :: ps, _, _, ⟨a, b, es', S1, S2, S', he, hS, h1, h2, h3⟩ => by
    have h4 := h3.noOwn
    rcases h1 with ⟨_, rfl, _⟩ | ⟨id, g, rfl, _, _⟩ <;> rcases h2 with ⟨_, rfl, _⟩ | ⟨id, g, rfl, _, _⟩ <;> (rw [he]; simp only [K.noOwn, List.all_cons] at h4 ⊢; rw [h4]; rfl)
theorem OwnPE.keep {L : List AObj} {S' : List Nat} : ∀ {l : List GP} {es : List AV} {S : List Nat}, OwnPE L l es S → (∀ id ∈ S, id ∈ S') → OwnPE (keepS S' L) l es S
  | [], _, _, h, _ => h
  | p :: ps, _, _, ⟨a, b, es', S1, S2, T, he, hS, h1, h2, h3⟩, hs => by
    subst hS
    exact ⟨a, b, es', S1, S2, T, he, rfl, h1.keep fun id hi => hs id (by simp [hi]), h2.keep fun id hi => hs id (by simp [hi]), h3.keep fun id hi => hs id (by simp [hi])⟩
theorem OwnPE.sh {M L' : List AObj} {k : Nat} (hg : ∀ id, L'[id + k]? = (M[id]?).map (shO k)) : ∀ {l : List GP} {es : List AV} {S : List Nat}, OwnPE M l es S → OwnPE L' l (es.map (shA k)) (S.map (· + k))
  | [], _, _, h => by rw [h.1, h.2]; exact ⟨rfl, rfl⟩
  | p :: ps, _, _, ⟨a, b, es', S1, S2, S', he, hS, h1, h2, h3⟩ =>
    ⟨shA k a, shA k b, es'.map (shA k), _, _, _, by rw [he]; simp [shA, shL_eq], by rw [hS]; simp, h1.sh hg, h2.sh hg, h3.sh hg⟩
theorem OwnPE.at_ {L : List AObj} : ∀ {l : List GP} {es : List AV} {S : List Nat}, OwnPE L l es S → ∀ (i : Nat) (p : GP), l[i]? = some p → ∃ a b S1 S2, es[i]? = some (.agg [a, b]) ∧ OwnI L p.1 a S1 ∧ OwnI L p.2 b S2
  | [], _, _, _, i, p, hi => by simp at hi
  | q :: ps, _, _, ⟨a, b, es', S1, S2, S', he, hS, h1, h2, h3⟩, i, p, hi => by
    cases i with
    | zero => simp at hi; subst hi; exact ⟨a, b, S1, S2, by rw [he]; rfl, h1, h2⟩
    | succ i =>
      obtain ⟨a, b, S1, S2, k1, k2, k3⟩ := h3.at_ i p (by simpa using hi)
      exact ⟨a, b, S1, S2, by rw [he]; simpa using k1, k2, k3⟩
theorem OwnI.viewC {L : List AObj} {l : List Int} {x : AV} {S : List Nat} (h : OwnI L l x S) (id : Nat) (q : Pth) (g : Nat) : Vw L (viewC id q g x) (.sl false (ints l)) := by
  have := h.view
  rcases h with ⟨rfl, rfl, _⟩ | ⟨id, g, rfl, h2, _⟩ <;> exact this
def OwnP (L : List AObj) (l : List GP) (x : AV) (S : List Nat) : Prop := (l = [] ∧ x = nilV ∧ S = []) ∨ ∃ id g es S', x = .ref id [] g l.length ∧ L[id]? = some (.vec 70 2 g es) ∧ OwnPE L l es S' ∧ S = id :: S'
theorem OwnP.view {L : List AObj} {l : List GP} {x : AV} {S : List Nat} (h : OwnP L l x S) : Vw L x (.sl false (l.map posE)) := by
  rcases h with ⟨rfl, rfl, _⟩ | ⟨id, g, es, S', rfl, h2, h3, _⟩
  · exact Vw.nil false
  · refine Vw.ref h2 rfl (by simp) fun i e y he hy => ?_
    rw [List.getElem?_map] at hy
    cases hp : l[i]? with
    | none => rw [hp] at hy; cases hy
    | some p =>
      rw [hp] at hy
      cases hy
      obtain ⟨a, b, S1, S2, k1, k2, k3⟩ := h3.at_ i p hp
      rw [k1] at he
      cases he
      refine ⟨rfl, fun j c d hc hd => ?_⟩
      rcases j with _ | _ | j
      · simp [posE, AV.cells] at hc hd; subst hc hd; exact k2.viewC _ _ _
      · simp [posE, AV.cells] at hc hd; subst hc hd; exact k3.viewC _ _ _
      · simp [AV.cells] at hc
theorem OwnP.okT {L : List AObj} {l : List GP} {x : AV} {S : List Nat} (h : OwnP L l x S) : okT x = true := by
  rcases h with ⟨_, rfl, _⟩ | ⟨id, g, es, S', rfl, h2, h3, _⟩ <;> rfl
theorem OwnP.lt {L : List AObj} {l : List GP} {x : AV} {S : List Nat} (h : OwnP L l x S) : ∀ id ∈ S, ∃ T z g es, L[id]? = some (.vec T z g es) := fun i hi => by
  rcases h with ⟨_, _, rfl⟩ | ⟨id, g, es, S', rfl, h2, h3, rfl⟩
  · cases hi
  · rcases List.mem_cons.1 hi with rfl | hi
    · exact ⟨_, _, _, _, h2⟩
    · exact h3.lt i hi
theorem OwnP.mono {L L' : List AObj} {l : List GP} {x : AV} {S : List Nat} (h : OwnP L l x S) (hf : Kept S L L') : OwnP L' l x S := by
  rcases h with h | ⟨id, g, es, S', rfl, h2, h3, rfl⟩
  · exact .inl h
  · exact .inr ⟨id, g, es, S', rfl, hf id (by simp) _ _ _ _ h2, h3.mono fun i hi => hf i (by simp [hi]), rfl⟩
theorem OwnP.keep {L : List AObj} {l : List GP} {x : AV} {S S' : List Nat} (h : OwnP L l x S) (hS : ∀ id ∈ S, id ∈ S') : OwnP (keepS S' L) l x S := by
  rcases h with h | ⟨id, g, es, T, rfl, h2, h3, rfl⟩
  · exact .inl h
  · refine .inr ⟨id, g, es, T, rfl, keepS_in (hS id (by simp)) ?_ h2, h3.keep fun i hi => hS i (by simp [hi]), rfl⟩
    simp [okTO, h3.okTL, h3.noOwn]
theorem OwnP.sh {M L' : List AObj} {k : Nat} (hg : ∀ id, L'[id + k]? = (M[id]?).map (shO k)) {l : List GP} {x : AV} {S : List Nat} (h : OwnP M l x S) : OwnP L' l (shA k x) (S.map (· + k)) := by
  rcases h with ⟨h5, rfl, rfl⟩ | ⟨id, g, es, T, rfl, h2, h3, rfl⟩
  · exact .inl ⟨h5, rfl, rfl⟩
  · refine .inr ⟨id + k, g, es.map (shA k), T.map (· + k), by simp [shA], ?_, h3.sh hg, by simp⟩
    rw [hg, h2]
    simp [shO, shL_eq]

end Go.Proofs.Ytllcljajlemmaaa
/-
  Nimbers of games: the reference's game of nimbers, and two games joined.
-/
namespace Go.Proofs.Ytllcljajlemmaaa
open Go K
set_option linter.unusedSimpArgs false
set_option linter.unusedVariables false
set_option maxHeartbeats 1600000
set_option maxRecDepth 8000

def gnE : Nat → List AV
  | 0 => []
  | k + 1 => gnE k ++ [.agg [.ref (2 * k + 2) [] 1 k, .ref (2 * k + 3) [] 1 k]]
def gnX : Nat → List AObj
  | 0 => []
  | k + 1 => gnX k ++ [.vec 3 1 1 (ints (iota k)), .vec 3 1 1 (ints (iota k))]
def gnL (k : Nat) : List AObj := .vec 70 2 k (gnE k) :: .vec 3 1 k (ints (iota k)) :: gnX k
theorem gnX_len : ∀ k, (gnX k).length = 2 * k
  | 0 => rfl
  | k + 1 => by rw [gnX, List.length_append, gnX_len k]; simp; omega
theorem gnX_get : ∀ (n k : Nat), k < n → (gnX n)[2 * k]? = some (.vec 3 1 1 (ints (iota k))) ∧ (gnX n)[2 * k + 1]? = some (.vec 3 1 1 (ints (iota k)))
  | 0, k, h => by omega
  | n + 1, k, h => by
    rcases Nat.lt_or_ge k n with hlt | hge
    · obtain ⟨h1, h2⟩ := gnX_get n k hlt
      rw [gnX, List.getElem?_append_left (List.getElem?_eq_some_iff.1 h1).1, List.getElem?_append_left (List.getElem?_eq_some_iff.1 h2).1]
      exact ⟨h1, h2⟩
    · obtain rfl : n = k := by omega
      have := gnX_len n
      rw [gnX, List.getElem?_append_right (by omega), List.getElem?_append_right (by omega), this]
      simp
theorem gn_own : ∀ (k n : Nat), k ≤ n → ∃ S, OwnPE (gnL n) (nimG k) (gnE k) S
  | 0, n, _ => ⟨[], rfl, rfl⟩
  | k + 1, n, h => by
    obtain ⟨S, hS⟩ := gn_own k n (by omega)
    obtain ⟨g1, g2⟩ := gnX_get n k (by omega)
    have e1 : (gnL n)[2 * k + 2]? = some (.vec 3 1 1 (ints (iota k))) := g1
    have e2 : (gnL n)[2 * k + 3]? = some (.vec 3 1 1 (ints (iota k))) := g2
    rw [nimG_succ, gnE]
    exact ⟨_, hS.snoc (p := (iota k, iota k)) (.inr ⟨_, 1, by rw [iota_len], e1, rfl⟩) (.inr ⟨_, 1, by rw [iota_len], e2, rfl⟩)⟩
theorem gn_view (n : Nat) : Vw (gnL n) (.ref 0 [] n n) (.sl false ((nimG n).map posE)) := by
  obtain ⟨S, hS⟩ := gn_own n n (Nat.le_refl _)
  have := OwnP.view (L := gnL n) (l := nimG n) (x := .ref 0 [] n n) (S := 0 :: S) (.inr ⟨0, n, gnE n, S, by rw [nimG_len], rfl, hS, rfl⟩)
  exact this
theorem gaNim_ok : Ct Try.prog 73 [.int .i64 39] [] (.sl false ((nimG 40).map posE)) [] := by
  refine Ct.by_ hmix [] Try.func73 rfl ?_
  simp only [run0, run1, run2, run3, run4, run5, run6, run7, run8, run9, run10, run11, run12, run13, run14, run15, run16, run17, run18, run19, run20, run21, run22, reduceCtorEq, Nat.reduceEqDiff, Nat.reduceAdd, Nat.reduceSub, Nat.reduceLeDiff, indexAddrA, indexRefA, appendA, strA, Nat.reduceMul, Nat.zero_mul, Nat.reduceMod, Int.reduceEq, Int.reduceLT, Int.reduceLE, Nat.reduceLT, Nat.lt_irrefl, Nat.reduceBEq, tys0, tys1, tys2, tys3, tys4, tys5, tys6, tys7, tys8, tys9, tys10, tys11, tys12, tys13, tys14, tys15, tys16, tys17, tys18, tys19, tys20, tys21, tys22, tys23, Try.ntmps73, Try.results73]
  refine AWp.nil 3 70 2 rfl ?_
  refine AWp.nil 4 3 1 rfl ?_
  refine AWp.loop_inv (ι := Nat) (fun k => ⟨[.int .i64 39, .junk, nilV, .ref 0 [] k k, .ref 1 [] k k, .int .i64 k, .junk, .junk, .junk, .junk, .junk, .junk, .junk, .junk, .junk, .junk, .junk, .junk, .junk, .junk, .junk, .junk, .junk, .junk], gnL k⟩)
    (fun k => k ≤ 40) (fun k => 40 - k) 0 (by omega) ⟨by simp only [Int.natCast_zero]; repeat constructor, rfl⟩ ?_
  intro k hk
  refine W.sound hmix (E := []) ?_
  by_cases hk4 : k < 40
  case neg =>
    obtain rfl : k = 40 := by omega
    have e1 : ¬ (((40 : Nat) : Int) ≤ 39) := by omega
    simp only [run0, run1, run2, run3, run4, run5, run6, run7, run8, run9, run10, run11, run12, run13, run14, run15, run16, run17, run18, run19, run20, run21, run22, reduceCtorEq, Nat.reduceEqDiff, Nat.reduceAdd, Nat.reduceSub, Nat.reduceLeDiff, indexAddrA, indexRefA, appendA, strA, Nat.reduceMul, Nat.zero_mul, Nat.reduceMod, Int.reduceEq, Int.reduceLT, Int.reduceLE, Nat.reduceLT, Nat.lt_irrefl, Nat.reduceBEq, tys0, tys1, tys2, tys3, tys4, tys5, tys6, tys7, tys8, tys9, tys10, tys11, tys12, tys13, tys14, tys15, tys16, tys17, tys18, tys19, tys20, tys21, tys22, tys23, Try.ntmps73, Try.results73, e1]
    exact Fin.value (gn_view 40)
  have e1 : (k : Int) ≤ 39 := by omega
  have e5 : IntKind.i64.wrap ((k : Int) + 1) = ((k + 1 : Nat) : Int) := by rw [i64_id (by omega) (by omega)]; simp
  have f3 : k + 1 ≤ 137438953472 := by omega
  obtain ⟨S, hS⟩ := gn_own k k (Nat.le_refl _)
  have f4 := hS.noOwn
  have f5 := ints_noOwn (iota k)
  have f6 : (gnE k).length = k := by rw [hS.len, nimG_len]
  have f7 : (ints (iota k)).length = k := by simp [ints, iota_len]
  have hv : ∀ X, Vw (.vec 70 2 k (gnE k) :: .vec 3 1 k (ints (iota k)) :: X) (.ref 1 [] k k) (.sl false (ints (iota k))) := fun X => Vw_ints rfl rfl (iota_len k).symm
  have hxl := gnX_len k
  have c1 := l1OwnI_ok (iota k) (by rw [iota_len]; omega)
  rw [iota_len] at c1
  have hsh := ints_sh
  have hN : gnL (k + 1) = .vec 70 2 (k + 1) (gnE k ++ [.agg [.ref (2 * k + 2) [] 1 k, .ref (2 * k + 3) [] 1 k]]) :: .vec 3 1 (k + 1) (ints (iota k) ++ [.int .i64 k]) :: (gnX k ++ [.vec 3 1 1 (ints (iota k)), .vec 3 1 1 (ints (iota k))]) := by
    simp [gnL, gnE, gnX, iota_succ, ints]
  simp only [run0, run1, run2, run3, run4, run5, run6, run7, run8, run9, run10, run11, run12, run13, run14, run15, run16, run17, run18, run19, run20, run21, run22, reduceCtorEq, Nat.reduceEqDiff, Nat.reduceAdd, Nat.reduceSub, Nat.reduceLeDiff, indexAddrA, indexRefA, appendA, strA, Nat.reduceMul, Nat.zero_mul, Nat.reduceMod, Int.reduceEq, Int.reduceLT, Int.reduceLE, Nat.reduceLT, Nat.lt_irrefl, Nat.reduceBEq, tys0, tys1, tys2, tys3, tys4, tys5, tys6, tys7, tys8, tys9, tys10, tys11, tys12, tys13, tys14, tys15, tys16, tys17, tys18, tys19, tys20, tys21, tys22, tys23, Try.ntmps73, Try.results73, e1, gnL]
  refine RunL.lendGV rfl rfl ok_f57 rfl c1 (.cons (hv _) .nil) rfl (ints_okS _ _ _ _) rfl ?_
  simp only [run0, run1, run2, run3, run4, run5, run6, run7, run8, run9, run10, run11, run12, run13, run14, run15, run16, run17, run18, run19, run20, run21, run22, reduceCtorEq, Nat.reduceEqDiff, Nat.reduceAdd, Nat.reduceSub, Nat.reduceLeDiff, indexAddrA, indexRefA, appendA, strA, Nat.reduceMul, Nat.zero_mul, Nat.reduceMod, Int.reduceEq, Int.reduceLT, Int.reduceLE, Nat.reduceLT, Nat.lt_irrefl, Nat.reduceBEq, tys0, tys1, tys2, tys3, tys4, tys5, tys6, tys7, tys8, tys9, tys10, tys11, tys12, tys13, tys14, tys15, tys16, tys17, tys18, tys19, tys20, tys21, tys22, tys23, Try.ntmps73, Try.results73, e1, shA, shO, hsh]
  refine RunL.lendGV rfl rfl ok_f57 rfl c1 (.cons (hv _) .nil) rfl (ints_okS _ _ _ _) rfl ?_
  simp only [run0, run1, run2, run3, run4, run5, run6, run7, run8, run9, run10, run11, run12, run13, run14, run15, run16, run17, run18, run19, run20, run21, run22, reduceCtorEq, Nat.reduceEqDiff, Nat.reduceAdd, Nat.reduceSub, Nat.reduceLeDiff, indexAddrA, indexRefA, appendA, strA, Nat.reduceMul, Nat.zero_mul, Nat.reduceMod, Int.reduceEq, Int.reduceLT, Int.reduceLE, Nat.reduceLT, Nat.lt_irrefl, Nat.reduceBEq, tys0, tys1, tys2, tys3, tys4, tys5, tys6, tys7, tys8, tys9, tys10, tys11, tys12, tys13, tys14, tys15, tys16, tys17, tys18, tys19, tys20, tys21, tys22, tys23, Try.ntmps73, Try.results73, e5, f3, f4, f5, f6, f7, shA, shO, hsh, hxl]
  exact ⟨k + 1, by omega, by omega, by repeat constructor, by unfold gnL at hN; rw [hN]⟩

/-! ### two games joined -/
def mvL (m : Nat) (l : List Int) : List Int := l.map fun x => x + (m : Int)
theorem mvL_len (m : Nat) (l : List Int) : (mvL m l).length = l.length := by simp [mvL]
def mvP (m : Nat) (p : GP) : GP := (mvL m p.1, mvL m p.2)
def joinG (g h : List GP) : List GP := g ++ h.map (mvP g.length)
/-- Own rows of positions behind positions that are values. -/
def mixV (L : List AObj) (g l : List GP) (es : List AV) (S : List Nat) : Prop := ∃ es', es = g.map posE ++ es' ∧ OwnPE L l es' S
theorem mixV.len {L : List AObj} {g l : List GP} {es : List AV} {S : List Nat} (h : mixV L g l es S) : es.length = g.length + l.length := by
  obtain ⟨es', rfl, h⟩ := h
  simp [h.len]
theorem mixV.noOwn {L : List AObj} {g l : List GP} {es : List AV} {S : List Nat} (h : mixV L g l es S) : noOwn es = true := by
  obtain ⟨es', rfl, h⟩ := h
  have h1 := posL_noOwn g
  have h2 := h.noOwn
  unfold K.noOwn at *
  rw [List.all_append, h1, h2]; rfl
theorem mixV.view {L : List AObj} {g l : List GP} {es : List AV} {S : List Nat} {id gn n : Nat} (h : mixV L g l es S) (hL : L[id]? = some (.vec 70 2 gn es)) (hn : n = g.length + l.length) : Vw L (.ref id [] gn n) (.sl false ((g ++ l).map posE)) := by
  obtain ⟨es', rfl, h⟩ := h
  refine Vw.ref hL rfl (by simp [hn]) fun i e y he hy => ?_
  by_cases hi : i < g.length
  · rw [List.getElem?_append_left (by simpa using hi)] at he
    rw [List.map_append, List.getElem?_append_left (by simpa using hi)] at hy
    rw [he] at hy
    cases hy
    refine ⟨rfl, fun j c d hc hd => ?_⟩
    rw [hc] at hd
    cases hd
    rw [List.getElem?_map] at he
    obtain ⟨p, hp, rfl⟩ := Option.map_eq_some_iff.1 he
    rcases j with _ | _ | j
    · simp [posE, AV.cells] at hc; subst hc; exact Vw.pur (.of (show pureB (.sl false (ints _)) = true by simp only [pureB, ints_pure]))
    · simp [posE, AV.cells] at hc; subst hc; exact Vw.pur (.of (show pureB (.sl false (ints _)) = true by simp only [pureB, ints_pure]))
    · simp [posE, AV.cells] at hc
  · rw [List.getElem?_append_right (by simp; omega), List.length_map] at he
    rw [List.map_append, List.getElem?_append_right (by simp; omega), List.length_map, List.getElem?_map] at hy
    obtain ⟨p, hp, rfl⟩ := Option.map_eq_some_iff.1 hy
    obtain ⟨a, b, S1, S2, k1, k2, k3⟩ := h.at_ _ p hp
    rw [k1] at he
    cases he
    refine ⟨rfl, fun j c d hc hd => ?_⟩
    rcases j with _ | _ | j
    · simp [posE, AV.cells] at hc hd; subst hc hd; exact k2.viewC _ _ _
    · simp [posE, AV.cells] at hc hd; subst hc hd; exact k3.viewC _ _ _
    · simp [AV.cells] at hc
theorem mixV.next {L X : List AObj} {g l : List GP} {es : List AV} {S : List Nat} (h : mixV L g l es S) (hk : Kept S L X) {p : GP} {a b : AV} {S1 S2 : List Nat} (h1 : OwnI X p.1 a S1) (h2 : OwnI X p.2 b S2) :
    mixV X g (l ++ [p]) (es ++ [.agg [a, b]]) (S ++ (S1 ++ S2)) := by
  obtain ⟨es', rfl, h⟩ := h
  exact ⟨es' ++ [.agg [a, b]], by rw [List.append_assoc], (h.mono hk).snoc h1 h2⟩

end Go.Proofs.Ytllcljajlemmaaa
/-
  Nimbers of games: the reference joins two games.
-/
namespace Go.Proofs.Ytllcljajlemmaaa
open Go K
set_option linter.unusedSimpArgs false
set_option linter.unusedVariables false
set_option maxHeartbeats 1600000
set_option maxRecDepth 8000

structure JnS where
  d : List GP
  r : List GP
  es : List AV
  X : List AObj
theorem gaJoined_ok (g h : List GP) (lg : g.length ≤ 1048576) (lh : h.length ≤ 1048576) (sh : ∀ p ∈ h, p.1.length ≤ 1000 ∧ p.2.length ≤ 1000 ∧ (∀ x ∈ p.1, 0 ≤ x ∧ x ≤ 1000) ∧ ∀ x ∈ p.2, 0 ≤ x ∧ x ≤ 1000) :
    Ct Try.prog 72 [.sl false (g.map posE), .sl false (h.map posE)] [] (.sl false ((joinG g h).map posE)) [] := by
  have f3 : g.length ≤ 137438953472 := by omega
  have f4 := posL_noOwn g
  have f5 := poss_two g
  refine Ct.by_ hmix [] Try.func72 rfl ?_
  simp only [run0, run1, run2, run3, run4, run5, run6, run7, run8, run9, run10, run11, run12, run13, run14, run15, run16, run17, run18, run19, run20, run21, run22, reduceCtorEq, Nat.reduceEqDiff, Nat.reduceAdd, Nat.reduceSub, Nat.reduceLeDiff, indexAddrA, indexRefA, appendA, strA, Nat.reduceMul, Nat.zero_mul, Nat.reduceMod, Int.reduceEq, Int.reduceLT, Int.reduceLE, Nat.reduceLT, Nat.lt_irrefl, Nat.reduceBEq, tys0, tys1, tys2, tys3, tys4, tys5, tys6, tys7, tys8, tys9, tys10, tys11, tys12, tys13, tys14, tys15, tys16, tys17, tys18, tys19, tys20, tys21, tys22, tys23, Try.ntmps72, Try.results72, List.length_map, f3, f4, f5, Nat.zero_add, List.nil_append]
  refine AWp.loop_inv (ι := JnS) (fun q => ⟨[.sl false (g.map posE), .junk, .junk, .junk, nilV, .ref 0 [] (1 + q.d.length) (g.length + q.d.length), .junk, .junk, .junk, .junk, .junk, .junk, .junk, .junk, .junk, .junk, .sl false (h.map posE), .int .i64 h.length, .int .i64 q.d.length, .junk, .junk, .junk, .junk, .junk, .junk, .junk, .junk, .junk, .junk, .junk, .junk, .junk, .junk, .junk, .junk, .junk, .junk, .junk, .junk, .junk, .junk, .junk, .junk, .junk, .junk, .junk, .junk, .junk, .junk, .junk, .junk, .junk, .junk, .junk, .junk, .junk, .junk, .junk, .junk, .junk, .junk, .junk, .junk], .vec 70 2 (1 + q.d.length) q.es :: q.X⟩)
    (fun q => h = q.d ++ q.r ∧ ∃ S, mixV (.vec 70 2 (1 + q.d.length) q.es :: q.X) g (q.d.map (mvP g.length)) q.es S ∧ ∀ i ∈ S, 1 ≤ i) (fun q => q.r.length) ⟨[], h, g.map posE, []⟩ ⟨rfl, [], ⟨[], by simp, rfl, rfl⟩, by simp⟩
    ⟨by simp only [List.length_nil, Int.natCast_zero, Nat.add_zero]; repeat constructor, rfl⟩ ?_
  rintro ⟨d, r, es, X⟩ ⟨ha, S, hM, hS⟩
  refine W.sound hmix (E := []) ?_
  simp only at ha hM hS
  cases r with
  | nil =>
    have e1 := pos_end ha
    rw [List.append_nil] at ha
    subst ha
    simp only [run0, run1, run2, run3, run4, run5, run6, run7, run8, run9, run10, run11, run12, run13, run14, run15, run16, run17, run18, run19, run20, run21, run22, reduceCtorEq, Nat.reduceEqDiff, Nat.reduceAdd, Nat.reduceSub, Nat.reduceLeDiff, indexAddrA, indexRefA, appendA, strA, Nat.reduceMul, Nat.zero_mul, Nat.reduceMod, Int.reduceEq, Int.reduceLT, Int.reduceLE, Nat.reduceLT, Nat.lt_irrefl, Nat.reduceBEq, tys0, tys1, tys2, tys3, tys4, tys5, tys6, tys7, tys8, tys9, tys10, tys11, tys12, tys13, tys14, tys15, tys16, tys17, tys18, tys19, tys20, tys21, tys22, tys23, Try.ntmps72, Try.results72, e1]
    exact Fin.value (hM.view rfl (by simp))
  | cons p r =>
    obtain ⟨e1, e2, e5⟩ := pos_split ha lh
    obtain ⟨p1, p2, b1, b2⟩ := sh p (by rw [ha]; simp)
    have hdl : d.length + 1 ≤ h.length := by rw [ha]; simp
    simp only [run0, run1, run2, run3, run4, run5, run6, run7, run8, run9, run10, run11, run12, run13, run14, run15, run16, run17, run18, run19, run20, run21, run22, reduceCtorEq, Nat.reduceEqDiff, Nat.reduceAdd, Nat.reduceSub, Nat.reduceLeDiff, indexAddrA, indexRefA, appendA, strA, Nat.reduceMul, Nat.zero_mul, Nat.reduceMod, Int.reduceEq, Int.reduceLT, Int.reduceLE, Nat.reduceLT, Nat.lt_irrefl, Nat.reduceBEq, tys0, tys1, tys2, tys3, tys4, tys5, tys6, tys7, tys8, tys9, tys10, tys11, tys12, tys13, tys14, tys15, tys16, tys17, tys18, tys19, tys20, tys21, tys22, tys23, Try.ntmps72, Try.results72, e1, e2, List.length_map, List.getElem?_append_right, Nat.le_refl, Nat.sub_self, Int.toNat_natCast, Int.natCast_nonneg]
    have hgl : ∀ x ∈ p.1, IntKind.i64.wrap (x + (g.length : Int)) = x + g.length := fun x hx => i64_id (by have := b1 x hx; omega) (by have := b1 x hx; omega)
    have hgr : ∀ x ∈ p.2, IntKind.i64.wrap (x + (g.length : Int)) = x + g.length := fun x hx => i64_id (by have := b2 x hx; omega) (by have := b2 x hx; omega)
    refine AWp.nilB (X.length + 2) 0 3 1 (T0 := 70) (cs := [nilV, nilV]) (by simp; rfl) rfl ?_
    refine AWp.loop_inv (ι := List Int × List Int) (fun q => ⟨[.sl false (g.map posE), .junk, .junk, .junk, nilV, .ref 0 [] (1 + d.length) (g.length + d.length), .junk, .ptr (X.length + 1) 0, .ptr (X.length + 2) 0, .junk, .junk, .junk, .junk, .junk, .junk, .junk, .sl false (h.map posE), .int .i64 h.length, .int .i64 d.length, .junk, .junk, .junk, .junk, .junk, .sl false (ints p.1), .int .i64 p.1.length, .int .i64 q.1.length, .junk, .junk, .junk, .junk, .junk, .junk, .junk, .junk, .junk, .junk, .junk, .junk, .junk, .junk, .junk, .junk, .junk, .junk, .junk, .junk, .junk, .junk, .junk, .junk, .junk, .junk, .junk, .junk, .junk, .junk, .junk, .junk, .junk, .junk, .junk, .junk],
      .vec 70 2 (1 + d.length) es :: (X ++ [.box 70 [.sl false (ints p.1), .sl false (ints p.2)], .box 70 [.ref (X.length + 3) [] q.1.length q.1.length, nilV], .vec 3 1 q.1.length (ints (mvL g.length q.1))])⟩)
      (fun q => p.1 = q.1 ++ q.2) (fun q => q.2.length) ([], p.1) rfl ⟨by simp only [List.length_nil, Int.natCast_zero]; repeat constructor, by simp [mvL, ints, nilV]⟩ ?_
    rintro ⟨dd, rr⟩ hb
    refine W.sound hmix (E := []) ?_
    simp only at hb
    cases rr with
    | cons x rr =>
      obtain ⟨k1, k2, k5⟩ := int_split hb (by omega)
      have hx := hgl x (by rw [hb]; simp)
      have g3 : dd.length + 1 ≤ 137438953472 := by have := congrArg List.length hb; simp at this; omega
      have g4 := ints_noOwn (mvL g.length dd)
      have g5 : (ints (mvL g.length dd)).length = dd.length := by simp [ints, mvL]
      simp only [run0, run1, run2, run3, run4, run5, run6, run7, run8, run9, run10, run11, run12, run13, run14, run15, run16, run17, run18, run19, run20, run21, run22, reduceCtorEq, Nat.reduceEqDiff, Nat.reduceAdd, Nat.reduceSub, Nat.reduceLeDiff, indexAddrA, indexRefA, appendA, strA, Nat.reduceMul, Nat.zero_mul, Nat.reduceMod, Int.reduceEq, Int.reduceLT, Int.reduceLE, Nat.reduceLT, Nat.lt_irrefl, Nat.reduceBEq, tys0, tys1, tys2, tys3, tys4, tys5, tys6, tys7, tys8, tys9, tys10, tys11, tys12, tys13, tys14, tys15, tys16, tys17, tys18, tys19, tys20, tys21, tys22, tys23, Try.ntmps72, Try.results72, ints_length, k1, k2, k5, hx, g3, g4, g5, List.length_map, Int.toNat_natCast, Int.natCast_nonneg]
      exact ⟨(dd ++ [x], rr), by simp [hb], by simp, by simp only [List.length_append, List.length_cons, List.length_nil]; repeat constructor, by simp [mvL, ints]⟩
    | nil =>
      have k1 := int_end hb
      rw [List.append_nil] at hb
      subst hb
      have hs0 : mvL g.length p.1 = mvL g.length p.1 := rfl
      simp only [run0, run1, run2, run3, run4, run5, run6, run7, run8, run9, run10, run11, run12, run13, run14, run15, run16, run17, run18, run19, run20, run21, run22, reduceCtorEq, Nat.reduceEqDiff, Nat.reduceAdd, Nat.reduceSub, Nat.reduceLeDiff, indexAddrA, indexRefA, appendA, strA, Nat.reduceMul, Nat.zero_mul, Nat.reduceMod, Int.reduceEq, Int.reduceLT, Int.reduceLE, Nat.reduceLT, Nat.lt_irrefl, Nat.reduceBEq, tys0, tys1, tys2, tys3, tys4, tys5, tys6, tys7, tys8, tys9, tys10, tys11, tys12, tys13, tys14, tys15, tys16, tys17, tys18, tys19, tys20, tys21, tys22, tys23, Try.ntmps72, Try.results72, ints_length, k1]
      refine AWp.nilB (X.length + 2) 1 3 1 (T0 := 70) (cs := [.ref (X.length + 3) [] p.1.length p.1.length, nilV]) (by simp) rfl ?_
      refine AWp.loop_inv (ι := List Int × List Int) (fun q => ⟨[.sl false (g.map posE), .junk, .junk, .junk, nilV, .ref 0 [] (1 + d.length) (g.length + d.length), .junk, .junk, .ptr (X.length + 2) 0, .junk, .junk, .junk, .junk, .junk, .junk, .junk, .sl false (h.map posE), .int .i64 h.length, .int .i64 d.length, .junk, .junk, .junk, .junk, .junk, .junk, .junk, .junk, .junk, .junk, .junk, .junk, .junk, .junk, .junk, .junk, .junk, .junk, .junk, .junk, .junk, .junk, .sl false (ints p.2), .int .i64 p.2.length, .int .i64 q.1.length, .junk, .junk, .junk, .junk, .junk, .junk, .junk, .junk, .junk, .junk, .junk, .junk, .junk, .junk, .junk, .junk, .junk, .junk, .junk],
        .vec 70 2 (1 + d.length) es :: (X ++ [.box 70 [.sl false (ints p.1), .sl false (ints p.2)], .box 70 [.ref (X.length + 3) [] p.1.length p.1.length, .ref (X.length + 4) [] q.1.length q.1.length], .vec 3 1 p.1.length (ints (mvL g.length p.1)), .vec 3 1 q.1.length (ints (mvL g.length q.1))])⟩)
        (fun q => p.2 = q.1 ++ q.2) (fun q => q.2.length) ([], p.2) rfl ⟨by simp only [List.length_nil, Int.natCast_zero]; repeat constructor, by simp [mvL, ints, nilV]⟩ ?_
      rintro ⟨dd, rr⟩ hb
      refine W.sound hmix (E := []) ?_
      simp only at hb
      cases rr with
      | cons x rr =>
        obtain ⟨k1, k2, k5⟩ := int_split hb (by omega)
        have hx := hgr x (by rw [hb]; simp)
        have g3 : dd.length + 1 ≤ 137438953472 := by have := congrArg List.length hb; simp at this; omega
        have g4 := ints_noOwn (mvL g.length dd)
        have g5 : (ints (mvL g.length dd)).length = dd.length := by simp [ints, mvL]
        simp only [run0, run1, run2, run3, run4, run5, run6, run7, run8, run9, run10, run11, run12, run13, run14, run15, run16, run17, run18, run19, run20, run21, run22, reduceCtorEq, Nat.reduceEqDiff, Nat.reduceAdd, Nat.reduceSub, Nat.reduceLeDiff, indexAddrA, indexRefA, appendA, strA, Nat.reduceMul, Nat.zero_mul, Nat.reduceMod, Int.reduceEq, Int.reduceLT, Int.reduceLE, Nat.reduceLT, Nat.lt_irrefl, Nat.reduceBEq, tys0, tys1, tys2, tys3, tys4, tys5, tys6, tys7, tys8, tys9, tys10, tys11, tys12, tys13, tys14, tys15, tys16, tys17, tys18, tys19, tys20, tys21, tys22, tys23, Try.ntmps72, Try.results72, ints_length, k1, k2, k5, hx, g3, g4, g5, List.length_map, Int.toNat_natCast, Int.natCast_nonneg]
        exact ⟨(dd ++ [x], rr), by simp [hb], by simp, by simp only [List.length_append, List.length_cons, List.length_nil]; repeat constructor, by simp [mvL, ints]⟩
      | nil =>
        have k1 := int_end hb
        rw [List.append_nil] at hb
        subst hb
        have m3 : g.length + d.length + 1 ≤ 137438953472 := by omega
        have m4 := hM.noOwn
        have m5 := hM.len
        rw [List.length_map] at m5
        simp only [run0, run1, run2, run3, run4, run5, run6, run7, run8, run9, run10, run11, run12, run13, run14, run15, run16, run17, run18, run19, run20, run21, run22, reduceCtorEq, Nat.reduceEqDiff, Nat.reduceAdd, Nat.reduceSub, Nat.reduceLeDiff, indexAddrA, indexRefA, appendA, strA, Nat.reduceMul, Nat.zero_mul, Nat.reduceMod, Int.reduceEq, Int.reduceLT, Int.reduceLE, Nat.reduceLT, Nat.lt_irrefl, Nat.reduceBEq, tys0, tys1, tys2, tys3, tys4, tys5, tys6, tys7, tys8, tys9, tys10, tys11, tys12, tys13, tys14, tys15, tys16, tys17, tys18, tys19, tys20, tys21, tys22, tys23, Try.ntmps72, Try.results72, ints_length, k1, m3, m4, m5, e5]
        have hk : Kept S (.vec 70 2 (1 + d.length) es :: X) (.vec 70 2 (1 + (d ++ [p]).length) (es ++ [.agg [.ref (X.length + 3) [] p.1.length p.1.length, .ref (X.length + 4) [] p.2.length p.2.length]]) :: (X ++ [.box 70 [.sl false (ints p.1), .sl false (ints p.2)], .box 70 [.ref (X.length + 3) [] p.1.length p.1.length, .ref (X.length + 4) [] p.2.length p.2.length], .vec 3 1 p.1.length (ints (mvL g.length p.1)), .vec 3 1 p.2.length (ints (mvL g.length p.2))])) := fun id hi T z gg es' hq => by
          obtain ⟨j, rfl⟩ : ∃ j, id = j + 1 := ⟨id - 1, by have := hS id hi; omega⟩
          simp only [List.getElem?_cons_succ] at hq ⊢
          rw [List.getElem?_append_left (List.getElem?_eq_some_iff.1 hq).1]; exact hq
        refine ⟨⟨d ++ [p], r, es ++ [.agg [.ref (X.length + 3) [] p.1.length p.1.length, .ref (X.length + 4) [] p.2.length p.2.length]], _⟩, ⟨by simp [ha], S ++ ([X.length + 3] ++ [X.length + 4]), ?_, ?_⟩, by simp, by simp only [List.length_append, List.length_cons, List.length_nil]; repeat constructor, by simp only [List.length_append, List.length_cons, List.length_nil]; rfl⟩
        · rw [List.map_append]
          refine hM.next hk (p := mvP g.length p) (.inr ⟨X.length + 3, p.1.length, by simp [mvP, mvL], ?_, rfl⟩) (.inr ⟨X.length + 4, p.2.length, by simp [mvP, mvL], ?_, rfl⟩)
          · simp [mvP]
          · simp [mvP]
        · intro i hi
          rcases List.mem_append.1 hi with hi | hi
          · exact hS i hi
          · simp at hi; omega

end Go.Proofs.Ytllcljajlemmaaa
/-
  Rows of the call's own that nobody writes any more are told as values from here on.
-/
namespace Go.Proofs.Ytllcljajlemmaaa.K
set_option linter.unusedVariables false
set_option linter.unusedSimpArgs false
open Go Go.RowKit

def frzM (D : List Nat) (γ : Nat → Gh) (w : World) : Nat → Gh := fun b =>
  match γ b with
  | .ow id p c => if id ∈ D then (match w.heap[b]? with | some o => .ro o | none => .out) else .ow id p c
  | x => x
theorem frzM_ro {D : List Nat} {γ : Nat → Gh} {w : World} : ∀ b o, γ b = .ro o → frzM D γ w b = .ro o := fun b o h => by simp [frzM, h]
def killS (D : List Nat) (L : List AObj) : List AObj := L.mapIdx fun i o => if i ∈ D then .dead else o
theorem killS_get (D : List Nat) (L : List AObj) (i : Nat) : (killS D L)[i]? = (L[i]?).map fun o => if i ∈ D then .dead else o := by
  simp [killS]
theorem killS_out {D : List Nat} {L : List AObj} {i : Nat} (h : i ∉ D) : (killS D L)[i]? = L[i]? := by
  rw [killS_get]; cases L[i]? <;> simp [h]
theorem killS_in {D : List Nat} {L : List AObj} {i : Nat} {o : AObj} (h : i ∈ D) (ho : L[i]? = some o) : (killS D L)[i]? = some .dead := by
  rw [killS_get, ho]; simp [h]
/-- 'x', told with what the call owns, is 'y' once the rows 'D' are not written any more. -/
def FrV (D : List Nat) (L : List AObj) (x y : AV) : Prop := ∀ γ w v, Inv γ L w → RV γ L x v → RV (frzM D γ w) (killS D L) y v
theorem FrV.pur {D : List Nat} {L : List AObj} {x : AV} (h : Pur x) : FrV D L x x := fun γ w v _ hv => h _ _ _ _ _ frzM_ro hv
theorem FrV.nil {D : List Nat} {L : List AObj} (o : Bool) : FrV D L (.lit (.slice none 0 0)) (.sl o []) := by
  intro γ w v hI hv
  cases hv
  exact .sl _ _ _ 0 0 0 (fun _ _ => undef) rfl (Nat.le_refl _) (by simp) (by simp) (by simp) (by simp)
theorem FrV.ptr {D : List Nat} {L : List AObj} {id off : Nat} {T : TypeId} {cs : List AV} (hD : id ∉ D) (hL : L[id]? = some (.box T cs)) : FrV D L (.ptr id off) (.ptr id off) := by
  intro γ w v hI hv
  cases hv with
  | ptr _ _ b c T' cs' hL' hb => exact .ptr _ _ b c T' cs' (by rw [killS_out hD]; exact hL') (by simp [frzM, hb, hD])
theorem FrV.ref {D : List Nat} {L : List AObj} {id g n : Nat} {p : Pth} {T : TypeId} {sz : Nat} {es es' ys : List AV} {o : Bool} (hD : id ∈ D) (hL : L[id]? = some (.vec T sz g es)) (hs : sub es p = some es') (hy : ys.length = n)
    (hall : ∀ (i : Nat) e y, es'[i]? = some e → ys[i]? = some y → y.cells.length = e.cells.length ∧ ∀ (j : Nat) c d, e.cells[j]? = some c → y.cells[j]? = some d → FrV D L (viewC id (p ++ [(i, j)]) g c) d) :
    FrV D L (.ref id p g n) (.sl o ys) := by
  intro γ w v hI hv
  cases hv with
  | ref _ _ _ _ _ hok ho =>
    obtain ⟨_, _, _, es2, hL2, hs2, hn, hv⟩ := hok.form (by simp [eptrNow, hL])
    rw [hL] at hL2; cases hL2
    rw [hs] at hs2; cases hs2
    rcases hv with ⟨rfl, rfl, rfl, _⟩ | ⟨b, c, rfl, hb⟩
    · have : ys = [] := List.eq_nil_of_length_eq_zero hy
      subst this
      exact .sl _ _ _ 0 0 0 (fun _ _ => undef) rfl (Nat.le_refl _) (by simp) (by simp) (by simp) (by simp)
    · obtain ⟨arr, s, T', harr, _, hasz, hlc, _, hrow⟩ := hI.rowCell hL hs hb
      have hsome : ∀ {i : Nat} {y : AV}, ys[i]? = some y → ∃ e, es'[i]? = some e := by
        intro i y hiy
        have := (List.getElem?_eq_some_iff.1 hiy).1
        exact ⟨es'[i]'(by omega), List.getElem?_eq_getElem (by omega)⟩
      have hcell : ∀ (i : Nat) y (j : Nat) d, ys[i]? = some y → y.cells[j]? = some d → ∃ u, arr[i * s + j]? = some u ∧ u.oneCell' = true ∧ RV (frzM D γ w) (killS D L) d u := by
        intro i y j d hiy hjd
        obtain ⟨e, he⟩ := hsome hiy
        obtain ⟨hlen, hcd⟩ := hall i e y he hiy
        have hj : j < e.cells.length := by rw [← hlen]; exact (List.getElem?_eq_some_iff.1 hjd).1
        have hc : e.cells[j]? = some e.cells[j] := List.getElem?_eq_getElem hj
        obtain ⟨u, h1, h2, h3⟩ := hrow.2 i e j _ he hc
        exact ⟨u, h1, h2, hcd j _ d hc hjd γ w u hI (RV.viewC hL hs he hc h2 h3)⟩
      refine .sl _ _ _ _ _ s (fun i j => arr.getD (i * s + j) undef) hy.symm (by omega) ?_ ?_ ?_ ?_
      · intro y hy'
        obtain ⟨i, hi, rfl⟩ := List.getElem_of_mem hy'
        have hiy : ys[i]? = some ys[i] := List.getElem?_eq_getElem hi
        obtain ⟨e, he⟩ := hsome hiy
        rw [(hall i e _ he hiy).1]
        exact hrow.1 e (List.mem_of_getElem? he)
      · intro i y j d hiy hjd
        obtain ⟨u, h1, _, _⟩ := hcell i y j d hiy hjd
        have hf : frzM D γ w b = .ro (.cells arr T' (0, 0)) := by simp [frzM, hb, harr, hD]
        simp only [roCell, hf, Nat.zero_add, h1]
        simp [Array.getD_eq_getD_getElem?, h1]
      · intro i y j d hiy hjd
        obtain ⟨u, h1, h2, _⟩ := hcell i y j d hiy hjd
        simpa [Array.getD_eq_getD_getElem?, h1] using h2
      · intro i y j d hiy hjd
        obtain ⟨u, h1, _, h3⟩ := hcell i y j d hiy hjd
        simpa [Array.getD_eq_getD_getElem?, h1] using h3


theorem AWp.freeze {P : Program} {c : Code} {Q : Exit → St → Prop} {s : St} (D : List Nat) {t' : List AV} (hlen : t'.length = s.t.length)
    (hT : ∀ (i : Nat) y, t'[i]? = some y → y = .junk ∨ ∃ x, s.t[i]? = some x ∧ FrV D s.L x y) (hv : ∀ id ∈ D, ∃ T sz g es, s.L[id]? = some (.vec T sz g es))
    (hL : ∀ id, id ∉ D → ∀ o, s.L[id]? = some o → o = .dead ∨ ∃ T cs, o = .box T cs ∧ ∀ x ∈ cs, Pur x) (h : AWp P c Q ⟨t', killS D s.L⟩) : AWp P c Q s := by
  intro ro γ a w hp hr
  have hI := hr.inv
  have h3 : ∀ {b id p c}, frzM D γ w b = .ow id p c → γ b = .ow id p c ∧ id ∉ D := by
    intro b id p c hb
    unfold frzM at hb
    split at hb
    · rename_i id' p' c' he
      split at hb
      · split at hb <;> cases hb
      · rename_i hd; cases hb; exact ⟨he, hd⟩
    · rename_i hne; exact absurd hb (hne _ _ _)
  have hk : ∀ {b id p c}, γ b = .ow id p c → id ∉ D → frzM D γ w b = .ow id p c := fun hb hd => by simp [frzM, hb, hd]
  have hI' : Inv (frzM D γ w) (killS D s.L) w := by
    refine ⟨fun b o hb => ?_, fun b id p c hb => ?_, fun b b' id p c c' hb hb' => hI.inj _ _ _ _ _ _ (h3 hb).1 (h3 hb').1, fun id T cs hq => ?_, fun id kt vt es hq => ?_⟩
    · unfold frzM at hb
      split at hb
      · split at hb
        · split at hb
          · rename_i o' ho'; cases hb; exact ho'
          · cases hb
        · cases hb
      · exact hI.ro b o hb
    · obtain ⟨hb0, hd⟩ := h3 hb
      obtain ⟨o, ho, hrep⟩ := hI.ow _ _ _ _ hb0
      refine ⟨o, ho, ?_⟩
      unfold BlockRep at hrep ⊢
      rw [killS_out hd]
      cases hq : s.L[id]? with
      | none => rw [hq] at hrep; exact hrep.elim
      | some ob =>
        rw [hq] at hrep
        rcases hL id hd ob hq with rfl | ⟨T, cs, rfl, hp⟩
        · exact hrep.elim
        · obtain ⟨q1, arr, q2, q3, q4⟩ := hrep
          refine ⟨q1, arr, q2, q3, fun j x hx => ?_⟩
          obtain ⟨v, v1, v2, v3⟩ := q4 j x hx
          exact ⟨v, v1, v2, hp x (List.mem_of_getElem? hx) _ _ _ _ _ frzM_ro v3⟩
    · by_cases hd : id ∈ D
      · obtain ⟨_, _, _, _, hz⟩ := hv id hd
        rw [killS_in hd hz] at hq; cases hq
      · rw [killS_out hd] at hq
        obtain ⟨b, c, hb⟩ := hI.box _ _ _ hq
        exact ⟨b, c, hk hb hd⟩
    · by_cases hd : id ∈ D
      · obtain ⟨_, _, _, _, hz⟩ := hv id hd
        rw [killS_in hd hz] at hq; cases hq
      · rw [killS_out hd] at hq
        obtain ⟨b, c, hb⟩ := hI.map _ _ _ _ hq
        exact ⟨b, c, hk hb hd⟩
  have hE : Ext γ s.L (frzM D γ w) (killS D s.L) := by
    refine ⟨frzM_ro, fun id o hq => ?_, fun b id p c hb => ?_, fun id T1 sz1 g1 es1 T' sz' es' hq hq' p e1 _ b c hb => (h3 hb).1⟩
    · by_cases hd : id ∈ D
      · obtain ⟨_, _, _, _, hz⟩ := hv id hd
        rw [hz] at hq; cases hq
        exact ⟨_, killS_in hd hz, trivial⟩
      · exact ⟨o, by rw [killS_out hd]; exact hq, OStep.refl o⟩
    · by_cases hd : id ∈ D
      · refine .inr fun o hq => ?_
        obtain ⟨_, _, _, _, hz⟩ := hv id hd
        rw [hz] at hq; cases hq
        exact ⟨_, _, _, _, rfl, fun T' sz' es' hq' => by rw [killS_in hd hz] at hq'; cases hq'⟩
      · exact .inl (hk hb hd)
  have hS : Stp γ w (frzM D γ w) w := ⟨rfl, rfl, rfl, Nat.le_refl _, frzM_ro, fun b _ hb => ⟨by simp [frzM, hb], rfl⟩⟩
  have hR : Rel (frzM D γ w) ⟨t', killS D s.L⟩ a w := ⟨hr.defers.mono frzM_ro, by rw [hr.size]; exact hlen.symm, fun i y hy => by
    rcases hT i y hy with rfl | ⟨x, hx, hxy⟩
    · exact .junk _
    · exact hxy γ w _ hI (hr.tmps i x hx), hI'⟩
  refine wpIn_mono (h ro _ a w hp hR) ?_
  rintro e a' w' ⟨γ2, s2, k1, k2, k3, k4⟩
  exact ⟨γ2, s2, k1, hE.trans k2, hS.trans k3, k4⟩

end Go.Proofs.Ytllcljajlemmaaa.K
/-
  Nimbers of games: the program's moved options; rows told as values.
-/
namespace Go.Proofs.Ytllcljajlemmaaa
open Go K
set_option linter.unusedSimpArgs false
set_option linter.unusedVariables false
set_option maxHeartbeats 1600000
set_option maxRecDepth 8000

theorem movedC_ok (l : List Int) (g : List GP) (hl : l.length ≤ 1000) (lg : g.length ≤ 1048576) (hb : ∀ x ∈ l, 0 ≤ x ∧ x ≤ 1000) (L : List AObj) (b : Nat) (hL : L[b]? = some (.box 24 [.sl false (g.map posE)])) :
    Ct Try.prog 74 [.sl false (ints l), .ptr b 0] L (.ref L.length [] l.length l.length) (L ++ [.vec 3 1 l.length (ints (mvL g.length l))]) := by
  have hbl := (List.getElem?_eq_some_iff.1 hL).1
  have gb : ∀ o, (L ++ [o])[b]? = some (.box 24 [.sl false (g.map posE)]) := fun o => by rw [List.getElem?_append_left hbl]; exact hL
  have gr : ∀ o, (L ++ [o])[L.length]? = some o := fun o => by rw [List.getElem?_append_right (Nat.le_refl _), Nat.sub_self]; rfl
  have gs : ∀ o o', (L ++ [o]).set L.length o' = L ++ [o'] := fun o o' => by rw [List.set_append_right _ _ (Nat.le_refl _), Nat.sub_self]; rfl
  refine Ct.by_ hmix [] Try.func74 rfl ?_
  simp only [run0, run1, run2, run3, run4, run5, run6, run7, run8, run9, run10, run11, run12, run13, run14, run15, run16, run17, run18, run19, run20, run21, run22, reduceCtorEq, Nat.reduceEqDiff, Nat.reduceAdd, Nat.reduceSub, Nat.reduceLeDiff, indexAddrA, indexRefA, appendA, strA, Nat.reduceMul, Nat.zero_mul, Nat.reduceMod, Int.reduceEq, Int.reduceLT, Int.reduceLE, Nat.reduceLT, Nat.lt_irrefl, Nat.reduceBEq, tys0, tys1, tys2, tys3, tys4, tys5, tys6, tys7, tys8, tys9, tys10, tys11, tys12, tys13, tys14, tys15, tys16, tys17, tys18, tys19, tys20, tys21, tys22, tys23, Try.ntmps74, Try.results74, ints_length]
  refine AWp.loop_inv (ι := List Int × List Int) (fun q => ⟨[.junk, .ptr b 0, .junk, nilV, .ref L.length [] q.1.length q.1.length, .junk, .junk, .junk, .sl false (ints l), .int .i64 l.length, .int .i64 q.1.length, .junk, .junk, .junk, .junk, .junk, .junk, .junk, .junk, .junk, .junk, .junk, .junk], L ++ [.vec 3 1 q.1.length (ints (mvL g.length q.1))]⟩)
    (fun q => l = q.1 ++ q.2) (fun q => q.2.length) ([], l) rfl ⟨by simp only [List.length_nil, Int.natCast_zero]; repeat constructor, rfl⟩ ?_
  rintro ⟨d, r⟩ ha
  refine W.sound hmix (E := []) ?_
  simp only at ha
  cases r with
  | cons x r =>
    obtain ⟨e1, e2, e5⟩ := int_split ha (by omega)
    have hx := hb x (by rw [ha]; simp)
    have w1 : IntKind.i64.wrap (x + (g.length : Int)) = x + g.length := i64_id (by omega) (by omega)
    have f3 : d.length + 1 ≤ 137438953472 := by have := congrArg List.length ha; simp at this; omega
    have f4 := ints_noOwn (mvL g.length d)
    have f5 : (ints (mvL g.length d)).length = d.length := by simp [ints, mvL]
    simp only [run0, run1, run2, run3, run4, run5, run6, run7, run8, run9, run10, run11, run12, run13, run14, run15, run16, run17, run18, run19, run20, run21, run22, reduceCtorEq, Nat.reduceEqDiff, Nat.reduceAdd, Nat.reduceSub, Nat.reduceLeDiff, indexAddrA, indexRefA, appendA, strA, Nat.reduceMul, Nat.zero_mul, Nat.reduceMod, Int.reduceEq, Int.reduceLT, Int.reduceLE, Nat.reduceLT, Nat.lt_irrefl, Nat.reduceBEq, tys0, tys1, tys2, tys3, tys4, tys5, tys6, tys7, tys8, tys9, tys10, tys11, tys12, tys13, tys14, tys15, tys16, tys17, tys18, tys19, tys20, tys21, tys22, tys23, Try.ntmps74, Try.results74, ints_length, e1, e2, e5, w1, gb, gr, gs, f3, f4, f5, List.length_map, Int.toNat_natCast, Int.natCast_nonneg]
    exact ⟨(d ++ [x], r), by simp [ha], by simp, by simp only [List.length_append, List.length_cons, List.length_nil]; repeat constructor, by simp [mvL, ints]⟩
  | nil =>
    have e1 := int_end ha
    rw [List.append_nil] at ha
    subst ha
    simp only [run0, run1, run2, run3, run4, run5, run6, run7, run8, run9, run10, run11, run12, run13, run14, run15, run16, run17, run18, run19, run20, run21, run22, reduceCtorEq, Nat.reduceEqDiff, Nat.reduceAdd, Nat.reduceSub, Nat.reduceLeDiff, indexAddrA, indexRefA, appendA, strA, Nat.reduceMul, Nat.zero_mul, Nat.reduceMod, Int.reduceEq, Int.reduceLT, Int.reduceLE, Nat.reduceLT, Nat.lt_irrefl, Nat.reduceBEq, tys0, tys1, tys2, tys3, tys4, tys5, tys6, tys7, tys8, tys9, tys10, tys11, tys12, tys13, tys14, tys15, tys16, tys17, tys18, tys19, tys20, tys21, tys22, tys23, Try.ntmps74, Try.results74, ints_length, e1]
    exact Fin.own rfl rfl

/-! ### told as values from here on -/
theorem FrV.pur' {D : List Nat} {L : List AObj} {x : AV} (h : pureB x = true) : FrV D L x x := .pur (.of h)
theorem FrV_ints {D : List Nat} {L : List AObj} {id g n : Nat} {T : TypeId} {l : List Int} {o : Bool} (hD : id ∈ D) (hL : L[id]? = some (.vec T 1 g (ints l))) (hn : n = l.length) : FrV D L (.ref id [] g n) (.sl o (ints l)) := by
  refine FrV.ref hD hL rfl (by simp [hn]) fun i e y he hy => ?_
  rw [he] at hy
  cases hy
  obtain ⟨z, _, rfl⟩ := List.mem_map.1 (List.mem_of_getElem? he)
  refine ⟨rfl, fun j c d hc hd => ?_⟩
  rw [hc] at hd
  cases hd
  cases j with
  | zero => simp [AV.cells] at hc; subst hc; exact FrV.pur' rfl
  | succ j => simp [AV.cells] at hc
theorem OwnI.frV {D : List Nat} {L : List AObj} {l : List Int} {x : AV} {S : List Nat} (h : OwnI L l x S) (hS : ∀ i ∈ S, i ∈ D) (id : Nat) (q : Pth) (g : Nat) : FrV D L (K.viewC id q g x) (.sl false (ints l)) := by
  rcases h with ⟨rfl, rfl, _⟩ | ⟨id, g, rfl, h2, rfl⟩
  · exact FrV.nil false
  · exact FrV_ints (hS id (by simp)) h2 rfl
theorem OwnPE.frV {D : List Nat} {L : List AObj} : ∀ {l : List GP} {es : List AV} {S : List Nat}, OwnPE L l es S → (∀ i ∈ S, i ∈ D) → ∀ (i : Nat) (p : GP), l[i]? = some p →
    ∃ a b, es[i]? = some (.agg [a, b]) ∧ (∀ id q g, FrV D L (K.viewC id q g a) (.sl false (ints p.1))) ∧ ∀ id q g, FrV D L (K.viewC id q g b) (.sl false (ints p.2))
  | [], _, _, _, _, i, p, hi => by simp at hi
  | q :: ps, _, _, ⟨a, b, es', S1, S2, S', he, hS, h1, h2, h3⟩, hD, i, p, hi => by
    subst hS
    cases i with
    | zero =>
      simp at hi; subst hi
      exact ⟨a, b, by rw [he]; rfl, h1.frV fun i hi => hD i (by simp [hi]), h2.frV fun i hi => hD i (by simp [hi])⟩
    | succ i =>
      obtain ⟨a, b, k1, k2, k3⟩ := h3.frV (fun i hi => hD i (by simp [hi])) i p (by simpa using hi)
      exact ⟨a, b, by rw [he]; simpa using k1, k2, k3⟩
theorem mixV.frV {D : List Nat} {L : List AObj} {g l : List GP} {es : List AV} {S : List Nat} {id gn n : Nat} {o : Bool} (h : mixV L g l es S) (hS : ∀ i ∈ S, i ∈ D) (hD : id ∈ D) (hL : L[id]? = some (.vec 70 2 gn es)) (hn : n = g.length + l.length) :
    FrV D L (.ref id [] gn n) (.sl o ((g ++ l).map posE)) := by
  obtain ⟨es', rfl, h⟩ := h
  refine FrV.ref hD hL rfl (by simp [hn]) fun i e y he hy => ?_
  by_cases hi : i < g.length
  · rw [List.getElem?_append_left (by simpa using hi)] at he
    rw [List.map_append, List.getElem?_append_left (by simpa using hi)] at hy
    rw [he] at hy
    cases hy
    refine ⟨rfl, fun j c d hc hd => ?_⟩
    rw [hc] at hd
    cases hd
    rw [List.getElem?_map] at he
    obtain ⟨p, hp, rfl⟩ := Option.map_eq_some_iff.1 he
    rcases j with _ | _ | j
    · simp [posE, AV.cells] at hc; subst hc; exact FrV.pur' (show pureB (.sl false (ints _)) = true by simp only [pureB, ints_pure])
    · simp [posE, AV.cells] at hc; subst hc; exact FrV.pur' (show pureB (.sl false (ints _)) = true by simp only [pureB, ints_pure])
    · simp [posE, AV.cells] at hc
  · rw [List.getElem?_append_right (by simp; omega), List.length_map] at he
    rw [List.map_append, List.getElem?_append_right (by simp; omega), List.length_map, List.getElem?_map] at hy
    obtain ⟨p, hp, rfl⟩ := Option.map_eq_some_iff.1 hy
    obtain ⟨a, b, k1, k2, k3⟩ := h.frV hS _ p hp
    rw [k1] at he
    cases he
    refine ⟨rfl, fun j c d hc hd => ?_⟩
    rcases j with _ | _ | j
    · simp [posE, AV.cells] at hc hd; subst hc hd; exact k2 _ _ _
    · simp [posE, AV.cells] at hc hd; subst hc hd; exact k3 _ _ _
    · simp [AV.cells] at hc
/-- All rows that are owned. -/
def isVec : AObj → Bool
  | .vec _ _ _ _ => true
  | _ => false
def vecs (L : List AObj) : List Nat := (List.range L.length).filter fun i => match L[i]? with | some o => isVec o | none => false
theorem vecs_mem {L : List AObj} {i : Nat} : i ∈ vecs L ↔ ∃ T z g es, L[i]? = some (.vec T z g es) := by
  unfold vecs
  rw [List.mem_filter]
  constructor
  · rintro ⟨_, h⟩
    cases hL : L[i]? with
    | none => rw [hL] at h; cases h
    | some o =>
      rw [hL] at h
      cases o with
      | vec T z g es => exact ⟨_, _, _, _, rfl⟩
      | _ => cases h
  · rintro ⟨T, z, g, es, h⟩
    exact ⟨List.mem_range.2 (List.getElem?_eq_some_iff.1 h).1, by rw [h]; rfl⟩
/-- Rows and plain variables alone. -/
def plainO (o : AObj) : Prop := isVec o = true ∨ ∃ T cs, o = .box T cs ∧ ∀ x ∈ cs, Pur x
inductive FrL (D : List Nat) (L : List AObj) : List AV → List AV → Prop
  | nil : FrL D L [] []
  | drop {x : AV} {xs ys : List AV} (k : FrL D L xs ys) : FrL D L (x :: xs) (.junk :: ys)
  | cons {x y : AV} {xs ys : List AV} (h : FrV D L x y) (k : FrL D L xs ys) : FrL D L (x :: xs) (y :: ys)
theorem FrL.get {D : List Nat} {L : List AObj} {xs ys : List AV} (h : FrL D L xs ys) : ys.length = xs.length ∧ ∀ (i : Nat) y, ys[i]? = some y → y = .junk ∨ ∃ x, xs[i]? = some x ∧ FrV D L x y := by
  induction h with
  | nil => exact ⟨rfl, fun i y h => by simp at h⟩
  | drop k ih =>
    refine ⟨by simp [ih.1], fun i y hi => ?_⟩
    cases i with
    | zero => simp at hi; exact .inl hi.symm
    | succ i => simpa using ih.2 i y (by simpa using hi)
  | cons h k ih =>
    refine ⟨by simp [ih.1], fun i y hi => ?_⟩
    cases i with
    | zero => simp at hi; subst hi; exact .inr ⟨_, rfl, h⟩
    | succ i => simpa using ih.2 i y (by simpa using hi)
theorem AWp.freezeAll {P : Program} {c : Code} {Q : Exit → St → Prop} {s : St} {t' : List AV} (hT : FrL (vecs s.L) s.L s.t t') (hL : ∀ o ∈ s.L, plainO o) (h : AWp P c Q ⟨t', killS (vecs s.L) s.L⟩) : AWp P c Q s :=
  AWp.freeze (vecs s.L) hT.get.1 hT.get.2 (fun id hid => vecs_mem.1 hid) (fun id hid o ho => by
    rcases hL o (List.mem_of_getElem? ho) with hv | hb
    · cases o with
      | vec T z g es => exact absurd (vecs_mem.2 ⟨_, _, _, _, ho⟩) hid
      | _ => cases hv
    · exact .inr hb) h

end Go.Proofs.Ytllcljajlemmaaa
/-
  Nimbers of games: the reference, and the program.
-/
namespace Go.Proofs.Ytllcljajlemmaaa
open Go K
set_option linter.unusedSimpArgs false
set_option linter.unusedVariables false
set_option maxHeartbeats 3200000
set_option maxRecDepth 8000

theorem iota_mem {k : Nat} {x : Int} (h : x ∈ iota k) : 0 ≤ x ∧ x < (k : Int) := by
  obtain ⟨i, hi, rfl⟩ := List.mem_map.1 h
  have := List.mem_range.1 hi
  omega
theorem nimG_small {n : Nat} (hn : n ≤ 1000) : ∀ p ∈ nimG n, p.1.length ≤ 1000 ∧ p.2.length ≤ 1000 ∧ (∀ x ∈ p.1, 0 ≤ x ∧ x ≤ 1000) ∧ ∀ x ∈ p.2, 0 ≤ x ∧ x ≤ 1000 := by
  intro p hp
  obtain ⟨k, hk, rfl⟩ := List.mem_map.1 hp
  have := List.mem_range.1 hk
  exact ⟨by rw [iota_len]; omega, by rw [iota_len]; omega, fun x hx => by have := iota_mem hx; omega, fun x hx => by have := iota_mem hx; omega⟩
theorem join_ok {g : List GP} (hg : GameOk g) (n : Nat) (hn : n ≤ 1000) : GameOk (joinG g (nimG n)) := by
  intro i p hp
  unfold joinG at hp
  by_cases hi : i < g.length
  · rw [List.getElem?_append_left hi] at hp
    exact hg i p hp
  · rw [List.getElem?_append_right (by omega), List.getElem?_map] at hp
    obtain ⟨q, hq, rfl⟩ := Option.map_eq_some_iff.1 hp
    unfold nimG at hq
    rw [List.getElem?_map] at hq
    obtain ⟨k, hk, rfl⟩ := Option.map_eq_some_iff.1 hq
    have hk1 := (List.getElem?_eq_some_iff.1 hk).1
    rw [List.length_range] at hk1
    rw [List.getElem?_range hk1] at hk
    cases hk
    have key : ∀ x ∈ mvL g.length (iota (i - g.length)), 0 ≤ x ∧ x < (i : Int) := fun x hx => by
      obtain ⟨y, hy, rfl⟩ := List.mem_map.1 hx
      have := iota_mem hy
      omega
    exact ⟨⟨by simp only [mvP, mvL_len, iota_len]; omega, by simp only [mvP, mvL_len, iota_len]; omega⟩, key, key⟩
theorem join_len (g : List GP) (n : Nat) : (joinG g (nimG n)).length = g.length + n := by simp [joinG, nimG_len]
def nimS (c : Nat → Bool) : Nat → Nat → Option Nat
  | 0, _ => none
  | f + 1, n => if c n then some n else nimS c f (n + 1)
def nimR (g : List GP) (a : Int) : AV :=
  if hasB g a then (match nimS (fun n => cmpG (joinG g (nimG 40)) a.toNat (g.length + n) == 0) 40 0 with | some n => .tup [.int .i64 n, .bool true] | none => .tup [.int .i64 0, .bool false]) else .tup [.int .i64 0, .bool false]
theorem specNim_ok (g : List GP) (a : Int) (hl : g.length ≤ 1048576) (hs : ∀ p ∈ g, smallP p) : Ct Try.prog 29 [.sl false (g.map posE), .int .i64 a] [] (nimR g a) [] := by
  have pg := posL_pure g
  refine Ct.by_ hmix [] Try.func29 rfl ?_
  simp only [run0, run1, run2, run3, run4, run5, run6, run7, run8, run9, run10, run11, run12, run13, run14, run15, run16, run17, run18, run19, run20, run21, run22, reduceCtorEq, Nat.reduceEqDiff, Nat.reduceAdd, Nat.reduceSub, Nat.reduceLeDiff, indexAddrA, indexRefA, appendA, strA, Nat.reduceMul, Nat.zero_mul, Nat.reduceMod, Int.reduceEq, Int.reduceLT, Int.reduceLE, Nat.reduceLT, Nat.lt_irrefl, Nat.reduceBEq, tys0, tys1, tys2, tys3, tys4, tys5, tys6, tys7, tys8, tys9, tys10, tys11, tys12, tys13, tys14, tys15, tys16, tys17, tys18, tys19, tys20, tys21, tys22, tys23, Try.ntmps29, Try.results29]
  refine RunL.callp rfl rfl ok_f63 (gaHas_ok g a hl hs) (by simp only [pureL, pureB, pg, Bool.and_self]) rfl ?_
  cases h1 : hasB g a
  · simp only [run0, run1, run2, run3, run4, run5, run6, run7, run8, run9, run10, run11, run12, run13, run14, run15, run16, run17, run18, run19, run20, run21, run22, reduceCtorEq, Nat.reduceEqDiff, Nat.reduceAdd, Nat.reduceSub, Nat.reduceLeDiff, indexAddrA, indexRefA, appendA, strA, Nat.reduceMul, Nat.zero_mul, Nat.reduceMod, Int.reduceEq, Int.reduceLT, Int.reduceLE, Nat.reduceLT, Nat.lt_irrefl, Nat.reduceBEq, tys0, tys1, tys2, tys3, tys4, tys5, tys6, tys7, tys8, tys9, tys10, tys11, tys12, tys13, tys14, tys15, tys16, tys17, tys18, tys19, tys20, tys21, tys22, tys23, Try.ntmps29, Try.results29]
    exact Fin.eq (by simp [nimR, h1]) rfl
  unfold nimR
  rw [h1, if_pos rfl]
  obtain ⟨hgb, a, rfl, ha⟩ := hasB_ok h1
  obtain ⟨hg, hg1, hg2, hg3⟩ := gameB_ok hgb
  have hj := join_ok hg 40 (by omega)
  have hjl := join_len g 40
  have hpj := posL_pure (nimG 40)
  have hpk := posL_pure (joinG g (nimG 40))
  have hT := gaAtMost_ok (joinG g (nimG 40)) hj (by omega)
  have hO := fun n => orderG_ok (joinG g (nimG 40)) a (g.length + n)
  rw [hjl] at hO
  have hpt := tabG_pure (joinG g (nimG 40))
  rw [Int.toNat_natCast]
  simp only [run0, run1, run2, run3, run4, run5, run6, run7, run8, run9, run10, run11, run12, run13, run14, run15, run16, run17, run18, run19, run20, run21, run22, reduceCtorEq, Nat.reduceEqDiff, Nat.reduceAdd, Nat.reduceSub, Nat.reduceLeDiff, indexAddrA, indexRefA, appendA, strA, Nat.reduceMul, Nat.zero_mul, Nat.reduceMod, Int.reduceEq, Int.reduceLT, Int.reduceLE, Nat.reduceLT, Nat.lt_irrefl, Nat.reduceBEq, tys0, tys1, tys2, tys3, tys4, tys5, tys6, tys7, tys8, tys9, tys10, tys11, tys12, tys13, tys14, tys15, tys16, tys17, tys18, tys19, tys20, tys21, tys22, tys23, Try.ntmps29, Try.results29]
  refine RunL.callp rfl rfl ok_f73 gaNim_ok rfl rfl ?_
  simp only [run0, run1, run2, run3, run4, run5, run6, run7, run8, run9, run10, run11, run12, run13, run14, run15, run16, run17, run18, run19, run20, run21, run22, reduceCtorEq, Nat.reduceEqDiff, Nat.reduceAdd, Nat.reduceSub, Nat.reduceLeDiff, indexAddrA, indexRefA, appendA, strA, Nat.reduceMul, Nat.zero_mul, Nat.reduceMod, Int.reduceEq, Int.reduceLT, Int.reduceLE, Nat.reduceLT, Nat.lt_irrefl, Nat.reduceBEq, tys0, tys1, tys2, tys3, tys4, tys5, tys6, tys7, tys8, tys9, tys10, tys11, tys12, tys13, tys14, tys15, tys16, tys17, tys18, tys19, tys20, tys21, tys22, tys23, Try.ntmps29, Try.results29]
  refine RunL.callp rfl rfl ok_f72 (gaJoined_ok g (nimG 40) hl (by rw [nimG_len]; omega) (nimG_small (by omega))) (by simp only [pureL, pureB, pg, hpj, Bool.and_self]) rfl ?_
  simp only [run0, run1, run2, run3, run4, run5, run6, run7, run8, run9, run10, run11, run12, run13, run14, run15, run16, run17, run18, run19, run20, run21, run22, reduceCtorEq, Nat.reduceEqDiff, Nat.reduceAdd, Nat.reduceSub, Nat.reduceLeDiff, indexAddrA, indexRefA, appendA, strA, Nat.reduceMul, Nat.zero_mul, Nat.reduceMod, Int.reduceEq, Int.reduceLT, Int.reduceLE, Nat.reduceLT, Nat.lt_irrefl, Nat.reduceBEq, tys0, tys1, tys2, tys3, tys4, tys5, tys6, tys7, tys8, tys9, tys10, tys11, tys12, tys13, tys14, tys15, tys16, tys17, tys18, tys19, tys20, tys21, tys22, tys23, Try.ntmps29, Try.results29]
  refine RunL.callp rfl rfl ok_f55 hT (by simp only [pureL, pureB, hpk, Bool.and_self]) rfl ?_
  simp only [run0, run1, run2, run3, run4, run5, run6, run7, run8, run9, run10, run11, run12, run13, run14, run15, run16, run17, run18, run19, run20, run21, run22, reduceCtorEq, Nat.reduceEqDiff, Nat.reduceAdd, Nat.reduceSub, Nat.reduceLeDiff, indexAddrA, indexRefA, appendA, strA, Nat.reduceMul, Nat.zero_mul, Nat.reduceMod, Int.reduceEq, Int.reduceLT, Int.reduceLE, Nat.reduceLT, Nat.lt_irrefl, Nat.reduceBEq, tys0, tys1, tys2, tys3, tys4, tys5, tys6, tys7, tys8, tys9, tys10, tys11, tys12, tys13, tys14, tys15, tys16, tys17, tys18, tys19, tys20, tys21, tys22, tys23, Try.ntmps29, Try.results29]
  generalize joinG g (nimG 40) = G at *
  refine AWp.loop_inv (ι := Nat) (fun n => ⟨[.sl false (g.map posE), .int .i64 a, .junk, .junk, .int .i64 0, .bool false, .sl false ((tabG G).map rowV), .int .i64 n, .junk, .junk, .junk, .junk, .junk, .junk, .junk, .junk, .junk, .junk, .junk, .junk, .junk, .junk, .junk, .junk, .junk, .junk, .junk, .junk, .junk], []⟩)
    (fun n => n ≤ 40 ∧ nimS (fun n => cmpG G a (g.length + n) == 0) (40 - n) n = nimS (fun n => cmpG G a (g.length + n) == 0) 40 0) (fun n => 40 - n) 0 ⟨by omega, rfl⟩ ⟨by simp only [Int.natCast_zero]; repeat constructor, rfl⟩ ?_
  rintro n ⟨hn, hS⟩
  refine W.sound hmix (E := []) ?_
  by_cases hn4 : n < 40
  case neg =>
    obtain rfl : n = 40 := by omega
    have e1 : ¬ (((40 : Nat) : Int) < 40) := by omega
    simp only [run0, run1, run2, run3, run4, run5, run6, run7, run8, run9, run10, run11, run12, run13, run14, run15, run16, run17, run18, run19, run20, run21, run22, reduceCtorEq, Nat.reduceEqDiff, Nat.reduceAdd, Nat.reduceSub, Nat.reduceLeDiff, indexAddrA, indexRefA, appendA, strA, Nat.reduceMul, Nat.zero_mul, Nat.reduceMod, Int.reduceEq, Int.reduceLT, Int.reduceLE, Nat.reduceLT, Nat.lt_irrefl, Nat.reduceBEq, tys0, tys1, tys2, tys3, tys4, tys5, tys6, tys7, tys8, tys9, tys10, tys11, tys12, tys13, tys14, tys15, tys16, tys17, tys18, tys19, tys20, tys21, tys22, tys23, Try.ntmps29, Try.results29, e1]
    exact Fin.eq (by rw [← hS]; rfl) rfl
  have e1 : (n : Int) < 40 := by omega
  have e5 : IntKind.i64.wrap ((n : Int) + 1) = ((n + 1 : Nat) : Int) := by rw [i64_id (by omega) (by omega)]; simp
  have e6 : IntKind.i64.wrap ((g.length : Int) + (n : Int)) = ((g.length + n : Nat) : Int) := by rw [i64_id (by omega) (by omega)]; simp
  have hSn : nimS (fun n => cmpG G a (g.length + n) == 0) (40 - n) n = if cmpG G a (g.length + n) == 0 then some n else nimS (fun n => cmpG G a (g.length + n) == 0) (40 - (n + 1)) (n + 1) := by
    rw [show 40 - n = (40 - (n + 1)) + 1 by omega]; rfl
  rw [hSn] at hS
  simp only [run0, run1, run2, run3, run4, run5, run6, run7, run8, run9, run10, run11, run12, run13, run14, run15, run16, run17, run18, run19, run20, run21, run22, reduceCtorEq, Nat.reduceEqDiff, Nat.reduceAdd, Nat.reduceSub, Nat.reduceLeDiff, indexAddrA, indexRefA, appendA, strA, Nat.reduceMul, Nat.zero_mul, Nat.reduceMod, Int.reduceEq, Int.reduceLT, Int.reduceLE, Nat.reduceLT, Nat.lt_irrefl, Nat.reduceBEq, tys0, tys1, tys2, tys3, tys4, tys5, tys6, tys7, tys8, tys9, tys10, tys11, tys12, tys13, tys14, tys15, tys16, tys17, tys18, tys19, tys20, tys21, tys22, tys23, Try.ntmps29, Try.results29, e1, e6, List.length_map]
  refine RunL.callp rfl rfl ok_f65 (hO n (by omega) (by omega)) (by simp only [pureL, pureB, hpt, Bool.and_self]) rfl ?_
  cases hc : cmpG G a (g.length + n) == 0
  · rw [hc] at hS
    simp only [run0, run1, run2, run3, run4, run5, run6, run7, run8, run9, run10, run11, run12, run13, run14, run15, run16, run17, run18, run19, run20, run21, run22, reduceCtorEq, Nat.reduceEqDiff, Nat.reduceAdd, Nat.reduceSub, Nat.reduceLeDiff, indexAddrA, indexRefA, appendA, strA, Nat.reduceMul, Nat.zero_mul, Nat.reduceMod, Int.reduceEq, Int.reduceLT, Int.reduceLE, Nat.reduceLT, Nat.lt_irrefl, Nat.reduceBEq, tys0, tys1, tys2, tys3, tys4, tys5, tys6, tys7, tys8, tys9, tys10, tys11, tys12, tys13, tys14, tys15, tys16, tys17, tys18, tys19, tys20, tys21, tys22, tys23, Try.ntmps29, Try.results29, hc, e5]
    exact ⟨n + 1, ⟨by omega, hS⟩, by omega, by repeat constructor⟩
  · rw [hc] at hS
    simp only [run0, run1, run2, run3, run4, run5, run6, run7, run8, run9, run10, run11, run12, run13, run14, run15, run16, run17, run18, run19, run20, run21, run22, reduceCtorEq, Nat.reduceEqDiff, Nat.reduceAdd, Nat.reduceSub, Nat.reduceLeDiff, indexAddrA, indexRefA, appendA, strA, Nat.reduceMul, Nat.zero_mul, Nat.reduceMod, Int.reduceEq, Int.reduceLT, Int.reduceLE, Nat.reduceLT, Nat.lt_irrefl, Nat.reduceBEq, tys0, tys1, tys2, tys3, tys4, tys5, tys6, tys7, tys8, tys9, tys10, tys11, tys12, tys13, tys14, tys15, tys16, tys17, tys18, tys19, tys20, tys21, tys22, tys23, Try.ntmps29, Try.results29, hc, e5]
    exact Fin.eq (by rw [← hS]; rfl) rfl

end Go.Proofs.Ytllcljajlemmaaa
