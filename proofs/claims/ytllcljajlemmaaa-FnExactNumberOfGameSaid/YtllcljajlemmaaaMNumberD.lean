/-
  Texts joined in one: GS4, GS5, PO1, PO2, NW1, NW2, PO3, K24, PO4.
-/
import Derived.Test.YtllcljajlemmaaaMNumberC
/-
  The simplest number of a cut: the reference's function.
-/
namespace Go.Proofs.Ytllcljajlemmaaa
open Go K
set_option linter.unusedSimpArgs false
set_option linter.unusedVariables false
set_option maxHeartbeats 3200000
set_option maxRecDepth 8000

theorem cmpQ_ok (p q : Fr) : Ct Try.prog 78 [fr p.1 p.2, fr q.1 q.2] [] (.int .i64 (cmpQ p q)) [] := shCmp_ok p.1 p.2 q.1 q.2
theorem shMost_ok (o : Fr) (l : List Fr) (hl : (o :: l).length ≤ 1048576) : Ct Try.prog 124 [.sl false (frE o :: l.map frE)] [] (frE (mostF o l)) [] := by
  have e0 : ((o :: l).map frE)[(0 : Int).toNat]? = some (.agg [.int .i64 o.1, .int .i64 o.2]) := rfl
  rw [show frE o :: l.map frE = (o :: l).map frE from rfl]
  have hm : mostF o (o :: l) = mostF o l := by rw [mostF_cons]; split <;> rfl
  rw [← hm]
  generalize o :: l = m at *
  refine Ct.by_ hmix [] Try.func124 rfl ?_
  simp only [run0, run1, run2, run3, run4, run5, run6, run7, run8, run9, run10, run11, run12, run13, run14, run15, run16, run17, run18, run19, run20, run21, run22, reduceCtorEq, Nat.reduceEqDiff, Nat.reduceAdd, Nat.reduceSub, Nat.reduceLeDiff, indexAddrA, indexRefA, appendA, strA, Nat.reduceMul, Nat.zero_mul, Nat.reduceMod, Int.reduceEq, Int.reduceLT, Int.reduceLE, Nat.reduceLT, Nat.lt_irrefl, Nat.reduceBEq, tys0, tys1, tys2, tys3, tys4, tys5, tys6, tys7, tys8, tys9, tys10, tys11, tys12, tys13, tys14, tys15, tys16, tys17, tys18, tys19, tys20, tys21, tys22, tys23, Try.ntmps124, Try.results124, e0, List.length_map, Int.le_refl]
  refine AWp.loop_inv (ι := FxS × Fr) (fun q => ⟨[.sl false (m.map frE), .junk, .ptr 0 0, .ptr 1 0, .junk, .junk, .junk, .junk, .junk, .sl false (m.map frE), .int .i64 m.length, .int .i64 q.1.d.length, .junk, .junk, .junk, .junk, .junk, .junk, .junk, .junk, .junk, .junk], .box 42 [.int .i64 0, .int .i64 0] :: .box 42 [.int .i64 q.2.1, .int .i64 q.2.2] :: q.1.X⟩)
    (fun q => m = q.1.d ++ q.1.r ∧ mostF q.2 q.1.r = mostF o m) (fun q => q.1.r.length) (⟨[], m, []⟩, o) ⟨rfl, rfl⟩ ⟨by simp only [List.length_nil, Int.natCast_zero]; repeat constructor, rfl⟩ ?_
  rintro ⟨⟨d, r, X⟩, p⟩ ⟨ha, h2⟩
  refine W.sound hmix (E := []) ?_
  simp only at ha h2
  cases r with
  | nil =>
    have e1 := frs_end ha
    simp only [run0, run1, run2, run3, run4, run5, run6, run7, run8, run9, run10, run11, run12, run13, run14, run15, run16, run17, run18, run19, run20, run21, run22, reduceCtorEq, Nat.reduceEqDiff, Nat.reduceAdd, Nat.reduceSub, Nat.reduceLeDiff, indexAddrA, indexRefA, appendA, strA, Nat.reduceMul, Nat.zero_mul, Nat.reduceMod, Int.reduceEq, Int.reduceLT, Int.reduceLE, Nat.reduceLT, Nat.lt_irrefl, Nat.reduceBEq, tys0, tys1, tys2, tys3, tys4, tys5, tys6, tys7, tys8, tys9, tys10, tys11, tys12, tys13, tys14, tys15, tys16, tys17, tys18, tys19, tys20, tys21, tys22, tys23, Try.ntmps124, Try.results124, List.length_map, e1]
    exact Fin.eq (by rw [← h2]; rfl) rfl
  | cons e r =>
    obtain ⟨e1, e2, e5⟩ := frs_split ha hl
    have hc := cmpQ_ok e p
    simp only [fr] at hc
    rw [mostF_cons] at h2
    simp only [run0, run1, run2, run3, run4, run5, run6, run7, run8, run9, run10, run11, run12, run13, run14, run15, run16, run17, run18, run19, run20, run21, run22, reduceCtorEq, Nat.reduceEqDiff, Nat.reduceAdd, Nat.reduceSub, Nat.reduceLeDiff, indexAddrA, indexRefA, appendA, strA, Nat.reduceMul, Nat.zero_mul, Nat.reduceMod, Int.reduceEq, Int.reduceLT, Int.reduceLE, Nat.reduceLT, Nat.lt_irrefl, Nat.reduceBEq, tys0, tys1, tys2, tys3, tys4, tys5, tys6, tys7, tys8, tys9, tys10, tys11, tys12, tys13, tys14, tys15, tys16, tys17, tys18, tys19, tys20, tys21, tys22, tys23, Try.ntmps124, Try.results124, List.length_map, e1, e2, Int.toNat_natCast, Int.natCast_nonneg, List.getElem?_append_right, Nat.sub_self]
    refine RunL.callp rfl rfl ok_f78 (hc) (by first | rfl | simp only [pureL, pureB, Bool.and_self, Bool.and_true, Bool.true_and]) rfl ?_
    by_cases hp : 0 < cmpQ e p
    · rw [if_pos hp] at h2
      simp only [run0, run1, run2, run3, run4, run5, run6, run7, run8, run9, run10, run11, run12, run13, run14, run15, run16, run17, run18, run19, run20, run21, run22, reduceCtorEq, Nat.reduceEqDiff, Nat.reduceAdd, Nat.reduceSub, Nat.reduceLeDiff, indexAddrA, indexRefA, appendA, strA, Nat.reduceMul, Nat.zero_mul, Nat.reduceMod, Int.reduceEq, Int.reduceLT, Int.reduceLE, Nat.reduceLT, Nat.lt_irrefl, Nat.reduceBEq, tys0, tys1, tys2, tys3, tys4, tys5, tys6, tys7, tys8, tys9, tys10, tys11, tys12, tys13, tys14, tys15, tys16, tys17, tys18, tys19, tys20, tys21, tys22, tys23, Try.ntmps124, Try.results124, hp, e5]
      exact ⟨(⟨d ++ [e], r, _⟩, e), ⟨by simp [ha], h2⟩, by simp, by simp only [List.length_append, List.length_cons, List.length_nil]; repeat constructor, rfl⟩
    · rw [if_neg hp] at h2
      simp only [run0, run1, run2, run3, run4, run5, run6, run7, run8, run9, run10, run11, run12, run13, run14, run15, run16, run17, run18, run19, run20, run21, run22, reduceCtorEq, Nat.reduceEqDiff, Nat.reduceAdd, Nat.reduceSub, Nat.reduceLeDiff, indexAddrA, indexRefA, appendA, strA, Nat.reduceMul, Nat.zero_mul, Nat.reduceMod, Int.reduceEq, Int.reduceLT, Int.reduceLE, Nat.reduceLT, Nat.lt_irrefl, Nat.reduceBEq, tys0, tys1, tys2, tys3, tys4, tys5, tys6, tys7, tys8, tys9, tys10, tys11, tys12, tys13, tys14, tys15, tys16, tys17, tys18, tys19, tys20, tys21, tys22, tys23, Try.ntmps124, Try.results124, hp, e5]
      exact ⟨(⟨d ++ [e], r, _⟩, p), ⟨by simp [ha], h2⟩, by simp, by simp only [List.length_append, List.length_cons, List.length_nil]; repeat constructor, rfl⟩
theorem Vw_frs {L : List AObj} {id g n : Nat} {T : TypeId} {es : List AV} {l : List Fr} {o : Bool} (hL : L[id]? = some (.vec T 2 g es)) (he : es = l.map frE) (hn : n = l.length) : Vw L (.ref id [] g n) (.sl o (l.map frE)) := by
  subst he hn
  have := Vw.refPur (L := L) (id := id) (g := g) (n := l.length) (o := o) hL (by simp) (fun e he c hc => by
    obtain ⟨e', _, rfl⟩ := List.mem_map.1 he
    simp only [frE, AV.cells, List.mem_cons, List.not_mem_nil, or_false] at hc
    rcases hc with rfl | rfl <;> exact ⟨.of rfl, fun xs h => by cases h⟩)
  rwa [List.take_of_length_le (by simp)] at this
theorem shNegAll_ok (l : List Fr) (hl : l.length ≤ 1048576) : Ct Try.prog 126 [.sl false (l.map frE)] [] (.sl false ((l.map negF).map frE)) [] := by
  refine Ct.by_ hmix [] Try.func126 rfl ?_
  simp only [run0, run1, run2, run3, run4, run5, run6, run7, run8, run9, run10, run11, run12, run13, run14, run15, run16, run17, run18, run19, run20, run21, run22, reduceCtorEq, Nat.reduceEqDiff, Nat.reduceAdd, Nat.reduceSub, Nat.reduceLeDiff, indexAddrA, indexRefA, appendA, strA, Nat.reduceMul, Nat.zero_mul, Nat.reduceMod, Int.reduceEq, Int.reduceLT, Int.reduceLE, Nat.reduceLT, Nat.lt_irrefl, Nat.reduceBEq, tys0, tys1, tys2, tys3, tys4, tys5, tys6, tys7, tys8, tys9, tys10, tys11, tys12, tys13, tys14, tys15, tys16, tys17, tys18, tys19, tys20, tys21, tys22, tys23, Try.ntmps126, Try.results126, List.length_map]
  refine AWp.nil 3 42 2 rfl ?_
  refine AWp.loop_inv (ι := FxS) (fun q => ⟨[.sl false (l.map frE), .junk, nilV, .ref 0 [] q.d.length q.d.length, .junk, .junk, .sl false (l.map frE), .int .i64 l.length, .int .i64 q.d.length, .junk, .junk, .junk, .junk, .junk, .junk, .junk, .junk, .junk, .junk], .vec 42 2 q.d.length ((q.d.map negF).map frE) :: q.X⟩)
    (fun q => l = q.d ++ q.r) (fun q => q.r.length) ⟨[], l, []⟩ rfl ⟨by simp only [List.length_nil, Int.natCast_zero]; repeat constructor, rfl⟩ ?_
  rintro ⟨d, r, X⟩ ha
  refine W.sound hmix (E := []) ?_
  simp only at ha
  cases r with
  | nil =>
    have e1 := frs_end ha
    rw [List.append_nil] at ha
    subst ha
    simp only [run0, run1, run2, run3, run4, run5, run6, run7, run8, run9, run10, run11, run12, run13, run14, run15, run16, run17, run18, run19, run20, run21, run22, reduceCtorEq, Nat.reduceEqDiff, Nat.reduceAdd, Nat.reduceSub, Nat.reduceLeDiff, indexAddrA, indexRefA, appendA, strA, Nat.reduceMul, Nat.zero_mul, Nat.reduceMod, Int.reduceEq, Int.reduceLT, Int.reduceLE, Nat.reduceLT, Nat.lt_irrefl, Nat.reduceBEq, tys0, tys1, tys2, tys3, tys4, tys5, tys6, tys7, tys8, tys9, tys10, tys11, tys12, tys13, tys14, tys15, tys16, tys17, tys18, tys19, tys20, tys21, tys22, tys23, Try.ntmps126, Try.results126, List.length_map, e1]
    exact Fin.value (Vw_frs rfl rfl (by simp))
  | cons e r =>
    obtain ⟨e1, e2, e5⟩ := frs_split ha hl
    have hda : l.length = d.length + (r.length + 1) := by rw [ha]; simp
    have hc := shNeg_ok e.1 e.2
    simp only [fr] at hc
    have f3 : d.length + 1 ≤ 137438953472 := by omega
    have f4 := frs_noOwn (d.map negF)
    simp only [run0, run1, run2, run3, run4, run5, run6, run7, run8, run9, run10, run11, run12, run13, run14, run15, run16, run17, run18, run19, run20, run21, run22, reduceCtorEq, Nat.reduceEqDiff, Nat.reduceAdd, Nat.reduceSub, Nat.reduceLeDiff, indexAddrA, indexRefA, appendA, strA, Nat.reduceMul, Nat.zero_mul, Nat.reduceMod, Int.reduceEq, Int.reduceLT, Int.reduceLE, Nat.reduceLT, Nat.lt_irrefl, Nat.reduceBEq, tys0, tys1, tys2, tys3, tys4, tys5, tys6, tys7, tys8, tys9, tys10, tys11, tys12, tys13, tys14, tys15, tys16, tys17, tys18, tys19, tys20, tys21, tys22, tys23, Try.ntmps126, Try.results126, List.length_map, e1, e2, Int.toNat_natCast, Int.natCast_nonneg, List.getElem?_append_right, Nat.sub_self]
    refine RunL.callp rfl rfl ok_f125 (hc) (by first | rfl | simp only [pureL, pureB, Bool.and_self, Bool.and_true, Bool.true_and]) rfl ?_
    simp only [run0, run1, run2, run3, run4, run5, run6, run7, run8, run9, run10, run11, run12, run13, run14, run15, run16, run17, run18, run19, run20, run21, run22, reduceCtorEq, Nat.reduceEqDiff, Nat.reduceAdd, Nat.reduceSub, Nat.reduceLeDiff, indexAddrA, indexRefA, appendA, strA, Nat.reduceMul, Nat.zero_mul, Nat.reduceMod, Int.reduceEq, Int.reduceLT, Int.reduceLE, Nat.reduceLT, Nat.lt_irrefl, Nat.reduceBEq, tys0, tys1, tys2, tys3, tys4, tys5, tys6, tys7, tys8, tys9, tys10, tys11, tys12, tys13, tys14, tys15, tys16, tys17, tys18, tys19, tys20, tys21, tys22, tys23, Try.ntmps126, Try.results126, List.length_map, e5, f3, f4]
    exact ⟨⟨d ++ [e], r, X ++ [.box 42 [.int .i64 e.1, .int .i64 e.2]]⟩, by simp [ha], by simp, by simp only [List.length_append, List.length_cons, List.length_nil]; repeat constructor, by simp [frE, negF]⟩

/-! ### what the loop comes to -/
theorem bad_both {l r : List Fr} {x : Int} (hl : ∀ a ∈ l, FB a) (hr : ∀ a ∈ r, FB a) (hx : x.natAbs ≤ 50000000) (h1 : l.any (leB x) = true) (h2 : r.any (geB x) = true) : cutBad l r = true := by
  obtain ⟨a, ha, k1⟩ := List.any_eq_true.1 h1
  obtain ⟨b, hb, k2⟩ := List.any_eq_true.1 h2
  rcases no_between hx (cut_small l r).1 (hl a ha) (hr b hb) k1 k2 with h | h
  · simp only [cutBad, List.any_eq_true.2 ⟨a, ha, h⟩, Bool.true_or]
  · simp only [cutBad, List.any_eq_true.2 ⟨b, hb, h⟩, Bool.or_true]
structure SiS where
  n : Nat
  i : Wk
  s : Sw
  X : List AObj
structure SiI (l r : List Fr) (p : SiS) : Prop where
  size : p.i.word.size = p.n
  rl : Rl p.i p.s
  wj : Wj p.i
  zero : p.n = 0 → p.i.low = [] ∧ p.i.high = []
  run : wkRun (cutS l r) (21 - p.n) p.i = wkRun (cutS l r) 21 wk0
theorem SiI.start (l r : List Fr) : SiI l r ⟨0, wk0, sw0, []⟩ := ⟨rfl, ⟨at_zero, by decide, ⟨0, rfl⟩, rfl, rfl⟩, wj0, fun _ => ⟨rfl, rfl⟩, rfl⟩
theorem SiI.small {l r : List Fr} {p : SiS} (h : SiI l r p) (hn : p.n ≤ 20) : p.i.x.natAbs ≤ 50000000 := by
  have := h.rl.size
  have := h.size
  omega
theorem wkRun_succ (f : Int → Int) (k : Nat) (i : Wk) : wkRun f (k + 1) i = if f i.x = 0 ∨ i.word.size = 20 then { i with nums := i.nums ++ [i.x] } else if 0 < f i.x then wkRun f k ⟨i.nums ++ [i.x], i.word ++ plusB, i.low ++ [i.x], i.high, betw i.x (f i.x) (i.low ++ [i.x]) i.high⟩ else wkRun f k ⟨i.nums ++ [i.x], i.word ++ minusB, i.low, i.high ++ [i.x], betw i.x (f i.x) i.low (i.high ++ [i.x])⟩ := rfl
theorem SiI.stop {l r : List Fr} {p : SiS} (h : SiI l r p) (hn : p.n ≤ 20) (hs : cutS l r p.i.x = 0 ∨ p.n = 20) : cutX l r = p.i.x := by
  have h1 := h.run
  rw [show 21 - p.n = (20 - p.n) + 1 by omega] at h1
  rw [wkRun_succ (cutS l r) (20 - p.n) p.i] at h1
  rw [if_pos (by rw [h.size]; exact hs)] at h1
  unfold cutX
  rw [← h1]; simp
theorem SiI.none_ {l r : List Fr} {p : SiS} (h : SiI l r p) (hn : p.n ≤ 20) (h1 : l.any (leB p.i.x) = false) (h2 : r.any (geB p.i.x) = false) : simR l r = .tup [fr p.s.an p.s.ad, .bool true] := by
  have hx := h.stop hn (.inl (by simp [cutS, h1, h2]))
  have hb : cutBad l r = false := by simp [cutBad, hx, h1, h2]
  have hok := h.wj.ok (by rw [h.size]; exact hn)
  have ha := h.rl.at_
  simp only [simR, hb, hx, Bool.false_eq_true, if_false, Bool.not_false, frE, fr]
  unfold frN frD
  rw [if_pos hok, if_pos hok, ← ha.1, ← ha.2]
theorem SiI.up {l r : List Fr} {p : SiS} (h : SiI l r p) (hn : p.n ≤ 20) (h1 : l.any (leB p.i.x) = true) (X : List AObj) : swOk p.s true ∧ ((p.n = 20 ∧ cutBad l r = true) ∨ (p.n + 1 ≤ 20 ∧ SiI l r ⟨p.n + 1, stepP p.i, swStep p.s true, X⟩)) := by
  refine ⟨last_ok h.rl (by rw [h.size]; exact hn) true, ?_⟩
  by_cases h20 : p.n = 20
  · have hx := h.stop hn (.inr h20)
    exact .inl ⟨h20, by simp [cutBad, hx, h1]⟩
  · refine .inr ⟨by omega, ?_⟩
    obtain ⟨k1, k2⟩ := plus_rl h.rl (by rw [h.size]; omega)
    have hc : cutS l r p.i.x = 1 := by simp [cutS, h1]
    have hrun := h.run
    rw [show 21 - p.n = (21 - (p.n + 1)) + 1 by omega] at hrun
    rw [wkRun_succ (cutS l r) (21 - (p.n + 1)) p.i] at hrun
    rw [if_neg (by rw [h.size, hc]; omega), if_pos (by rw [hc]; omega), hc] at hrun
    exact ⟨by simp only [stepP, size_plus, h.size], k2, h.wj.plus (by rw [h.size]; omega) (fun e => (h.zero (by rw [← h.size]; exact e)).2), fun e => by simp at e, hrun⟩
theorem SiI.down {l r : List Fr} {p : SiS} (h : SiI l r p) (hn : p.n ≤ 20) (h1 : l.any (leB p.i.x) = false) (h2 : r.any (geB p.i.x) = true) (X : List AObj) : swOk p.s false ∧ ((p.n = 20 ∧ cutBad l r = true) ∨ (p.n + 1 ≤ 20 ∧ SiI l r ⟨p.n + 1, stepM p.i, swStep p.s false, X⟩)) := by
  refine ⟨last_ok h.rl (by rw [h.size]; exact hn) false, ?_⟩
  by_cases h20 : p.n = 20
  · have hx := h.stop hn (.inr h20)
    exact .inl ⟨h20, by simp [cutBad, hx, h2]⟩
  · refine .inr ⟨by omega, ?_⟩
    obtain ⟨k1, k2⟩ := minus_rl h.rl (by rw [h.size]; omega)
    have hc : cutS l r p.i.x = -1 := by simp [cutS, h1, h2]
    have hrun := h.run
    rw [show 21 - p.n = (21 - (p.n + 1)) + 1 by omega] at hrun
    rw [wkRun_succ (cutS l r) (21 - (p.n + 1)) p.i] at hrun
    rw [if_neg (by rw [h.size, hc]; omega), if_neg (by rw [hc]; omega), hc] at hrun
    exact ⟨by simp only [stepM, size_minus, h.size], k2, h.wj.minus (by rw [h.size]; omega) (fun e => (h.zero (by rw [← h.size]; exact e)).1), fun e => by simp at e, hrun⟩
theorem SiI.ge {l r : List Fr} {p : SiS} (h : SiI l r p) (hn : p.n ≤ 20) {o : Fr} {l' : List Fr} (hl : ∀ a ∈ o :: l', FB a) : (0 ≤ cmpQ (mostF o l') (p.s.an, p.s.ad)) ↔ (o :: l').any (leB p.i.x) = true := by
  have hx := h.small hn
  obtain ⟨h1, _⟩ := mostF_spec l' o (hl o (by simp)) (fun a ha => hl a (by simp [ha]))
  obtain ⟨b1, b2, b3, b4⟩ := hl _ h1
  rw [← up_any hx hl, side_le, decide_eq_true_eq]
  have := at_cmp (n := (mostF o l').1) (d := (mostF o l').2) h.rl.at_ hx (by omega) (by omega) (by omega)
  unfold cmpQ
  rw [this]
theorem SiI.le {l r : List Fr} {p : SiS} (h : SiI l r p) (hn : p.n ≤ 20) {o : Fr} {l' : List Fr} (hl : ∀ a ∈ o :: l', FB a) : (cmpQ (leastF o l') (p.s.an, p.s.ad) ≤ 0) ↔ (o :: l').any (geB p.i.x) = true := by
  have hx := h.small hn
  obtain ⟨h1, _⟩ := leastF_spec o l' hl
  obtain ⟨b1, b2, b3, b4⟩ := hl _ h1
  rw [← down_any hx hl, side_ge, decide_eq_true_eq]
  have := at_cmp (n := (leastF o l').1) (d := (leastF o l').2) h.rl.at_ hx (by omega) (by omega) (by omega)
  unfold cmpQ
  rw [this]

def swC (s : Sw) : List AV := [.int .i64 s.an, .int .i64 s.ad, .int .i64 s.ln, .int .i64 s.ld, .int .i64 s.hn, .int .i64 s.hd, .bool s.hasL, .bool s.hasH]
theorem shSimplest_nn  (hll : ([] : List Fr).length ≤ 1048576) (hrl : ([] : List Fr).length ≤ 1048576) (hl : ∀ a ∈ ([] : List Fr), FB a) (hr : ∀ a ∈ ([] : List Fr), FB a) : Ct Try.prog 80 [.sl false [], .sl false []] [] (simR ([] : List Fr) ([] : List Fr)) [] := by
  refine Ct.by_ hmix [] Try.func80 rfl ?_
  simp only [run0, run1, run2, run3, run4, run5, run6, run7, run8, run9, run10, run11, run12, run13, run14, run15, run16, run17, run18, run19, run20, run21, run22, reduceCtorEq, Nat.reduceEqDiff, Nat.reduceAdd, Nat.reduceSub, Nat.reduceLeDiff, indexAddrA, indexRefA, appendA, strA, Nat.reduceMul, Nat.zero_mul, Nat.reduceMod, Int.reduceEq, Int.reduceLT, Int.reduceLE, Nat.reduceLT, Nat.lt_irrefl, Nat.reduceBEq, tys0, tys1, tys2, tys3, tys4, tys5, tys6, tys7, tys8, tys9, tys10, tys11, tys12, tys13, tys14, tys15, tys16, tys17, tys18, tys19, tys20, tys21, tys22, tys23, Try.ntmps80, Try.results80, swV]
  refine RunL.callp rfl rfl ok_f123 (shStart_ok) (by first | rfl | simp only [pureL, pureB, Bool.and_self, Bool.and_true, Bool.true_and]) rfl ?_
  simp only [run0, run1, run2, run3, run4, run5, run6, run7, run8, run9, run10, run11, run12, run13, run14, run15, run16, run17, run18, run19, run20, run21, run22, reduceCtorEq, Nat.reduceEqDiff, Nat.reduceAdd, Nat.reduceSub, Nat.reduceLeDiff, indexAddrA, indexRefA, appendA, strA, Nat.reduceMul, Nat.zero_mul, Nat.reduceMod, Int.reduceEq, Int.reduceLT, Int.reduceLE, Nat.reduceLT, Nat.lt_irrefl, Nat.reduceBEq, tys0, tys1, tys2, tys3, tys4, tys5, tys6, tys7, tys8, tys9, tys10, tys11, tys12, tys13, tys14, tys15, tys16, tys17, tys18, tys19, tys20, tys21, tys22, tys23, Try.ntmps80, Try.results80, swV]
  refine AWp.loop_inv (ι := SiS) (fun p => ⟨[.sl false [], .sl false [], .junk, .junk, .ptr 0 0, .bool false, .ptr 1 0, .int .i64 p.n, .junk, .junk, .junk, .junk, .junk, .junk, .junk, .junk, .junk, .junk, .junk, .junk, .junk, .junk, .junk, .junk, .junk, .junk, .junk, .junk, .junk, .junk, .junk, .junk, .junk, .junk, .junk, .junk, .junk, .junk, .junk, .junk, .junk, .junk, .junk, .junk, .junk, .junk, .junk, .junk, .junk, .junk, .junk, .junk, .junk, .junk, .junk, .junk], .box 42 [.int .i64 0, .int .i64 0] :: .box 144 (swC p.s) :: p.X⟩)
    (fun p => (p.n = 21 ∧ cutBad ([] : List Fr) ([] : List Fr) = true) ∨ (p.n ≤ 20 ∧ SiI ([] : List Fr) ([] : List Fr) p)) (fun p => 21 - p.n) ⟨0, wk0, sw0, []⟩ (.inr ⟨by decide, SiI.start _ _⟩) ⟨by simp only [Int.natCast_zero]; repeat constructor, rfl⟩ ?_
  rintro p hI
  refine W.sound hmix (E := []) ?_
  rcases hI with ⟨hn, hbad⟩ | ⟨hn, hI⟩
  · have e1 : ¬ ((p.n : Int) ≤ 20) := by omega
    simp only [run0, run1, run2, run3, run4, run5, run6, run7, run8, run9, run10, run11, run12, run13, run14, run15, run16, run17, run18, run19, run20, run21, run22, reduceCtorEq, Nat.reduceEqDiff, Nat.reduceAdd, Nat.reduceSub, Nat.reduceLeDiff, indexAddrA, indexRefA, appendA, strA, Nat.reduceMul, Nat.zero_mul, Nat.reduceMod, Int.reduceEq, Int.reduceLT, Int.reduceLE, Nat.reduceLT, Nat.lt_irrefl, Nat.reduceBEq, tys0, tys1, tys2, tys3, tys4, tys5, tys6, tys7, tys8, tys9, tys10, tys11, tys12, tys13, tys14, tys15, tys16, tys17, tys18, tys19, tys20, tys21, tys22, tys23, Try.ntmps80, Try.results80, e1]
    exact Fin.eq (by simp [simR, hbad, frE]) rfl
  have e1 : (p.n : Int) ≤ 20 := by omega
  have e5 : IntKind.i64.wrap ((p.n : Int) + 1) = ((p.n + 1 : Nat) : Int) := by rw [i64_id (by omega) (by omega)]; simp
  have hx := hI.small hn
  simp only [run0, run1, run2, run3, run4, run5, run6, run7, run8, run9, run10, run11, run12, run13, run14, run15, run16, run17, run18, run19, run20, run21, run22, reduceCtorEq, Nat.reduceEqDiff, Nat.reduceAdd, Nat.reduceSub, Nat.reduceLeDiff, indexAddrA, indexRefA, appendA, strA, Nat.reduceMul, Nat.zero_mul, Nat.reduceMod, Int.reduceEq, Int.reduceLT, Int.reduceLE, Nat.reduceLT, Nat.lt_irrefl, Nat.reduceBEq, tys0, tys1, tys2, tys3, tys4, tys5, tys6, tys7, tys8, tys9, tys10, tys11, tys12, tys13, tys14, tys15, tys16, tys17, tys18, tys19, tys20, tys21, tys22, tys23, Try.ntmps80, Try.results80, swC, e1, List.length_map, Int.natCast_zero, Int.lt_irrefl]
  refine ⟨by kernel_rfl, ?_⟩
  refine ⟨by kernel_rfl, ?_⟩
  exact Fin.eq (by rw [hI.none_ hn rfl rfl]; rfl) rfl
theorem shSimplest_cn (o : Fr) (l : List Fr) (hll : (o :: l).length ≤ 1048576) (hrl : ([] : List Fr).length ≤ 1048576) (hl : ∀ a ∈ (o :: l), FB a) (hr : ∀ a ∈ ([] : List Fr), FB a) : Ct Try.prog 80 [.sl false (frE o :: l.map frE), .sl false []] [] (simR (o :: l) ([] : List Fr)) [] := by
  have pl : pureL (l.map frE) = true := frs_pure l
  have hlen : ((0 : Int) < ((l.length + 1 : Nat) : Int)) := by omega
  refine Ct.by_ hmix [] Try.func80 rfl ?_
  simp only [run0, run1, run2, run3, run4, run5, run6, run7, run8, run9, run10, run11, run12, run13, run14, run15, run16, run17, run18, run19, run20, run21, run22, reduceCtorEq, Nat.reduceEqDiff, Nat.reduceAdd, Nat.reduceSub, Nat.reduceLeDiff, indexAddrA, indexRefA, appendA, strA, Nat.reduceMul, Nat.zero_mul, Nat.reduceMod, Int.reduceEq, Int.reduceLT, Int.reduceLE, Nat.reduceLT, Nat.lt_irrefl, Nat.reduceBEq, tys0, tys1, tys2, tys3, tys4, tys5, tys6, tys7, tys8, tys9, tys10, tys11, tys12, tys13, tys14, tys15, tys16, tys17, tys18, tys19, tys20, tys21, tys22, tys23, Try.ntmps80, Try.results80, swV]
  refine RunL.callp rfl rfl ok_f123 (shStart_ok) (by first | rfl | simp only [pureL, pureB, Bool.and_self, Bool.and_true, Bool.true_and]) rfl ?_
  simp only [run0, run1, run2, run3, run4, run5, run6, run7, run8, run9, run10, run11, run12, run13, run14, run15, run16, run17, run18, run19, run20, run21, run22, reduceCtorEq, Nat.reduceEqDiff, Nat.reduceAdd, Nat.reduceSub, Nat.reduceLeDiff, indexAddrA, indexRefA, appendA, strA, Nat.reduceMul, Nat.zero_mul, Nat.reduceMod, Int.reduceEq, Int.reduceLT, Int.reduceLE, Nat.reduceLT, Nat.lt_irrefl, Nat.reduceBEq, tys0, tys1, tys2, tys3, tys4, tys5, tys6, tys7, tys8, tys9, tys10, tys11, tys12, tys13, tys14, tys15, tys16, tys17, tys18, tys19, tys20, tys21, tys22, tys23, Try.ntmps80, Try.results80, swV]
  refine AWp.loop_inv (ι := SiS) (fun p => ⟨[.sl false (frE o :: l.map frE), .sl false [], .junk, .junk, .ptr 0 0, .bool false, .ptr 1 0, .int .i64 p.n, .junk, .junk, .junk, .junk, .junk, .junk, .junk, .junk, .junk, .junk, .junk, .junk, .junk, .junk, .junk, .junk, .junk, .junk, .junk, .junk, .junk, .junk, .junk, .junk, .junk, .junk, .junk, .junk, .junk, .junk, .junk, .junk, .junk, .junk, .junk, .junk, .junk, .junk, .junk, .junk, .junk, .junk, .junk, .junk, .junk, .junk, .junk, .junk], .box 42 [.int .i64 0, .int .i64 0] :: .box 144 (swC p.s) :: p.X⟩)
    (fun p => (p.n = 21 ∧ cutBad (o :: l) ([] : List Fr) = true) ∨ (p.n ≤ 20 ∧ SiI (o :: l) ([] : List Fr) p)) (fun p => 21 - p.n) ⟨0, wk0, sw0, []⟩ (.inr ⟨by decide, SiI.start _ _⟩) ⟨by simp only [Int.natCast_zero]; repeat constructor, rfl⟩ ?_
  rintro p hI
  refine W.sound hmix (E := []) ?_
  rcases hI with ⟨hn, hbad⟩ | ⟨hn, hI⟩
  · have e1 : ¬ ((p.n : Int) ≤ 20) := by omega
    simp only [run0, run1, run2, run3, run4, run5, run6, run7, run8, run9, run10, run11, run12, run13, run14, run15, run16, run17, run18, run19, run20, run21, run22, reduceCtorEq, Nat.reduceEqDiff, Nat.reduceAdd, Nat.reduceSub, Nat.reduceLeDiff, indexAddrA, indexRefA, appendA, strA, Nat.reduceMul, Nat.zero_mul, Nat.reduceMod, Int.reduceEq, Int.reduceLT, Int.reduceLE, Nat.reduceLT, Nat.lt_irrefl, Nat.reduceBEq, tys0, tys1, tys2, tys3, tys4, tys5, tys6, tys7, tys8, tys9, tys10, tys11, tys12, tys13, tys14, tys15, tys16, tys17, tys18, tys19, tys20, tys21, tys22, tys23, Try.ntmps80, Try.results80, e1]
    exact Fin.eq (by simp [simR, hbad, frE]) rfl
  have e1 : (p.n : Int) ≤ 20 := by omega
  have e5 : IntKind.i64.wrap ((p.n : Int) + 1) = ((p.n + 1 : Nat) : Int) := by rw [i64_id (by omega) (by omega)]; simp
  have hx := hI.small hn
  have hge := hI.ge hn hl
  have hc1 := cmpQ_ok (mostF o l) (p.s.an, p.s.ad)
  simp only [fr, frE] at hc1
  rcases hU : (o :: l).any (leB p.i.x) with _ | _
  · have u1 : ¬ (0 ≤ cmpQ (mostF o l) (p.s.an, p.s.ad)) := (fun e => by rw [hge.1 e] at hU; cases hU)
    simp only [run0, run1, run2, run3, run4, run5, run6, run7, run8, run9, run10, run11, run12, run13, run14, run15, run16, run17, run18, run19, run20, run21, run22, reduceCtorEq, Nat.reduceEqDiff, Nat.reduceAdd, Nat.reduceSub, Nat.reduceLeDiff, indexAddrA, indexRefA, appendA, strA, Nat.reduceMul, Nat.zero_mul, Nat.reduceMod, Int.reduceEq, Int.reduceLT, Int.reduceLE, Nat.reduceLT, Nat.lt_irrefl, Nat.reduceBEq, tys0, tys1, tys2, tys3, tys4, tys5, tys6, tys7, tys8, tys9, tys10, tys11, tys12, tys13, tys14, tys15, tys16, tys17, tys18, tys19, tys20, tys21, tys22, tys23, Try.ntmps80, Try.results80, swC, e1, List.length_map, Int.natCast_zero, Int.lt_irrefl, hlen, u1]
    refine ⟨by kernel_rfl, ?_⟩
    refine RunL.callp rfl rfl ok_f124 (shMost_ok o l hll) (by simp only [pureL, pureB, frE, pl, Bool.and_self, Bool.and_true, Bool.true_and]) rfl ?_
    simp only [run0, run1, run2, run3, run4, run5, run6, run7, run8, run9, run10, run11, run12, run13, run14, run15, run16, run17, run18, run19, run20, run21, run22, reduceCtorEq, Nat.reduceEqDiff, Nat.reduceAdd, Nat.reduceSub, Nat.reduceLeDiff, indexAddrA, indexRefA, appendA, strA, Nat.reduceMul, Nat.zero_mul, Nat.reduceMod, Int.reduceEq, Int.reduceLT, Int.reduceLE, Nat.reduceLT, Nat.lt_irrefl, Nat.reduceBEq, tys0, tys1, tys2, tys3, tys4, tys5, tys6, tys7, tys8, tys9, tys10, tys11, tys12, tys13, tys14, tys15, tys16, tys17, tys18, tys19, tys20, tys21, tys22, tys23, Try.ntmps80, Try.results80, swC, frE]
    refine RunL.callp rfl rfl ok_f78 (hc1) (by first | rfl | simp only [pureL, pureB, Bool.and_self, Bool.and_true, Bool.true_and]) rfl ?_
    simp only [run0, run1, run2, run3, run4, run5, run6, run7, run8, run9, run10, run11, run12, run13, run14, run15, run16, run17, run18, run19, run20, run21, run22, reduceCtorEq, Nat.reduceEqDiff, Nat.reduceAdd, Nat.reduceSub, Nat.reduceLeDiff, indexAddrA, indexRefA, appendA, strA, Nat.reduceMul, Nat.zero_mul, Nat.reduceMod, Int.reduceEq, Int.reduceLT, Int.reduceLE, Nat.reduceLT, Nat.lt_irrefl, Nat.reduceBEq, tys0, tys1, tys2, tys3, tys4, tys5, tys6, tys7, tys8, tys9, tys10, tys11, tys12, tys13, tys14, tys15, tys16, tys17, tys18, tys19, tys20, tys21, tys22, tys23, Try.ntmps80, Try.results80, swC, e1, List.length_map, Int.natCast_zero, Int.lt_irrefl, hlen, u1]
    refine ⟨by kernel_rfl, ?_⟩
    exact Fin.eq (by rw [hI.none_ hn hU rfl]; rfl) rfl
  · have u1 : (0 ≤ cmpQ (mostF o l) (p.s.an, p.s.ad)) := hge.2 hU
    simp only [run0, run1, run2, run3, run4, run5, run6, run7, run8, run9, run10, run11, run12, run13, run14, run15, run16, run17, run18, run19, run20, run21, run22, reduceCtorEq, Nat.reduceEqDiff, Nat.reduceAdd, Nat.reduceSub, Nat.reduceLeDiff, indexAddrA, indexRefA, appendA, strA, Nat.reduceMul, Nat.zero_mul, Nat.reduceMod, Int.reduceEq, Int.reduceLT, Int.reduceLE, Nat.reduceLT, Nat.lt_irrefl, Nat.reduceBEq, tys0, tys1, tys2, tys3, tys4, tys5, tys6, tys7, tys8, tys9, tys10, tys11, tys12, tys13, tys14, tys15, tys16, tys17, tys18, tys19, tys20, tys21, tys22, tys23, Try.ntmps80, Try.results80, swC, e1, List.length_map, Int.natCast_zero, Int.lt_irrefl, hlen, u1]
    refine ⟨by kernel_rfl, ?_⟩
    refine RunL.callp rfl rfl ok_f124 (shMost_ok o l hll) (by simp only [pureL, pureB, frE, pl, Bool.and_self, Bool.and_true, Bool.true_and]) rfl ?_
    simp only [run0, run1, run2, run3, run4, run5, run6, run7, run8, run9, run10, run11, run12, run13, run14, run15, run16, run17, run18, run19, run20, run21, run22, reduceCtorEq, Nat.reduceEqDiff, Nat.reduceAdd, Nat.reduceSub, Nat.reduceLeDiff, indexAddrA, indexRefA, appendA, strA, Nat.reduceMul, Nat.zero_mul, Nat.reduceMod, Int.reduceEq, Int.reduceLT, Int.reduceLE, Nat.reduceLT, Nat.lt_irrefl, Nat.reduceBEq, tys0, tys1, tys2, tys3, tys4, tys5, tys6, tys7, tys8, tys9, tys10, tys11, tys12, tys13, tys14, tys15, tys16, tys17, tys18, tys19, tys20, tys21, tys22, tys23, Try.ntmps80, Try.results80, swC, frE]
    refine RunL.callp rfl rfl ok_f78 (hc1) (by first | rfl | simp only [pureL, pureB, Bool.and_self, Bool.and_true, Bool.true_and]) rfl ?_
    simp only [run0, run1, run2, run3, run4, run5, run6, run7, run8, run9, run10, run11, run12, run13, run14, run15, run16, run17, run18, run19, run20, run21, run22, reduceCtorEq, Nat.reduceEqDiff, Nat.reduceAdd, Nat.reduceSub, Nat.reduceLeDiff, indexAddrA, indexRefA, appendA, strA, Nat.reduceMul, Nat.zero_mul, Nat.reduceMod, Int.reduceEq, Int.reduceLT, Int.reduceLE, Nat.reduceLT, Nat.lt_irrefl, Nat.reduceBEq, tys0, tys1, tys2, tys3, tys4, tys5, tys6, tys7, tys8, tys9, tys10, tys11, tys12, tys13, tys14, tys15, tys16, tys17, tys18, tys19, tys20, tys21, tys22, tys23, Try.ntmps80, Try.results80, swC, e1, List.length_map, Int.natCast_zero, Int.lt_irrefl, hlen, u1]
    refine ⟨by kernel_rfl, ?_⟩
    obtain ⟨hok, hnx⟩ := hI.up hn hU p.X
    have hst := step_ok p.s true hok
    simp only [swV] at hst
    refine RunL.callp rfl rfl ok_f127 (hst) (by first | rfl | simp only [pureL, pureB, Bool.and_self, Bool.and_true, Bool.true_and]) rfl ?_
    simp only [run0, run1, run2, run3, run4, run5, run6, run7, run8, run9, run10, run11, run12, run13, run14, run15, run16, run17, run18, run19, run20, run21, run22, reduceCtorEq, Nat.reduceEqDiff, Nat.reduceAdd, Nat.reduceSub, Nat.reduceLeDiff, indexAddrA, indexRefA, appendA, strA, Nat.reduceMul, Nat.zero_mul, Nat.reduceMod, Int.reduceEq, Int.reduceLT, Int.reduceLE, Nat.reduceLT, Nat.lt_irrefl, Nat.reduceBEq, tys0, tys1, tys2, tys3, tys4, tys5, tys6, tys7, tys8, tys9, tys10, tys11, tys12, tys13, tys14, tys15, tys16, tys17, tys18, tys19, tys20, tys21, tys22, tys23, Try.ntmps80, Try.results80, swC, e5]
    rcases hnx with ⟨g1, g2⟩ | ⟨g1, g2⟩
    · exact ⟨⟨p.n + 1, p.i, swStep p.s true, p.X⟩, .inl ⟨by simp [g1], g2⟩, by simp only; omega, by repeat constructor, rfl⟩
    · exact ⟨⟨p.n + 1, stepP p.i, swStep p.s true, p.X⟩, .inr ⟨g1, g2⟩, by simp only; omega, by repeat constructor, rfl⟩
theorem shSimplest_nc (q : Fr) (r : List Fr) (hll : ([] : List Fr).length ≤ 1048576) (hrl : (q :: r).length ≤ 1048576) (hl : ∀ a ∈ ([] : List Fr), FB a) (hr : ∀ a ∈ (q :: r), FB a) : Ct Try.prog 80 [.sl false [], .sl false (frE q :: r.map frE)] [] (simR ([] : List Fr) (q :: r)) [] := by
  have pr : pureL (r.map frE) = true := frs_pure r
  have prn : pureL ((r.map negF).map frE) = true := frs_pure (r.map negF)
  have hlenr : ((0 : Int) < ((r.length + 1 : Nat) : Int)) := by omega
  refine Ct.by_ hmix [] Try.func80 rfl ?_
  simp only [run0, run1, run2, run3, run4, run5, run6, run7, run8, run9, run10, run11, run12, run13, run14, run15, run16, run17, run18, run19, run20, run21, run22, reduceCtorEq, Nat.reduceEqDiff, Nat.reduceAdd, Nat.reduceSub, Nat.reduceLeDiff, indexAddrA, indexRefA, appendA, strA, Nat.reduceMul, Nat.zero_mul, Nat.reduceMod, Int.reduceEq, Int.reduceLT, Int.reduceLE, Nat.reduceLT, Nat.lt_irrefl, Nat.reduceBEq, tys0, tys1, tys2, tys3, tys4, tys5, tys6, tys7, tys8, tys9, tys10, tys11, tys12, tys13, tys14, tys15, tys16, tys17, tys18, tys19, tys20, tys21, tys22, tys23, Try.ntmps80, Try.results80, swV]
  refine RunL.callp rfl rfl ok_f123 (shStart_ok) (by first | rfl | simp only [pureL, pureB, Bool.and_self, Bool.and_true, Bool.true_and]) rfl ?_
  simp only [run0, run1, run2, run3, run4, run5, run6, run7, run8, run9, run10, run11, run12, run13, run14, run15, run16, run17, run18, run19, run20, run21, run22, reduceCtorEq, Nat.reduceEqDiff, Nat.reduceAdd, Nat.reduceSub, Nat.reduceLeDiff, indexAddrA, indexRefA, appendA, strA, Nat.reduceMul, Nat.zero_mul, Nat.reduceMod, Int.reduceEq, Int.reduceLT, Int.reduceLE, Nat.reduceLT, Nat.lt_irrefl, Nat.reduceBEq, tys0, tys1, tys2, tys3, tys4, tys5, tys6, tys7, tys8, tys9, tys10, tys11, tys12, tys13, tys14, tys15, tys16, tys17, tys18, tys19, tys20, tys21, tys22, tys23, Try.ntmps80, Try.results80, swV]
  refine AWp.loop_inv (ι := SiS) (fun p => ⟨[.sl false [], .sl false (frE q :: r.map frE), .junk, .junk, .ptr 0 0, .bool false, .ptr 1 0, .int .i64 p.n, .junk, .junk, .junk, .junk, .junk, .junk, .junk, .junk, .junk, .junk, .junk, .junk, .junk, .junk, .junk, .junk, .junk, .junk, .junk, .junk, .junk, .junk, .junk, .junk, .junk, .junk, .junk, .junk, .junk, .junk, .junk, .junk, .junk, .junk, .junk, .junk, .junk, .junk, .junk, .junk, .junk, .junk, .junk, .junk, .junk, .junk, .junk, .junk], .box 42 [.int .i64 0, .int .i64 0] :: .box 144 (swC p.s) :: p.X⟩)
    (fun p => (p.n = 21 ∧ cutBad ([] : List Fr) (q :: r) = true) ∨ (p.n ≤ 20 ∧ SiI ([] : List Fr) (q :: r) p)) (fun p => 21 - p.n) ⟨0, wk0, sw0, []⟩ (.inr ⟨by decide, SiI.start _ _⟩) ⟨by simp only [Int.natCast_zero]; repeat constructor, rfl⟩ ?_
  rintro p hI
  refine W.sound hmix (E := []) ?_
  rcases hI with ⟨hn, hbad⟩ | ⟨hn, hI⟩
  · have e1 : ¬ ((p.n : Int) ≤ 20) := by omega
    simp only [run0, run1, run2, run3, run4, run5, run6, run7, run8, run9, run10, run11, run12, run13, run14, run15, run16, run17, run18, run19, run20, run21, run22, reduceCtorEq, Nat.reduceEqDiff, Nat.reduceAdd, Nat.reduceSub, Nat.reduceLeDiff, indexAddrA, indexRefA, appendA, strA, Nat.reduceMul, Nat.zero_mul, Nat.reduceMod, Int.reduceEq, Int.reduceLT, Int.reduceLE, Nat.reduceLT, Nat.lt_irrefl, Nat.reduceBEq, tys0, tys1, tys2, tys3, tys4, tys5, tys6, tys7, tys8, tys9, tys10, tys11, tys12, tys13, tys14, tys15, tys16, tys17, tys18, tys19, tys20, tys21, tys22, tys23, Try.ntmps80, Try.results80, e1]
    exact Fin.eq (by simp [simR, hbad, frE]) rfl
  have e1 : (p.n : Int) ≤ 20 := by omega
  have e5 : IntKind.i64.wrap ((p.n : Int) + 1) = ((p.n + 1 : Nat) : Int) := by rw [i64_id (by omega) (by omega)]; simp
  have hx := hI.small hn
  have hle := hI.le hn hr
  have hc2 := cmpQ_ok (leastF q r) (p.s.an, p.s.ad)
  have hng := shNeg_ok (mostF (negF q) (r.map negF)).1 (mostF (negF q) (r.map negF)).2
  have hmm := shMost_ok (negF q) (r.map negF) (by simpa using hrl)
  simp only [fr, frE] at hc2 hng hmm
  rcases hD : (q :: r).any (geB p.i.x) with _ | _
  · have d1 : ¬ (cmpQ (leastF q r) (p.s.an, p.s.ad) ≤ 0) := (fun e => by rw [hle.1 e] at hD; cases hD)
    simp only [run0, run1, run2, run3, run4, run5, run6, run7, run8, run9, run10, run11, run12, run13, run14, run15, run16, run17, run18, run19, run20, run21, run22, reduceCtorEq, Nat.reduceEqDiff, Nat.reduceAdd, Nat.reduceSub, Nat.reduceLeDiff, indexAddrA, indexRefA, appendA, strA, Nat.reduceMul, Nat.zero_mul, Nat.reduceMod, Int.reduceEq, Int.reduceLT, Int.reduceLE, Nat.reduceLT, Nat.lt_irrefl, Nat.reduceBEq, tys0, tys1, tys2, tys3, tys4, tys5, tys6, tys7, tys8, tys9, tys10, tys11, tys12, tys13, tys14, tys15, tys16, tys17, tys18, tys19, tys20, tys21, tys22, tys23, Try.ntmps80, Try.results80, swC, e1, List.length_map, Int.natCast_zero, Int.lt_irrefl, hlenr, d1]
    refine ⟨by kernel_rfl, ?_⟩
    refine ⟨by kernel_rfl, ?_⟩
    refine RunL.callp rfl rfl ok_f126 (shNegAll_ok (q :: r) hrl) (by simp only [List.map_cons, pureL, pureB, frE, pr, Bool.and_self, Bool.and_true, Bool.true_and]) rfl ?_
    simp only [run0, run1, run2, run3, run4, run5, run6, run7, run8, run9, run10, run11, run12, run13, run14, run15, run16, run17, run18, run19, run20, run21, run22, reduceCtorEq, Nat.reduceEqDiff, Nat.reduceAdd, Nat.reduceSub, Nat.reduceLeDiff, indexAddrA, indexRefA, appendA, strA, Nat.reduceMul, Nat.zero_mul, Nat.reduceMod, Int.reduceEq, Int.reduceLT, Int.reduceLE, Nat.reduceLT, Nat.lt_irrefl, Nat.reduceBEq, tys0, tys1, tys2, tys3, tys4, tys5, tys6, tys7, tys8, tys9, tys10, tys11, tys12, tys13, tys14, tys15, tys16, tys17, tys18, tys19, tys20, tys21, tys22, tys23, Try.ntmps80, Try.results80, swC, frE]
    refine RunL.callp rfl rfl ok_f124 hmm (by simp only [pureL, pureB, prn, Bool.and_self, Bool.and_true, Bool.true_and]) rfl ?_
    simp only [run0, run1, run2, run3, run4, run5, run6, run7, run8, run9, run10, run11, run12, run13, run14, run15, run16, run17, run18, run19, run20, run21, run22, reduceCtorEq, Nat.reduceEqDiff, Nat.reduceAdd, Nat.reduceSub, Nat.reduceLeDiff, indexAddrA, indexRefA, appendA, strA, Nat.reduceMul, Nat.zero_mul, Nat.reduceMod, Int.reduceEq, Int.reduceLT, Int.reduceLE, Nat.reduceLT, Nat.lt_irrefl, Nat.reduceBEq, tys0, tys1, tys2, tys3, tys4, tys5, tys6, tys7, tys8, tys9, tys10, tys11, tys12, tys13, tys14, tys15, tys16, tys17, tys18, tys19, tys20, tys21, tys22, tys23, Try.ntmps80, Try.results80, swC, frE]
    refine RunL.callp rfl rfl ok_f125 (hng) (by first | rfl | simp only [pureL, pureB, Bool.and_self, Bool.and_true, Bool.true_and]) rfl ?_
    simp only [run0, run1, run2, run3, run4, run5, run6, run7, run8, run9, run10, run11, run12, run13, run14, run15, run16, run17, run18, run19, run20, run21, run22, reduceCtorEq, Nat.reduceEqDiff, Nat.reduceAdd, Nat.reduceSub, Nat.reduceLeDiff, indexAddrA, indexRefA, appendA, strA, Nat.reduceMul, Nat.zero_mul, Nat.reduceMod, Int.reduceEq, Int.reduceLT, Int.reduceLE, Nat.reduceLT, Nat.lt_irrefl, Nat.reduceBEq, tys0, tys1, tys2, tys3, tys4, tys5, tys6, tys7, tys8, tys9, tys10, tys11, tys12, tys13, tys14, tys15, tys16, tys17, tys18, tys19, tys20, tys21, tys22, tys23, Try.ntmps80, Try.results80, swC]
    refine RunL.callp rfl rfl ok_f78 (hc2) (by first | rfl | simp only [pureL, pureB, Bool.and_self, Bool.and_true, Bool.true_and]) rfl ?_
    simp only [run0, run1, run2, run3, run4, run5, run6, run7, run8, run9, run10, run11, run12, run13, run14, run15, run16, run17, run18, run19, run20, run21, run22, reduceCtorEq, Nat.reduceEqDiff, Nat.reduceAdd, Nat.reduceSub, Nat.reduceLeDiff, indexAddrA, indexRefA, appendA, strA, Nat.reduceMul, Nat.zero_mul, Nat.reduceMod, Int.reduceEq, Int.reduceLT, Int.reduceLE, Nat.reduceLT, Nat.lt_irrefl, Nat.reduceBEq, tys0, tys1, tys2, tys3, tys4, tys5, tys6, tys7, tys8, tys9, tys10, tys11, tys12, tys13, tys14, tys15, tys16, tys17, tys18, tys19, tys20, tys21, tys22, tys23, Try.ntmps80, Try.results80, swC, e1, List.length_map, Int.natCast_zero, Int.lt_irrefl, hlenr, d1]
    exact Fin.eq (by rw [hI.none_ hn rfl hD]; rfl) rfl
  · have d1 : (cmpQ (leastF q r) (p.s.an, p.s.ad) ≤ 0) := hle.2 hD
    simp only [run0, run1, run2, run3, run4, run5, run6, run7, run8, run9, run10, run11, run12, run13, run14, run15, run16, run17, run18, run19, run20, run21, run22, reduceCtorEq, Nat.reduceEqDiff, Nat.reduceAdd, Nat.reduceSub, Nat.reduceLeDiff, indexAddrA, indexRefA, appendA, strA, Nat.reduceMul, Nat.zero_mul, Nat.reduceMod, Int.reduceEq, Int.reduceLT, Int.reduceLE, Nat.reduceLT, Nat.lt_irrefl, Nat.reduceBEq, tys0, tys1, tys2, tys3, tys4, tys5, tys6, tys7, tys8, tys9, tys10, tys11, tys12, tys13, tys14, tys15, tys16, tys17, tys18, tys19, tys20, tys21, tys22, tys23, Try.ntmps80, Try.results80, swC, e1, List.length_map, Int.natCast_zero, Int.lt_irrefl, hlenr, d1]
    refine ⟨by kernel_rfl, ?_⟩
    refine ⟨by kernel_rfl, ?_⟩
    refine RunL.callp rfl rfl ok_f126 (shNegAll_ok (q :: r) hrl) (by simp only [List.map_cons, pureL, pureB, frE, pr, Bool.and_self, Bool.and_true, Bool.true_and]) rfl ?_
    simp only [run0, run1, run2, run3, run4, run5, run6, run7, run8, run9, run10, run11, run12, run13, run14, run15, run16, run17, run18, run19, run20, run21, run22, reduceCtorEq, Nat.reduceEqDiff, Nat.reduceAdd, Nat.reduceSub, Nat.reduceLeDiff, indexAddrA, indexRefA, appendA, strA, Nat.reduceMul, Nat.zero_mul, Nat.reduceMod, Int.reduceEq, Int.reduceLT, Int.reduceLE, Nat.reduceLT, Nat.lt_irrefl, Nat.reduceBEq, tys0, tys1, tys2, tys3, tys4, tys5, tys6, tys7, tys8, tys9, tys10, tys11, tys12, tys13, tys14, tys15, tys16, tys17, tys18, tys19, tys20, tys21, tys22, tys23, Try.ntmps80, Try.results80, swC, frE]
    refine RunL.callp rfl rfl ok_f124 hmm (by simp only [pureL, pureB, prn, Bool.and_self, Bool.and_true, Bool.true_and]) rfl ?_
    simp only [run0, run1, run2, run3, run4, run5, run6, run7, run8, run9, run10, run11, run12, run13, run14, run15, run16, run17, run18, run19, run20, run21, run22, reduceCtorEq, Nat.reduceEqDiff, Nat.reduceAdd, Nat.reduceSub, Nat.reduceLeDiff, indexAddrA, indexRefA, appendA, strA, Nat.reduceMul, Nat.zero_mul, Nat.reduceMod, Int.reduceEq, Int.reduceLT, Int.reduceLE, Nat.reduceLT, Nat.lt_irrefl, Nat.reduceBEq, tys0, tys1, tys2, tys3, tys4, tys5, tys6, tys7, tys8, tys9, tys10, tys11, tys12, tys13, tys14, tys15, tys16, tys17, tys18, tys19, tys20, tys21, tys22, tys23, Try.ntmps80, Try.results80, swC, frE]
    refine RunL.callp rfl rfl ok_f125 (hng) (by first | rfl | simp only [pureL, pureB, Bool.and_self, Bool.and_true, Bool.true_and]) rfl ?_
    simp only [run0, run1, run2, run3, run4, run5, run6, run7, run8, run9, run10, run11, run12, run13, run14, run15, run16, run17, run18, run19, run20, run21, run22, reduceCtorEq, Nat.reduceEqDiff, Nat.reduceAdd, Nat.reduceSub, Nat.reduceLeDiff, indexAddrA, indexRefA, appendA, strA, Nat.reduceMul, Nat.zero_mul, Nat.reduceMod, Int.reduceEq, Int.reduceLT, Int.reduceLE, Nat.reduceLT, Nat.lt_irrefl, Nat.reduceBEq, tys0, tys1, tys2, tys3, tys4, tys5, tys6, tys7, tys8, tys9, tys10, tys11, tys12, tys13, tys14, tys15, tys16, tys17, tys18, tys19, tys20, tys21, tys22, tys23, Try.ntmps80, Try.results80, swC]
    refine RunL.callp rfl rfl ok_f78 (hc2) (by first | rfl | simp only [pureL, pureB, Bool.and_self, Bool.and_true, Bool.true_and]) rfl ?_
    simp only [run0, run1, run2, run3, run4, run5, run6, run7, run8, run9, run10, run11, run12, run13, run14, run15, run16, run17, run18, run19, run20, run21, run22, reduceCtorEq, Nat.reduceEqDiff, Nat.reduceAdd, Nat.reduceSub, Nat.reduceLeDiff, indexAddrA, indexRefA, appendA, strA, Nat.reduceMul, Nat.zero_mul, Nat.reduceMod, Int.reduceEq, Int.reduceLT, Int.reduceLE, Nat.reduceLT, Nat.lt_irrefl, Nat.reduceBEq, tys0, tys1, tys2, tys3, tys4, tys5, tys6, tys7, tys8, tys9, tys10, tys11, tys12, tys13, tys14, tys15, tys16, tys17, tys18, tys19, tys20, tys21, tys22, tys23, Try.ntmps80, Try.results80, swC, e1, List.length_map, Int.natCast_zero, Int.lt_irrefl, hlenr, d1]
    obtain ⟨hok, hnx⟩ := hI.down hn rfl hD p.X
    have hst := step_ok p.s false hok
    simp only [swV] at hst
    refine RunL.callp rfl rfl ok_f127 (hst) (by first | rfl | simp only [pureL, pureB, Bool.and_self, Bool.and_true, Bool.true_and]) rfl ?_
    simp only [run0, run1, run2, run3, run4, run5, run6, run7, run8, run9, run10, run11, run12, run13, run14, run15, run16, run17, run18, run19, run20, run21, run22, reduceCtorEq, Nat.reduceEqDiff, Nat.reduceAdd, Nat.reduceSub, Nat.reduceLeDiff, indexAddrA, indexRefA, appendA, strA, Nat.reduceMul, Nat.zero_mul, Nat.reduceMod, Int.reduceEq, Int.reduceLT, Int.reduceLE, Nat.reduceLT, Nat.lt_irrefl, Nat.reduceBEq, tys0, tys1, tys2, tys3, tys4, tys5, tys6, tys7, tys8, tys9, tys10, tys11, tys12, tys13, tys14, tys15, tys16, tys17, tys18, tys19, tys20, tys21, tys22, tys23, Try.ntmps80, Try.results80, swC, e5]
    rcases hnx with ⟨g1, g2⟩ | ⟨g1, g2⟩
    · exact ⟨⟨p.n + 1, p.i, swStep p.s false, p.X⟩, .inl ⟨by simp [g1], g2⟩, by simp only; omega, by repeat constructor, rfl⟩
    · exact ⟨⟨p.n + 1, stepM p.i, swStep p.s false, p.X⟩, .inr ⟨g1, g2⟩, by simp only; omega, by repeat constructor, rfl⟩
theorem shSimplest_cc (o : Fr) (l : List Fr) (q : Fr) (r : List Fr) (hll : (o :: l).length ≤ 1048576) (hrl : (q :: r).length ≤ 1048576) (hl : ∀ a ∈ (o :: l), FB a) (hr : ∀ a ∈ (q :: r), FB a) : Ct Try.prog 80 [.sl false (frE o :: l.map frE), .sl false (frE q :: r.map frE)] [] (simR (o :: l) (q :: r)) [] := by
  have pl : pureL (l.map frE) = true := frs_pure l
  have hlen : ((0 : Int) < ((l.length + 1 : Nat) : Int)) := by omega
  have pr : pureL (r.map frE) = true := frs_pure r
  have prn : pureL ((r.map negF).map frE) = true := frs_pure (r.map negF)
  have hlenr : ((0 : Int) < ((r.length + 1 : Nat) : Int)) := by omega
  refine Ct.by_ hmix [] Try.func80 rfl ?_
  simp only [run0, run1, run2, run3, run4, run5, run6, run7, run8, run9, run10, run11, run12, run13, run14, run15, run16, run17, run18, run19, run20, run21, run22, reduceCtorEq, Nat.reduceEqDiff, Nat.reduceAdd, Nat.reduceSub, Nat.reduceLeDiff, indexAddrA, indexRefA, appendA, strA, Nat.reduceMul, Nat.zero_mul, Nat.reduceMod, Int.reduceEq, Int.reduceLT, Int.reduceLE, Nat.reduceLT, Nat.lt_irrefl, Nat.reduceBEq, tys0, tys1, tys2, tys3, tys4, tys5, tys6, tys7, tys8, tys9, tys10, tys11, tys12, tys13, tys14, tys15, tys16, tys17, tys18, tys19, tys20, tys21, tys22, tys23, Try.ntmps80, Try.results80, swV]
  refine RunL.callp rfl rfl ok_f123 (shStart_ok) (by first | rfl | simp only [pureL, pureB, Bool.and_self, Bool.and_true, Bool.true_and]) rfl ?_
  simp only [run0, run1, run2, run3, run4, run5, run6, run7, run8, run9, run10, run11, run12, run13, run14, run15, run16, run17, run18, run19, run20, run21, run22, reduceCtorEq, Nat.reduceEqDiff, Nat.reduceAdd, Nat.reduceSub, Nat.reduceLeDiff, indexAddrA, indexRefA, appendA, strA, Nat.reduceMul, Nat.zero_mul, Nat.reduceMod, Int.reduceEq, Int.reduceLT, Int.reduceLE, Nat.reduceLT, Nat.lt_irrefl, Nat.reduceBEq, tys0, tys1, tys2, tys3, tys4, tys5, tys6, tys7, tys8, tys9, tys10, tys11, tys12, tys13, tys14, tys15, tys16, tys17, tys18, tys19, tys20, tys21, tys22, tys23, Try.ntmps80, Try.results80, swV]
  refine AWp.loop_inv (ι := SiS) (fun p => ⟨[.sl false (frE o :: l.map frE), .sl false (frE q :: r.map frE), .junk, .junk, .ptr 0 0, .bool false, .ptr 1 0, .int .i64 p.n, .junk, .junk, .junk, .junk, .junk, .junk, .junk, .junk, .junk, .junk, .junk, .junk, .junk, .junk, .junk, .junk, .junk, .junk, .junk, .junk, .junk, .junk, .junk, .junk, .junk, .junk, .junk, .junk, .junk, .junk, .junk, .junk, .junk, .junk, .junk, .junk, .junk, .junk, .junk, .junk, .junk, .junk, .junk, .junk, .junk, .junk, .junk, .junk], .box 42 [.int .i64 0, .int .i64 0] :: .box 144 (swC p.s) :: p.X⟩)
    (fun p => (p.n = 21 ∧ cutBad (o :: l) (q :: r) = true) ∨ (p.n ≤ 20 ∧ SiI (o :: l) (q :: r) p)) (fun p => 21 - p.n) ⟨0, wk0, sw0, []⟩ (.inr ⟨by decide, SiI.start _ _⟩) ⟨by simp only [Int.natCast_zero]; repeat constructor, rfl⟩ ?_
  rintro p hI
  refine W.sound hmix (E := []) ?_
  rcases hI with ⟨hn, hbad⟩ | ⟨hn, hI⟩
  · have e1 : ¬ ((p.n : Int) ≤ 20) := by omega
    simp only [run0, run1, run2, run3, run4, run5, run6, run7, run8, run9, run10, run11, run12, run13, run14, run15, run16, run17, run18, run19, run20, run21, run22, reduceCtorEq, Nat.reduceEqDiff, Nat.reduceAdd, Nat.reduceSub, Nat.reduceLeDiff, indexAddrA, indexRefA, appendA, strA, Nat.reduceMul, Nat.zero_mul, Nat.reduceMod, Int.reduceEq, Int.reduceLT, Int.reduceLE, Nat.reduceLT, Nat.lt_irrefl, Nat.reduceBEq, tys0, tys1, tys2, tys3, tys4, tys5, tys6, tys7, tys8, tys9, tys10, tys11, tys12, tys13, tys14, tys15, tys16, tys17, tys18, tys19, tys20, tys21, tys22, tys23, Try.ntmps80, Try.results80, e1]
    exact Fin.eq (by simp [simR, hbad, frE]) rfl
  have e1 : (p.n : Int) ≤ 20 := by omega
  have e5 : IntKind.i64.wrap ((p.n : Int) + 1) = ((p.n + 1 : Nat) : Int) := by rw [i64_id (by omega) (by omega)]; simp
  have hx := hI.small hn
  have hge := hI.ge hn hl
  have hc1 := cmpQ_ok (mostF o l) (p.s.an, p.s.ad)
  have hle := hI.le hn hr
  have hc2 := cmpQ_ok (leastF q r) (p.s.an, p.s.ad)
  have hng := shNeg_ok (mostF (negF q) (r.map negF)).1 (mostF (negF q) (r.map negF)).2
  have hmm := shMost_ok (negF q) (r.map negF) (by simpa using hrl)
  simp only [fr, frE] at hc1 hc2 hng hmm
  rcases hU : (o :: l).any (leB p.i.x) with _ | _
  · rcases hD : (q :: r).any (geB p.i.x) with _ | _
    · have u1 : ¬ (0 ≤ cmpQ (mostF o l) (p.s.an, p.s.ad)) := (fun e => by rw [hge.1 e] at hU; cases hU)
      have d1 : ¬ (cmpQ (leastF q r) (p.s.an, p.s.ad) ≤ 0) := (fun e => by rw [hle.1 e] at hD; cases hD)
      simp only [run0, run1, run2, run3, run4, run5, run6, run7, run8, run9, run10, run11, run12, run13, run14, run15, run16, run17, run18, run19, run20, run21, run22, reduceCtorEq, Nat.reduceEqDiff, Nat.reduceAdd, Nat.reduceSub, Nat.reduceLeDiff, indexAddrA, indexRefA, appendA, strA, Nat.reduceMul, Nat.zero_mul, Nat.reduceMod, Int.reduceEq, Int.reduceLT, Int.reduceLE, Nat.reduceLT, Nat.lt_irrefl, Nat.reduceBEq, tys0, tys1, tys2, tys3, tys4, tys5, tys6, tys7, tys8, tys9, tys10, tys11, tys12, tys13, tys14, tys15, tys16, tys17, tys18, tys19, tys20, tys21, tys22, tys23, Try.ntmps80, Try.results80, swC, e1, List.length_map, Int.natCast_zero, Int.lt_irrefl, hlen, hlenr, u1, d1]
      refine ⟨by kernel_rfl, ?_⟩
      refine RunL.callp rfl rfl ok_f124 (shMost_ok o l hll) (by simp only [pureL, pureB, frE, pl, Bool.and_self, Bool.and_true, Bool.true_and]) rfl ?_
      simp only [run0, run1, run2, run3, run4, run5, run6, run7, run8, run9, run10, run11, run12, run13, run14, run15, run16, run17, run18, run19, run20, run21, run22, reduceCtorEq, Nat.reduceEqDiff, Nat.reduceAdd, Nat.reduceSub, Nat.reduceLeDiff, indexAddrA, indexRefA, appendA, strA, Nat.reduceMul, Nat.zero_mul, Nat.reduceMod, Int.reduceEq, Int.reduceLT, Int.reduceLE, Nat.reduceLT, Nat.lt_irrefl, Nat.reduceBEq, tys0, tys1, tys2, tys3, tys4, tys5, tys6, tys7, tys8, tys9, tys10, tys11, tys12, tys13, tys14, tys15, tys16, tys17, tys18, tys19, tys20, tys21, tys22, tys23, Try.ntmps80, Try.results80, swC, frE]
      refine RunL.callp rfl rfl ok_f78 (hc1) (by first | rfl | simp only [pureL, pureB, Bool.and_self, Bool.and_true, Bool.true_and]) rfl ?_
      simp only [run0, run1, run2, run3, run4, run5, run6, run7, run8, run9, run10, run11, run12, run13, run14, run15, run16, run17, run18, run19, run20, run21, run22, reduceCtorEq, Nat.reduceEqDiff, Nat.reduceAdd, Nat.reduceSub, Nat.reduceLeDiff, indexAddrA, indexRefA, appendA, strA, Nat.reduceMul, Nat.zero_mul, Nat.reduceMod, Int.reduceEq, Int.reduceLT, Int.reduceLE, Nat.reduceLT, Nat.lt_irrefl, Nat.reduceBEq, tys0, tys1, tys2, tys3, tys4, tys5, tys6, tys7, tys8, tys9, tys10, tys11, tys12, tys13, tys14, tys15, tys16, tys17, tys18, tys19, tys20, tys21, tys22, tys23, Try.ntmps80, Try.results80, swC, e1, List.length_map, Int.natCast_zero, Int.lt_irrefl, hlen, hlenr, u1, d1]
      refine ⟨by kernel_rfl, ?_⟩
      refine RunL.callp rfl rfl ok_f126 (shNegAll_ok (q :: r) hrl) (by simp only [List.map_cons, pureL, pureB, frE, pr, Bool.and_self, Bool.and_true, Bool.true_and]) rfl ?_
      simp only [run0, run1, run2, run3, run4, run5, run6, run7, run8, run9, run10, run11, run12, run13, run14, run15, run16, run17, run18, run19, run20, run21, run22, reduceCtorEq, Nat.reduceEqDiff, Nat.reduceAdd, Nat.reduceSub, Nat.reduceLeDiff, indexAddrA, indexRefA, appendA, strA, Nat.reduceMul, Nat.zero_mul, Nat.reduceMod, Int.reduceEq, Int.reduceLT, Int.reduceLE, Nat.reduceLT, Nat.lt_irrefl, Nat.reduceBEq, tys0, tys1, tys2, tys3, tys4, tys5, tys6, tys7, tys8, tys9, tys10, tys11, tys12, tys13, tys14, tys15, tys16, tys17, tys18, tys19, tys20, tys21, tys22, tys23, Try.ntmps80, Try.results80, swC, frE]
      refine RunL.callp rfl rfl ok_f124 hmm (by simp only [pureL, pureB, prn, Bool.and_self, Bool.and_true, Bool.true_and]) rfl ?_
      simp only [run0, run1, run2, run3, run4, run5, run6, run7, run8, run9, run10, run11, run12, run13, run14, run15, run16, run17, run18, run19, run20, run21, run22, reduceCtorEq, Nat.reduceEqDiff, Nat.reduceAdd, Nat.reduceSub, Nat.reduceLeDiff, indexAddrA, indexRefA, appendA, strA, Nat.reduceMul, Nat.zero_mul, Nat.reduceMod, Int.reduceEq, Int.reduceLT, Int.reduceLE, Nat.reduceLT, Nat.lt_irrefl, Nat.reduceBEq, tys0, tys1, tys2, tys3, tys4, tys5, tys6, tys7, tys8, tys9, tys10, tys11, tys12, tys13, tys14, tys15, tys16, tys17, tys18, tys19, tys20, tys21, tys22, tys23, Try.ntmps80, Try.results80, swC, frE]
      refine RunL.callp rfl rfl ok_f125 (hng) (by first | rfl | simp only [pureL, pureB, Bool.and_self, Bool.and_true, Bool.true_and]) rfl ?_
      simp only [run0, run1, run2, run3, run4, run5, run6, run7, run8, run9, run10, run11, run12, run13, run14, run15, run16, run17, run18, run19, run20, run21, run22, reduceCtorEq, Nat.reduceEqDiff, Nat.reduceAdd, Nat.reduceSub, Nat.reduceLeDiff, indexAddrA, indexRefA, appendA, strA, Nat.reduceMul, Nat.zero_mul, Nat.reduceMod, Int.reduceEq, Int.reduceLT, Int.reduceLE, Nat.reduceLT, Nat.lt_irrefl, Nat.reduceBEq, tys0, tys1, tys2, tys3, tys4, tys5, tys6, tys7, tys8, tys9, tys10, tys11, tys12, tys13, tys14, tys15, tys16, tys17, tys18, tys19, tys20, tys21, tys22, tys23, Try.ntmps80, Try.results80, swC]
      refine RunL.callp rfl rfl ok_f78 (hc2) (by first | rfl | simp only [pureL, pureB, Bool.and_self, Bool.and_true, Bool.true_and]) rfl ?_
      simp only [run0, run1, run2, run3, run4, run5, run6, run7, run8, run9, run10, run11, run12, run13, run14, run15, run16, run17, run18, run19, run20, run21, run22, reduceCtorEq, Nat.reduceEqDiff, Nat.reduceAdd, Nat.reduceSub, Nat.reduceLeDiff, indexAddrA, indexRefA, appendA, strA, Nat.reduceMul, Nat.zero_mul, Nat.reduceMod, Int.reduceEq, Int.reduceLT, Int.reduceLE, Nat.reduceLT, Nat.lt_irrefl, Nat.reduceBEq, tys0, tys1, tys2, tys3, tys4, tys5, tys6, tys7, tys8, tys9, tys10, tys11, tys12, tys13, tys14, tys15, tys16, tys17, tys18, tys19, tys20, tys21, tys22, tys23, Try.ntmps80, Try.results80, swC, e1, List.length_map, Int.natCast_zero, Int.lt_irrefl, hlen, hlenr, u1, d1]
      exact Fin.eq (by rw [hI.none_ hn hU hD]; rfl) rfl
    · have u1 : ¬ (0 ≤ cmpQ (mostF o l) (p.s.an, p.s.ad)) := (fun e => by rw [hge.1 e] at hU; cases hU)
      have d1 : (cmpQ (leastF q r) (p.s.an, p.s.ad) ≤ 0) := hle.2 hD
      simp only [run0, run1, run2, run3, run4, run5, run6, run7, run8, run9, run10, run11, run12, run13, run14, run15, run16, run17, run18, run19, run20, run21, run22, reduceCtorEq, Nat.reduceEqDiff, Nat.reduceAdd, Nat.reduceSub, Nat.reduceLeDiff, indexAddrA, indexRefA, appendA, strA, Nat.reduceMul, Nat.zero_mul, Nat.reduceMod, Int.reduceEq, Int.reduceLT, Int.reduceLE, Nat.reduceLT, Nat.lt_irrefl, Nat.reduceBEq, tys0, tys1, tys2, tys3, tys4, tys5, tys6, tys7, tys8, tys9, tys10, tys11, tys12, tys13, tys14, tys15, tys16, tys17, tys18, tys19, tys20, tys21, tys22, tys23, Try.ntmps80, Try.results80, swC, e1, List.length_map, Int.natCast_zero, Int.lt_irrefl, hlen, hlenr, u1, d1]
      refine ⟨by kernel_rfl, ?_⟩
      refine RunL.callp rfl rfl ok_f124 (shMost_ok o l hll) (by simp only [pureL, pureB, frE, pl, Bool.and_self, Bool.and_true, Bool.true_and]) rfl ?_
      simp only [run0, run1, run2, run3, run4, run5, run6, run7, run8, run9, run10, run11, run12, run13, run14, run15, run16, run17, run18, run19, run20, run21, run22, reduceCtorEq, Nat.reduceEqDiff, Nat.reduceAdd, Nat.reduceSub, Nat.reduceLeDiff, indexAddrA, indexRefA, appendA, strA, Nat.reduceMul, Nat.zero_mul, Nat.reduceMod, Int.reduceEq, Int.reduceLT, Int.reduceLE, Nat.reduceLT, Nat.lt_irrefl, Nat.reduceBEq, tys0, tys1, tys2, tys3, tys4, tys5, tys6, tys7, tys8, tys9, tys10, tys11, tys12, tys13, tys14, tys15, tys16, tys17, tys18, tys19, tys20, tys21, tys22, tys23, Try.ntmps80, Try.results80, swC, frE]
      refine RunL.callp rfl rfl ok_f78 (hc1) (by first | rfl | simp only [pureL, pureB, Bool.and_self, Bool.and_true, Bool.true_and]) rfl ?_
      simp only [run0, run1, run2, run3, run4, run5, run6, run7, run8, run9, run10, run11, run12, run13, run14, run15, run16, run17, run18, run19, run20, run21, run22, reduceCtorEq, Nat.reduceEqDiff, Nat.reduceAdd, Nat.reduceSub, Nat.reduceLeDiff, indexAddrA, indexRefA, appendA, strA, Nat.reduceMul, Nat.zero_mul, Nat.reduceMod, Int.reduceEq, Int.reduceLT, Int.reduceLE, Nat.reduceLT, Nat.lt_irrefl, Nat.reduceBEq, tys0, tys1, tys2, tys3, tys4, tys5, tys6, tys7, tys8, tys9, tys10, tys11, tys12, tys13, tys14, tys15, tys16, tys17, tys18, tys19, tys20, tys21, tys22, tys23, Try.ntmps80, Try.results80, swC, e1, List.length_map, Int.natCast_zero, Int.lt_irrefl, hlen, hlenr, u1, d1]
      refine ⟨by kernel_rfl, ?_⟩
      refine RunL.callp rfl rfl ok_f126 (shNegAll_ok (q :: r) hrl) (by simp only [List.map_cons, pureL, pureB, frE, pr, Bool.and_self, Bool.and_true, Bool.true_and]) rfl ?_
      simp only [run0, run1, run2, run3, run4, run5, run6, run7, run8, run9, run10, run11, run12, run13, run14, run15, run16, run17, run18, run19, run20, run21, run22, reduceCtorEq, Nat.reduceEqDiff, Nat.reduceAdd, Nat.reduceSub, Nat.reduceLeDiff, indexAddrA, indexRefA, appendA, strA, Nat.reduceMul, Nat.zero_mul, Nat.reduceMod, Int.reduceEq, Int.reduceLT, Int.reduceLE, Nat.reduceLT, Nat.lt_irrefl, Nat.reduceBEq, tys0, tys1, tys2, tys3, tys4, tys5, tys6, tys7, tys8, tys9, tys10, tys11, tys12, tys13, tys14, tys15, tys16, tys17, tys18, tys19, tys20, tys21, tys22, tys23, Try.ntmps80, Try.results80, swC, frE]
      refine RunL.callp rfl rfl ok_f124 hmm (by simp only [pureL, pureB, prn, Bool.and_self, Bool.and_true, Bool.true_and]) rfl ?_
      simp only [run0, run1, run2, run3, run4, run5, run6, run7, run8, run9, run10, run11, run12, run13, run14, run15, run16, run17, run18, run19, run20, run21, run22, reduceCtorEq, Nat.reduceEqDiff, Nat.reduceAdd, Nat.reduceSub, Nat.reduceLeDiff, indexAddrA, indexRefA, appendA, strA, Nat.reduceMul, Nat.zero_mul, Nat.reduceMod, Int.reduceEq, Int.reduceLT, Int.reduceLE, Nat.reduceLT, Nat.lt_irrefl, Nat.reduceBEq, tys0, tys1, tys2, tys3, tys4, tys5, tys6, tys7, tys8, tys9, tys10, tys11, tys12, tys13, tys14, tys15, tys16, tys17, tys18, tys19, tys20, tys21, tys22, tys23, Try.ntmps80, Try.results80, swC, frE]
      refine RunL.callp rfl rfl ok_f125 (hng) (by first | rfl | simp only [pureL, pureB, Bool.and_self, Bool.and_true, Bool.true_and]) rfl ?_
      simp only [run0, run1, run2, run3, run4, run5, run6, run7, run8, run9, run10, run11, run12, run13, run14, run15, run16, run17, run18, run19, run20, run21, run22, reduceCtorEq, Nat.reduceEqDiff, Nat.reduceAdd, Nat.reduceSub, Nat.reduceLeDiff, indexAddrA, indexRefA, appendA, strA, Nat.reduceMul, Nat.zero_mul, Nat.reduceMod, Int.reduceEq, Int.reduceLT, Int.reduceLE, Nat.reduceLT, Nat.lt_irrefl, Nat.reduceBEq, tys0, tys1, tys2, tys3, tys4, tys5, tys6, tys7, tys8, tys9, tys10, tys11, tys12, tys13, tys14, tys15, tys16, tys17, tys18, tys19, tys20, tys21, tys22, tys23, Try.ntmps80, Try.results80, swC]
      refine RunL.callp rfl rfl ok_f78 (hc2) (by first | rfl | simp only [pureL, pureB, Bool.and_self, Bool.and_true, Bool.true_and]) rfl ?_
      simp only [run0, run1, run2, run3, run4, run5, run6, run7, run8, run9, run10, run11, run12, run13, run14, run15, run16, run17, run18, run19, run20, run21, run22, reduceCtorEq, Nat.reduceEqDiff, Nat.reduceAdd, Nat.reduceSub, Nat.reduceLeDiff, indexAddrA, indexRefA, appendA, strA, Nat.reduceMul, Nat.zero_mul, Nat.reduceMod, Int.reduceEq, Int.reduceLT, Int.reduceLE, Nat.reduceLT, Nat.lt_irrefl, Nat.reduceBEq, tys0, tys1, tys2, tys3, tys4, tys5, tys6, tys7, tys8, tys9, tys10, tys11, tys12, tys13, tys14, tys15, tys16, tys17, tys18, tys19, tys20, tys21, tys22, tys23, Try.ntmps80, Try.results80, swC, e1, List.length_map, Int.natCast_zero, Int.lt_irrefl, hlen, hlenr, u1, d1]
      obtain ⟨hok, hnx⟩ := hI.down hn hU hD p.X
      have hst := step_ok p.s false hok
      simp only [swV] at hst
      refine RunL.callp rfl rfl ok_f127 (hst) (by first | rfl | simp only [pureL, pureB, Bool.and_self, Bool.and_true, Bool.true_and]) rfl ?_
      simp only [run0, run1, run2, run3, run4, run5, run6, run7, run8, run9, run10, run11, run12, run13, run14, run15, run16, run17, run18, run19, run20, run21, run22, reduceCtorEq, Nat.reduceEqDiff, Nat.reduceAdd, Nat.reduceSub, Nat.reduceLeDiff, indexAddrA, indexRefA, appendA, strA, Nat.reduceMul, Nat.zero_mul, Nat.reduceMod, Int.reduceEq, Int.reduceLT, Int.reduceLE, Nat.reduceLT, Nat.lt_irrefl, Nat.reduceBEq, tys0, tys1, tys2, tys3, tys4, tys5, tys6, tys7, tys8, tys9, tys10, tys11, tys12, tys13, tys14, tys15, tys16, tys17, tys18, tys19, tys20, tys21, tys22, tys23, Try.ntmps80, Try.results80, swC, e5]
      rcases hnx with ⟨g1, g2⟩ | ⟨g1, g2⟩
      · exact ⟨⟨p.n + 1, p.i, swStep p.s false, p.X⟩, .inl ⟨by simp [g1], g2⟩, by simp only; omega, by repeat constructor, rfl⟩
      · exact ⟨⟨p.n + 1, stepM p.i, swStep p.s false, p.X⟩, .inr ⟨g1, g2⟩, by simp only; omega, by repeat constructor, rfl⟩
  · rcases hD : (q :: r).any (geB p.i.x) with _ | _
    · have u1 : (0 ≤ cmpQ (mostF o l) (p.s.an, p.s.ad)) := hge.2 hU
      have d1 : ¬ (cmpQ (leastF q r) (p.s.an, p.s.ad) ≤ 0) := (fun e => by rw [hle.1 e] at hD; cases hD)
      simp only [run0, run1, run2, run3, run4, run5, run6, run7, run8, run9, run10, run11, run12, run13, run14, run15, run16, run17, run18, run19, run20, run21, run22, reduceCtorEq, Nat.reduceEqDiff, Nat.reduceAdd, Nat.reduceSub, Nat.reduceLeDiff, indexAddrA, indexRefA, appendA, strA, Nat.reduceMul, Nat.zero_mul, Nat.reduceMod, Int.reduceEq, Int.reduceLT, Int.reduceLE, Nat.reduceLT, Nat.lt_irrefl, Nat.reduceBEq, tys0, tys1, tys2, tys3, tys4, tys5, tys6, tys7, tys8, tys9, tys10, tys11, tys12, tys13, tys14, tys15, tys16, tys17, tys18, tys19, tys20, tys21, tys22, tys23, Try.ntmps80, Try.results80, swC, e1, List.length_map, Int.natCast_zero, Int.lt_irrefl, hlen, hlenr, u1, d1]
      refine ⟨by kernel_rfl, ?_⟩
      refine RunL.callp rfl rfl ok_f124 (shMost_ok o l hll) (by simp only [pureL, pureB, frE, pl, Bool.and_self, Bool.and_true, Bool.true_and]) rfl ?_
      simp only [run0, run1, run2, run3, run4, run5, run6, run7, run8, run9, run10, run11, run12, run13, run14, run15, run16, run17, run18, run19, run20, run21, run22, reduceCtorEq, Nat.reduceEqDiff, Nat.reduceAdd, Nat.reduceSub, Nat.reduceLeDiff, indexAddrA, indexRefA, appendA, strA, Nat.reduceMul, Nat.zero_mul, Nat.reduceMod, Int.reduceEq, Int.reduceLT, Int.reduceLE, Nat.reduceLT, Nat.lt_irrefl, Nat.reduceBEq, tys0, tys1, tys2, tys3, tys4, tys5, tys6, tys7, tys8, tys9, tys10, tys11, tys12, tys13, tys14, tys15, tys16, tys17, tys18, tys19, tys20, tys21, tys22, tys23, Try.ntmps80, Try.results80, swC, frE]
      refine RunL.callp rfl rfl ok_f78 (hc1) (by first | rfl | simp only [pureL, pureB, Bool.and_self, Bool.and_true, Bool.true_and]) rfl ?_
      simp only [run0, run1, run2, run3, run4, run5, run6, run7, run8, run9, run10, run11, run12, run13, run14, run15, run16, run17, run18, run19, run20, run21, run22, reduceCtorEq, Nat.reduceEqDiff, Nat.reduceAdd, Nat.reduceSub, Nat.reduceLeDiff, indexAddrA, indexRefA, appendA, strA, Nat.reduceMul, Nat.zero_mul, Nat.reduceMod, Int.reduceEq, Int.reduceLT, Int.reduceLE, Nat.reduceLT, Nat.lt_irrefl, Nat.reduceBEq, tys0, tys1, tys2, tys3, tys4, tys5, tys6, tys7, tys8, tys9, tys10, tys11, tys12, tys13, tys14, tys15, tys16, tys17, tys18, tys19, tys20, tys21, tys22, tys23, Try.ntmps80, Try.results80, swC, e1, List.length_map, Int.natCast_zero, Int.lt_irrefl, hlen, hlenr, u1, d1]
      refine ⟨by kernel_rfl, ?_⟩
      refine RunL.callp rfl rfl ok_f126 (shNegAll_ok (q :: r) hrl) (by simp only [List.map_cons, pureL, pureB, frE, pr, Bool.and_self, Bool.and_true, Bool.true_and]) rfl ?_
      simp only [run0, run1, run2, run3, run4, run5, run6, run7, run8, run9, run10, run11, run12, run13, run14, run15, run16, run17, run18, run19, run20, run21, run22, reduceCtorEq, Nat.reduceEqDiff, Nat.reduceAdd, Nat.reduceSub, Nat.reduceLeDiff, indexAddrA, indexRefA, appendA, strA, Nat.reduceMul, Nat.zero_mul, Nat.reduceMod, Int.reduceEq, Int.reduceLT, Int.reduceLE, Nat.reduceLT, Nat.lt_irrefl, Nat.reduceBEq, tys0, tys1, tys2, tys3, tys4, tys5, tys6, tys7, tys8, tys9, tys10, tys11, tys12, tys13, tys14, tys15, tys16, tys17, tys18, tys19, tys20, tys21, tys22, tys23, Try.ntmps80, Try.results80, swC, frE]
      refine RunL.callp rfl rfl ok_f124 hmm (by simp only [pureL, pureB, prn, Bool.and_self, Bool.and_true, Bool.true_and]) rfl ?_
      simp only [run0, run1, run2, run3, run4, run5, run6, run7, run8, run9, run10, run11, run12, run13, run14, run15, run16, run17, run18, run19, run20, run21, run22, reduceCtorEq, Nat.reduceEqDiff, Nat.reduceAdd, Nat.reduceSub, Nat.reduceLeDiff, indexAddrA, indexRefA, appendA, strA, Nat.reduceMul, Nat.zero_mul, Nat.reduceMod, Int.reduceEq, Int.reduceLT, Int.reduceLE, Nat.reduceLT, Nat.lt_irrefl, Nat.reduceBEq, tys0, tys1, tys2, tys3, tys4, tys5, tys6, tys7, tys8, tys9, tys10, tys11, tys12, tys13, tys14, tys15, tys16, tys17, tys18, tys19, tys20, tys21, tys22, tys23, Try.ntmps80, Try.results80, swC, frE]
      refine RunL.callp rfl rfl ok_f125 (hng) (by first | rfl | simp only [pureL, pureB, Bool.and_self, Bool.and_true, Bool.true_and]) rfl ?_
      simp only [run0, run1, run2, run3, run4, run5, run6, run7, run8, run9, run10, run11, run12, run13, run14, run15, run16, run17, run18, run19, run20, run21, run22, reduceCtorEq, Nat.reduceEqDiff, Nat.reduceAdd, Nat.reduceSub, Nat.reduceLeDiff, indexAddrA, indexRefA, appendA, strA, Nat.reduceMul, Nat.zero_mul, Nat.reduceMod, Int.reduceEq, Int.reduceLT, Int.reduceLE, Nat.reduceLT, Nat.lt_irrefl, Nat.reduceBEq, tys0, tys1, tys2, tys3, tys4, tys5, tys6, tys7, tys8, tys9, tys10, tys11, tys12, tys13, tys14, tys15, tys16, tys17, tys18, tys19, tys20, tys21, tys22, tys23, Try.ntmps80, Try.results80, swC]
      refine RunL.callp rfl rfl ok_f78 (hc2) (by first | rfl | simp only [pureL, pureB, Bool.and_self, Bool.and_true, Bool.true_and]) rfl ?_
      simp only [run0, run1, run2, run3, run4, run5, run6, run7, run8, run9, run10, run11, run12, run13, run14, run15, run16, run17, run18, run19, run20, run21, run22, reduceCtorEq, Nat.reduceEqDiff, Nat.reduceAdd, Nat.reduceSub, Nat.reduceLeDiff, indexAddrA, indexRefA, appendA, strA, Nat.reduceMul, Nat.zero_mul, Nat.reduceMod, Int.reduceEq, Int.reduceLT, Int.reduceLE, Nat.reduceLT, Nat.lt_irrefl, Nat.reduceBEq, tys0, tys1, tys2, tys3, tys4, tys5, tys6, tys7, tys8, tys9, tys10, tys11, tys12, tys13, tys14, tys15, tys16, tys17, tys18, tys19, tys20, tys21, tys22, tys23, Try.ntmps80, Try.results80, swC, e1, List.length_map, Int.natCast_zero, Int.lt_irrefl, hlen, hlenr, u1, d1]
      obtain ⟨hok, hnx⟩ := hI.up hn hU p.X
      have hst := step_ok p.s true hok
      simp only [swV] at hst
      refine RunL.callp rfl rfl ok_f127 (hst) (by first | rfl | simp only [pureL, pureB, Bool.and_self, Bool.and_true, Bool.true_and]) rfl ?_
      simp only [run0, run1, run2, run3, run4, run5, run6, run7, run8, run9, run10, run11, run12, run13, run14, run15, run16, run17, run18, run19, run20, run21, run22, reduceCtorEq, Nat.reduceEqDiff, Nat.reduceAdd, Nat.reduceSub, Nat.reduceLeDiff, indexAddrA, indexRefA, appendA, strA, Nat.reduceMul, Nat.zero_mul, Nat.reduceMod, Int.reduceEq, Int.reduceLT, Int.reduceLE, Nat.reduceLT, Nat.lt_irrefl, Nat.reduceBEq, tys0, tys1, tys2, tys3, tys4, tys5, tys6, tys7, tys8, tys9, tys10, tys11, tys12, tys13, tys14, tys15, tys16, tys17, tys18, tys19, tys20, tys21, tys22, tys23, Try.ntmps80, Try.results80, swC, e5]
      rcases hnx with ⟨g1, g2⟩ | ⟨g1, g2⟩
      · exact ⟨⟨p.n + 1, p.i, swStep p.s true, p.X⟩, .inl ⟨by simp [g1], g2⟩, by simp only; omega, by repeat constructor, rfl⟩
      · exact ⟨⟨p.n + 1, stepP p.i, swStep p.s true, p.X⟩, .inr ⟨g1, g2⟩, by simp only; omega, by repeat constructor, rfl⟩
    · have u1 : (0 ≤ cmpQ (mostF o l) (p.s.an, p.s.ad)) := hge.2 hU
      have d1 : (cmpQ (leastF q r) (p.s.an, p.s.ad) ≤ 0) := hle.2 hD
      simp only [run0, run1, run2, run3, run4, run5, run6, run7, run8, run9, run10, run11, run12, run13, run14, run15, run16, run17, run18, run19, run20, run21, run22, reduceCtorEq, Nat.reduceEqDiff, Nat.reduceAdd, Nat.reduceSub, Nat.reduceLeDiff, indexAddrA, indexRefA, appendA, strA, Nat.reduceMul, Nat.zero_mul, Nat.reduceMod, Int.reduceEq, Int.reduceLT, Int.reduceLE, Nat.reduceLT, Nat.lt_irrefl, Nat.reduceBEq, tys0, tys1, tys2, tys3, tys4, tys5, tys6, tys7, tys8, tys9, tys10, tys11, tys12, tys13, tys14, tys15, tys16, tys17, tys18, tys19, tys20, tys21, tys22, tys23, Try.ntmps80, Try.results80, swC, e1, List.length_map, Int.natCast_zero, Int.lt_irrefl, hlen, hlenr, u1, d1]
      refine ⟨by kernel_rfl, ?_⟩
      refine RunL.callp rfl rfl ok_f124 (shMost_ok o l hll) (by simp only [pureL, pureB, frE, pl, Bool.and_self, Bool.and_true, Bool.true_and]) rfl ?_
      simp only [run0, run1, run2, run3, run4, run5, run6, run7, run8, run9, run10, run11, run12, run13, run14, run15, run16, run17, run18, run19, run20, run21, run22, reduceCtorEq, Nat.reduceEqDiff, Nat.reduceAdd, Nat.reduceSub, Nat.reduceLeDiff, indexAddrA, indexRefA, appendA, strA, Nat.reduceMul, Nat.zero_mul, Nat.reduceMod, Int.reduceEq, Int.reduceLT, Int.reduceLE, Nat.reduceLT, Nat.lt_irrefl, Nat.reduceBEq, tys0, tys1, tys2, tys3, tys4, tys5, tys6, tys7, tys8, tys9, tys10, tys11, tys12, tys13, tys14, tys15, tys16, tys17, tys18, tys19, tys20, tys21, tys22, tys23, Try.ntmps80, Try.results80, swC, frE]
      refine RunL.callp rfl rfl ok_f78 (hc1) (by first | rfl | simp only [pureL, pureB, Bool.and_self, Bool.and_true, Bool.true_and]) rfl ?_
      simp only [run0, run1, run2, run3, run4, run5, run6, run7, run8, run9, run10, run11, run12, run13, run14, run15, run16, run17, run18, run19, run20, run21, run22, reduceCtorEq, Nat.reduceEqDiff, Nat.reduceAdd, Nat.reduceSub, Nat.reduceLeDiff, indexAddrA, indexRefA, appendA, strA, Nat.reduceMul, Nat.zero_mul, Nat.reduceMod, Int.reduceEq, Int.reduceLT, Int.reduceLE, Nat.reduceLT, Nat.lt_irrefl, Nat.reduceBEq, tys0, tys1, tys2, tys3, tys4, tys5, tys6, tys7, tys8, tys9, tys10, tys11, tys12, tys13, tys14, tys15, tys16, tys17, tys18, tys19, tys20, tys21, tys22, tys23, Try.ntmps80, Try.results80, swC, e1, List.length_map, Int.natCast_zero, Int.lt_irrefl, hlen, hlenr, u1, d1]
      refine ⟨by kernel_rfl, ?_⟩
      refine RunL.callp rfl rfl ok_f126 (shNegAll_ok (q :: r) hrl) (by simp only [List.map_cons, pureL, pureB, frE, pr, Bool.and_self, Bool.and_true, Bool.true_and]) rfl ?_
      simp only [run0, run1, run2, run3, run4, run5, run6, run7, run8, run9, run10, run11, run12, run13, run14, run15, run16, run17, run18, run19, run20, run21, run22, reduceCtorEq, Nat.reduceEqDiff, Nat.reduceAdd, Nat.reduceSub, Nat.reduceLeDiff, indexAddrA, indexRefA, appendA, strA, Nat.reduceMul, Nat.zero_mul, Nat.reduceMod, Int.reduceEq, Int.reduceLT, Int.reduceLE, Nat.reduceLT, Nat.lt_irrefl, Nat.reduceBEq, tys0, tys1, tys2, tys3, tys4, tys5, tys6, tys7, tys8, tys9, tys10, tys11, tys12, tys13, tys14, tys15, tys16, tys17, tys18, tys19, tys20, tys21, tys22, tys23, Try.ntmps80, Try.results80, swC, frE]
      refine RunL.callp rfl rfl ok_f124 hmm (by simp only [pureL, pureB, prn, Bool.and_self, Bool.and_true, Bool.true_and]) rfl ?_
      simp only [run0, run1, run2, run3, run4, run5, run6, run7, run8, run9, run10, run11, run12, run13, run14, run15, run16, run17, run18, run19, run20, run21, run22, reduceCtorEq, Nat.reduceEqDiff, Nat.reduceAdd, Nat.reduceSub, Nat.reduceLeDiff, indexAddrA, indexRefA, appendA, strA, Nat.reduceMul, Nat.zero_mul, Nat.reduceMod, Int.reduceEq, Int.reduceLT, Int.reduceLE, Nat.reduceLT, Nat.lt_irrefl, Nat.reduceBEq, tys0, tys1, tys2, tys3, tys4, tys5, tys6, tys7, tys8, tys9, tys10, tys11, tys12, tys13, tys14, tys15, tys16, tys17, tys18, tys19, tys20, tys21, tys22, tys23, Try.ntmps80, Try.results80, swC, frE]
      refine RunL.callp rfl rfl ok_f125 (hng) (by first | rfl | simp only [pureL, pureB, Bool.and_self, Bool.and_true, Bool.true_and]) rfl ?_
      simp only [run0, run1, run2, run3, run4, run5, run6, run7, run8, run9, run10, run11, run12, run13, run14, run15, run16, run17, run18, run19, run20, run21, run22, reduceCtorEq, Nat.reduceEqDiff, Nat.reduceAdd, Nat.reduceSub, Nat.reduceLeDiff, indexAddrA, indexRefA, appendA, strA, Nat.reduceMul, Nat.zero_mul, Nat.reduceMod, Int.reduceEq, Int.reduceLT, Int.reduceLE, Nat.reduceLT, Nat.lt_irrefl, Nat.reduceBEq, tys0, tys1, tys2, tys3, tys4, tys5, tys6, tys7, tys8, tys9, tys10, tys11, tys12, tys13, tys14, tys15, tys16, tys17, tys18, tys19, tys20, tys21, tys22, tys23, Try.ntmps80, Try.results80, swC]
      refine RunL.callp rfl rfl ok_f78 (hc2) (by first | rfl | simp only [pureL, pureB, Bool.and_self, Bool.and_true, Bool.true_and]) rfl ?_
      simp only [run0, run1, run2, run3, run4, run5, run6, run7, run8, run9, run10, run11, run12, run13, run14, run15, run16, run17, run18, run19, run20, run21, run22, reduceCtorEq, Nat.reduceEqDiff, Nat.reduceAdd, Nat.reduceSub, Nat.reduceLeDiff, indexAddrA, indexRefA, appendA, strA, Nat.reduceMul, Nat.zero_mul, Nat.reduceMod, Int.reduceEq, Int.reduceLT, Int.reduceLE, Nat.reduceLT, Nat.lt_irrefl, Nat.reduceBEq, tys0, tys1, tys2, tys3, tys4, tys5, tys6, tys7, tys8, tys9, tys10, tys11, tys12, tys13, tys14, tys15, tys16, tys17, tys18, tys19, tys20, tys21, tys22, tys23, Try.ntmps80, Try.results80, swC, e1, List.length_map, Int.natCast_zero, Int.lt_irrefl, hlen, hlenr, u1, d1]
      exact Fin.eq (by simp [simR, bad_both hl hr hx hU hD, frE]) rfl

theorem shSimplest_ok (l r : List Fr) (hll : l.length ≤ 1048576) (hrl : r.length ≤ 1048576) (hl : ∀ a ∈ l, FB a) (hr : ∀ a ∈ r, FB a) : Ct Try.prog 80 [.sl false (l.map frE), .sl false (r.map frE)] [] (simR l r) [] := by
  cases l with
  | nil => cases r with
    | nil => exact shSimplest_nn hll hrl hl hr
    | cons q r => exact shSimplest_nc q r hll hrl hl hr
  | cons o l => cases r with
    | nil => exact shSimplest_cn o l hll hrl hl hr
    | cons q r => exact shSimplest_cc o l q r hll hrl hl hr

end Go.Proofs.Ytllcljajlemmaaa
/-
  Cuts: which two fractions are next to each other, or the simplest number between: both, and the law.
-/
namespace Go.Proofs.Ytllcljajlemmaaa
open Go K
set_option linter.unusedSimpArgs false
set_option linter.unusedVariables false
set_option maxHeartbeats 1600000
set_option maxRecDepth 8000

/-- How the program compares. -/
def cmpP (p q : Fr) : Int := cmpI (w64 (p.1 * q.2)) (w64 (q.1 * p.2))
theorem cmpPQ {p q : Fr} (hp : goodF p = true) (hq : goodF q = true) : cmpQ p q = cmpP p q := cmp_same hp hq
theorem cmpP_ok (p q : Fr) : Ct Try.prog 82 [fr p.1 p.2, fr q.1 q.2] [] (.int .i64 (cmpP p q)) [] := cmpFr_ok p.1 p.2 q.1 q.2
/-- The first best one's index. -/
def bestI (s : Int) (l : List Fr) : Nat → List Fr → Nat → Nat
  | b, [], _ => b
  | b, a :: r, k => bestI s l (if cmpQ a (l.getD b (0, 1)) = s then k else b) r (k + 1)
theorem bestI_cons (s : Int) (l : List Fr) (a : Fr) (r : List Fr) (b k : Nat) : bestI s l b (a :: r) k = bestI s l (if cmpQ a (l.getD b (0, 1)) = s then k else b) r (k + 1) := rfl
theorem bestI_lt (s : Int) (l : List Fr) : ∀ (r : List Fr) (b k : Nat), b < l.length → k + r.length ≤ l.length → bestI s l b r k < l.length
  | [], b, k, hb, _ => hb
  | a :: r, b, k, hb, hk => by
    simp only [List.length_cons] at hk
    unfold bestI
    exact bestI_lt s l r _ _ (by split <;> omega) (by omega)
theorem goodL_all {l : List Fr} (h : goodL l = true) : l.length ≤ 20 ∧ ∀ a ∈ l, goodF a = true := by
  simp only [goodL, Bool.and_eq_true, decide_eq_true_eq, List.all_eq_true] at h
  exact h
theorem goodL_FB {l : List Fr} (h : goodL l = true) : ∀ a ∈ l, FB a := fun a ha => goodF_FB ((goodL_all h).2 a ha)
theorem frs_at {l : List Fr} {b : Nat} (h : b < l.length) : (l.map frE)[b]? = some (.agg [.int .i64 (l.getD b (0, 1)).1, .int .i64 (l.getD b (0, 1)).2]) := by
  simp [List.getD_eq_getElem?_getD, h, frE]
structure BeS where
  d : List Fr
  r : List Fr
  b : Nat
  X : List AObj
theorem gaBest_ok (s : Int) (l : List Fr) (hl : l.length ≤ 1048576) : Ct Try.prog 77 [.sl false (l.map frE), .int .i64 s] [] (.int .i64 (bestI s l 0 l 0)) [] := by
  refine Ct.by_ hmix [] Try.func77 rfl ?_
  simp only [run0, run1, run2, run3, run4, run5, run6, run7, run8, run9, run10, run11, run12, run13, run14, run15, run16, run17, run18, run19, run20, run21, run22, reduceCtorEq, Nat.reduceEqDiff, Nat.reduceAdd, Nat.reduceSub, Nat.reduceLeDiff, indexAddrA, indexRefA, appendA, strA, Nat.reduceMul, Nat.zero_mul, Nat.reduceMod, Int.reduceEq, Int.reduceLT, Int.reduceLE, Nat.reduceLT, Nat.lt_irrefl, Nat.reduceBEq, tys0, tys1, tys2, tys3, tys4, tys5, tys6, tys7, tys8, tys9, tys10, tys11, tys12, tys13, tys14, tys15, tys16, tys17, tys18, tys19, tys20, tys21, tys22, tys23, Try.ntmps77, Try.results77, List.length_map]
  refine AWp.loop_inv (ι := BeS) (fun q => ⟨[.sl false (l.map frE), .int .i64 s, .junk, .junk, .int .i64 0, .int .i64 q.b, .junk, .junk, .sl false (l.map frE), .int .i64 l.length, .int .i64 q.d.length, .junk, .junk, .junk, .junk, .junk, .junk, .junk, .junk, .junk, .junk, .junk, .junk, .junk, .junk, .junk], q.X⟩)
    (fun q => l = q.d ++ q.r ∧ q.b ≤ q.d.length ∧ bestI s l q.b q.r q.d.length = bestI s l 0 l 0) (fun q => q.r.length) ⟨[], l, 0, []⟩ ⟨rfl, Nat.le_refl _, rfl⟩ ⟨by simp only [List.length_nil, Int.natCast_zero]; repeat constructor, rfl⟩ ?_
  rintro ⟨d, r, b, X⟩ ⟨ha, h2, h3⟩
  refine W.sound hmix (E := []) ?_
  simp only at ha h2 h3
  cases r with
  | nil =>
    have e1 := frs_end ha
    simp only [run0, run1, run2, run3, run4, run5, run6, run7, run8, run9, run10, run11, run12, run13, run14, run15, run16, run17, run18, run19, run20, run21, run22, reduceCtorEq, Nat.reduceEqDiff, Nat.reduceAdd, Nat.reduceSub, Nat.reduceLeDiff, indexAddrA, indexRefA, appendA, strA, Nat.reduceMul, Nat.zero_mul, Nat.reduceMod, Int.reduceEq, Int.reduceLT, Int.reduceLE, Nat.reduceLT, Nat.lt_irrefl, Nat.reduceBEq, tys0, tys1, tys2, tys3, tys4, tys5, tys6, tys7, tys8, tys9, tys10, tys11, tys12, tys13, tys14, tys15, tys16, tys17, tys18, tys19, tys20, tys21, tys22, tys23, Try.ntmps77, Try.results77, List.length_map, e1]
    exact Fin.eq (by rw [← h3]; rfl) rfl
  | cons e r =>
    obtain ⟨e1, e2, e5⟩ := frs_split ha hl
    have hb : b < l.length := by omega
    have e3 := frs_at hb
    have hc := cmpQ_ok e (l.getD b (0, 1))
    simp only [fr] at hc
    have hb2 : (b : Int) < (l.length : Int) := by omega
    simp only [run0, run1, run2, run3, run4, run5, run6, run7, run8, run9, run10, run11, run12, run13, run14, run15, run16, run17, run18, run19, run20, run21, run22, reduceCtorEq, Nat.reduceEqDiff, Nat.reduceAdd, Nat.reduceSub, Nat.reduceLeDiff, indexAddrA, indexRefA, appendA, strA, Nat.reduceMul, Nat.zero_mul, Nat.reduceMod, Int.reduceEq, Int.reduceLT, Int.reduceLE, Nat.reduceLT, Nat.lt_irrefl, Nat.reduceBEq, tys0, tys1, tys2, tys3, tys4, tys5, tys6, tys7, tys8, tys9, tys10, tys11, tys12, tys13, tys14, tys15, tys16, tys17, tys18, tys19, tys20, tys21, tys22, tys23, Try.ntmps77, Try.results77, List.length_map, e1, e2, e3, hb2, Int.toNat_natCast, Int.natCast_nonneg, List.getElem?_append_right, Nat.sub_self]
    refine ⟨by kernel_rfl, ?_⟩
    refine RunL.callp rfl rfl ok_f78 (hc) (by first | rfl | simp only [pureL, pureB, Bool.and_self, Bool.and_true, Bool.true_and]) rfl ?_
    rw [bestI_cons s l e r b d.length] at h3
    by_cases hp : cmpQ e (l.getD b (0, 1)) = s
    · have hp2 : (cmpQ e (l.getD b (0, 1)) == s) = true := beq_iff_eq.2 hp
      rw [if_pos hp] at h3
      simp only [run0, run1, run2, run3, run4, run5, run6, run7, run8, run9, run10, run11, run12, run13, run14, run15, run16, run17, run18, run19, run20, run21, run22, reduceCtorEq, Nat.reduceEqDiff, Nat.reduceAdd, Nat.reduceSub, Nat.reduceLeDiff, indexAddrA, indexRefA, appendA, strA, Nat.reduceMul, Nat.zero_mul, Nat.reduceMod, Int.reduceEq, Int.reduceLT, Int.reduceLE, Nat.reduceLT, Nat.lt_irrefl, Nat.reduceBEq, tys0, tys1, tys2, tys3, tys4, tys5, tys6, tys7, tys8, tys9, tys10, tys11, tys12, tys13, tys14, tys15, tys16, tys17, tys18, tys19, tys20, tys21, tys22, tys23, Try.ntmps77, Try.results77, hp2, e5]
      exact ⟨⟨d ++ [e], r, d.length, _⟩, ⟨by simp [ha], by simp, by simp only [List.length_append, List.length_cons, List.length_nil]; exact h3⟩, by simp, by simp only [List.length_append, List.length_cons, List.length_nil]; repeat constructor, rfl⟩
    · have hp2 : (cmpQ e (l.getD b (0, 1)) == s) = false := beq_eq_false_iff_ne.2 hp
      rw [if_neg hp] at h3
      simp only [run0, run1, run2, run3, run4, run5, run6, run7, run8, run9, run10, run11, run12, run13, run14, run15, run16, run17, run18, run19, run20, run21, run22, reduceCtorEq, Nat.reduceEqDiff, Nat.reduceAdd, Nat.reduceSub, Nat.reduceLeDiff, indexAddrA, indexRefA, appendA, strA, Nat.reduceMul, Nat.zero_mul, Nat.reduceMod, Int.reduceEq, Int.reduceLT, Int.reduceLE, Nat.reduceLT, Nat.lt_irrefl, Nat.reduceBEq, tys0, tys1, tys2, tys3, tys4, tys5, tys6, tys7, tys8, tys9, tys10, tys11, tys12, tys13, tys14, tys15, tys16, tys17, tys18, tys19, tys20, tys21, tys22, tys23, Try.ntmps77, Try.results77, hp2, e5]
      exact ⟨⟨d ++ [e], r, b, _⟩, ⟨by simp [ha], by simp; omega, by simp only [List.length_append, List.length_cons, List.length_nil]; exact h3⟩, by simp, by simp only [List.length_append, List.length_cons, List.length_nil]; repeat constructor, rfl⟩

def cutM (l : List Fr) : Nat := bestI 1 l 0 l 0
def cutL (r : List Fr) : Nat := bestI (-1) r 0 r 0
def overB (l r : List Fr) : Bool := !l.isEmpty && !r.isEmpty && decide (0 ≤ cmpQ (l.getD (cutM l) (0, 1)) (r.getD (cutL r) (0, 1)))
def cutR (l r : List Fr) : AV :=
  if goodL l && goodL r then
    if overB l r then .tup [frE (0, 1), .int .i64 (cutM l), .int .i64 (cutL r), .bool true]
    else if cutBad l r then .tup [frE (0, 0), .int .i64 0, .int .i64 0, .bool false]
    else .tup [frE (frN (cutX l r), frD (cutX l r)), .int .i64 (-1), .int .i64 (-1), .bool true]
  else .tup [frE (0, 0), .int .i64 0, .int .i64 0, .bool false]
theorem whole_ok (n : Int) : Ct Try.prog 83 [.int .i64 n] [] (frE (n, 1)) [] := by
  refine Ct.by_ hmix [] Try.func83 rfl ?_
  simp only [run0, run1, run2, run3, run4, run5, run6, run7, run8, run9, run10, run11, run12, run13, run14, run15, run16, run17, run18, run19, run20, run21, run22, reduceCtorEq, Nat.reduceEqDiff, Nat.reduceAdd, Nat.reduceSub, Nat.reduceLeDiff, indexAddrA, indexRefA, appendA, strA, Nat.reduceMul, Nat.zero_mul, Nat.reduceMod, Int.reduceEq, Int.reduceLT, Int.reduceLE, Nat.reduceLT, Nat.lt_irrefl, Nat.reduceBEq, tys0, tys1, tys2, tys3, tys4, tys5, tys6, tys7, tys8, tys9, tys10, tys11, tys12, tys13, tys14, tys15, tys16, tys17, tys18, tys19, tys20, tys21, tys22, tys23, Try.ntmps83, Try.results83]
  exact Fin.eq rfl rfl
theorem isE_length {l : List Fr} : l.isEmpty = false → (0 : Int) < (l.length : Int) := by
  cases l with
  | nil => simp
  | cons a l => intro _; simp only [List.length_cons]; omega
theorem isE_not {l : List Fr} : l.isEmpty = true → ¬ (0 : Int) < (l.length : Int) := by
  cases l with
  | nil => simp
  | cons a l => simp

theorem specCut_ok (l r : List Fr) (hl : l.length ≤ 1048576) (hr : r.length ≤ 1048576) : Ct Try.prog 32 [.sl false (l.map frE), .sl false (r.map frE)] [] (cutR l r) [] := by
  have pl := frs_pure l
  have pr := frs_pure r
  refine Ct.by_ hmix [] Try.func32 rfl ?_
  simp only [run0, run1, run2, run3, run4, run5, run6, run7, run8, run9, run10, run11, run12, run13, run14, run15, run16, run17, run18, run19, run20, run21, run22, reduceCtorEq, Nat.reduceEqDiff, Nat.reduceAdd, Nat.reduceSub, Nat.reduceLeDiff, indexAddrA, indexRefA, appendA, strA, Nat.reduceMul, Nat.zero_mul, Nat.reduceMod, Int.reduceEq, Int.reduceLT, Int.reduceLE, Nat.reduceLT, Nat.lt_irrefl, Nat.reduceBEq, tys0, tys1, tys2, tys3, tys4, tys5, tys6, tys7, tys8, tys9, tys10, tys11, tys12, tys13, tys14, tys15, tys16, tys17, tys18, tys19, tys20, tys21, tys22, tys23, Try.ntmps32, Try.results32]
  refine RunL.callp rfl rfl ok_f76 (shList_ok l hl) (by simp only [pureL, pureB, pl, Bool.and_self]) rfl ?_
  cases g1 : goodL l
  · simp only [run0, run1, run2, run3, run4, run5, run6, run7, run8, run9, run10, run11, run12, run13, run14, run15, run16, run17, run18, run19, run20, run21, run22, reduceCtorEq, Nat.reduceEqDiff, Nat.reduceAdd, Nat.reduceSub, Nat.reduceLeDiff, indexAddrA, indexRefA, appendA, strA, Nat.reduceMul, Nat.zero_mul, Nat.reduceMod, Int.reduceEq, Int.reduceLT, Int.reduceLE, Nat.reduceLT, Nat.lt_irrefl, Nat.reduceBEq, tys0, tys1, tys2, tys3, tys4, tys5, tys6, tys7, tys8, tys9, tys10, tys11, tys12, tys13, tys14, tys15, tys16, tys17, tys18, tys19, tys20, tys21, tys22, tys23, Try.ntmps32, Try.results32]
    exact Fin.eq (by simp [cutR, g1, frE]) rfl
  simp only [run0, run1, run2, run3, run4, run5, run6, run7, run8, run9, run10, run11, run12, run13, run14, run15, run16, run17, run18, run19, run20, run21, run22, reduceCtorEq, Nat.reduceEqDiff, Nat.reduceAdd, Nat.reduceSub, Nat.reduceLeDiff, indexAddrA, indexRefA, appendA, strA, Nat.reduceMul, Nat.zero_mul, Nat.reduceMod, Int.reduceEq, Int.reduceLT, Int.reduceLE, Nat.reduceLT, Nat.lt_irrefl, Nat.reduceBEq, tys0, tys1, tys2, tys3, tys4, tys5, tys6, tys7, tys8, tys9, tys10, tys11, tys12, tys13, tys14, tys15, tys16, tys17, tys18, tys19, tys20, tys21, tys22, tys23, Try.ntmps32, Try.results32]
  refine RunL.callp rfl rfl ok_f76 (shList_ok r hr) (by simp only [pureL, pureB, pr, Bool.and_self]) rfl ?_
  cases g2 : goodL r
  · simp only [run0, run1, run2, run3, run4, run5, run6, run7, run8, run9, run10, run11, run12, run13, run14, run15, run16, run17, run18, run19, run20, run21, run22, reduceCtorEq, Nat.reduceEqDiff, Nat.reduceAdd, Nat.reduceSub, Nat.reduceLeDiff, indexAddrA, indexRefA, appendA, strA, Nat.reduceMul, Nat.zero_mul, Nat.reduceMod, Int.reduceEq, Int.reduceLT, Int.reduceLE, Nat.reduceLT, Nat.lt_irrefl, Nat.reduceBEq, tys0, tys1, tys2, tys3, tys4, tys5, tys6, tys7, tys8, tys9, tys10, tys11, tys12, tys13, tys14, tys15, tys16, tys17, tys18, tys19, tys20, tys21, tys22, tys23, Try.ntmps32, Try.results32]
    exact Fin.eq (by simp [cutR, g1, g2, frE]) rfl
  have hss := shSimplest_ok l r hl hr (goodL_FB g1) (goodL_FB g2)
  have key : ∀ {P : Prop}, overB l r = false → (simR l r = if cutBad l r then .tup [frE (0, 0), .bool false] else .tup [frE (frN (cutX l r), frD (cutX l r)), .bool true]) := fun _ => by
    unfold simR; cases cutBad l r <;> rfl
  cases m1 : l.isEmpty
  case true =>
    have k1 := isE_not m1
    have ho : overB l r = false := by simp [overB, m1]
    have hk := key (P := True) ho
    simp only [run0, run1, run2, run3, run4, run5, run6, run7, run8, run9, run10, run11, run12, run13, run14, run15, run16, run17, run18, run19, run20, run21, run22, reduceCtorEq, Nat.reduceEqDiff, Nat.reduceAdd, Nat.reduceSub, Nat.reduceLeDiff, indexAddrA, indexRefA, appendA, strA, Nat.reduceMul, Nat.zero_mul, Nat.reduceMod, Int.reduceEq, Int.reduceLT, Int.reduceLE, Nat.reduceLT, Nat.lt_irrefl, Nat.reduceBEq, tys0, tys1, tys2, tys3, tys4, tys5, tys6, tys7, tys8, tys9, tys10, tys11, tys12, tys13, tys14, tys15, tys16, tys17, tys18, tys19, tys20, tys21, tys22, tys23, Try.ntmps32, Try.results32, List.length_map, k1]
    refine RunL.callp rfl rfl ok_f80 hss (by simp only [pureL, pureB, pl, pr, Bool.and_self]) rfl ?_
    rw [hk]
    cases hb : cutBad l r
    · simp only [run0, run1, run2, run3, run4, run5, run6, run7, run8, run9, run10, run11, run12, run13, run14, run15, run16, run17, run18, run19, run20, run21, run22, reduceCtorEq, Nat.reduceEqDiff, Nat.reduceAdd, Nat.reduceSub, Nat.reduceLeDiff, indexAddrA, indexRefA, appendA, strA, Nat.reduceMul, Nat.zero_mul, Nat.reduceMod, Int.reduceEq, Int.reduceLT, Int.reduceLE, Nat.reduceLT, Nat.lt_irrefl, Nat.reduceBEq, tys0, tys1, tys2, tys3, tys4, tys5, tys6, tys7, tys8, tys9, tys10, tys11, tys12, tys13, tys14, tys15, tys16, tys17, tys18, tys19, tys20, tys21, tys22, tys23, Try.ntmps32, Try.results32, frE]
      exact Fin.eq (by simp [cutR, g1, g2, ho, hb, frE]) rfl
    · simp only [run0, run1, run2, run3, run4, run5, run6, run7, run8, run9, run10, run11, run12, run13, run14, run15, run16, run17, run18, run19, run20, run21, run22, reduceCtorEq, Nat.reduceEqDiff, Nat.reduceAdd, Nat.reduceSub, Nat.reduceLeDiff, indexAddrA, indexRefA, appendA, strA, Nat.reduceMul, Nat.zero_mul, Nat.reduceMod, Int.reduceEq, Int.reduceLT, Int.reduceLE, Nat.reduceLT, Nat.lt_irrefl, Nat.reduceBEq, tys0, tys1, tys2, tys3, tys4, tys5, tys6, tys7, tys8, tys9, tys10, tys11, tys12, tys13, tys14, tys15, tys16, tys17, tys18, tys19, tys20, tys21, tys22, tys23, Try.ntmps32, Try.results32, frE]
      exact Fin.eq (by simp [cutR, g1, g2, ho, hb, frE]) rfl
  case false =>
    have k1 := isE_length m1
    cases m2 : r.isEmpty
    case true =>
      have k2 := isE_not m2
      have ho : overB l r = false := by simp [overB, m2]
      have hk := key (P := True) ho
      simp only [run0, run1, run2, run3, run4, run5, run6, run7, run8, run9, run10, run11, run12, run13, run14, run15, run16, run17, run18, run19, run20, run21, run22, reduceCtorEq, Nat.reduceEqDiff, Nat.reduceAdd, Nat.reduceSub, Nat.reduceLeDiff, indexAddrA, indexRefA, appendA, strA, Nat.reduceMul, Nat.zero_mul, Nat.reduceMod, Int.reduceEq, Int.reduceLT, Int.reduceLE, Nat.reduceLT, Nat.lt_irrefl, Nat.reduceBEq, tys0, tys1, tys2, tys3, tys4, tys5, tys6, tys7, tys8, tys9, tys10, tys11, tys12, tys13, tys14, tys15, tys16, tys17, tys18, tys19, tys20, tys21, tys22, tys23, Try.ntmps32, Try.results32, List.length_map, k1, k2]
      refine RunL.callp rfl rfl ok_f80 hss (by simp only [pureL, pureB, pl, pr, Bool.and_self]) rfl ?_
      rw [hk]
      cases hb : cutBad l r
      · simp only [run0, run1, run2, run3, run4, run5, run6, run7, run8, run9, run10, run11, run12, run13, run14, run15, run16, run17, run18, run19, run20, run21, run22, reduceCtorEq, Nat.reduceEqDiff, Nat.reduceAdd, Nat.reduceSub, Nat.reduceLeDiff, indexAddrA, indexRefA, appendA, strA, Nat.reduceMul, Nat.zero_mul, Nat.reduceMod, Int.reduceEq, Int.reduceLT, Int.reduceLE, Nat.reduceLT, Nat.lt_irrefl, Nat.reduceBEq, tys0, tys1, tys2, tys3, tys4, tys5, tys6, tys7, tys8, tys9, tys10, tys11, tys12, tys13, tys14, tys15, tys16, tys17, tys18, tys19, tys20, tys21, tys22, tys23, Try.ntmps32, Try.results32, frE]
        exact Fin.eq (by simp [cutR, g1, g2, ho, hb, frE]) rfl
      · simp only [run0, run1, run2, run3, run4, run5, run6, run7, run8, run9, run10, run11, run12, run13, run14, run15, run16, run17, run18, run19, run20, run21, run22, reduceCtorEq, Nat.reduceEqDiff, Nat.reduceAdd, Nat.reduceSub, Nat.reduceLeDiff, indexAddrA, indexRefA, appendA, strA, Nat.reduceMul, Nat.zero_mul, Nat.reduceMod, Int.reduceEq, Int.reduceLT, Int.reduceLE, Nat.reduceLT, Nat.lt_irrefl, Nat.reduceBEq, tys0, tys1, tys2, tys3, tys4, tys5, tys6, tys7, tys8, tys9, tys10, tys11, tys12, tys13, tys14, tys15, tys16, tys17, tys18, tys19, tys20, tys21, tys22, tys23, Try.ntmps32, Try.results32, frE]
        exact Fin.eq (by simp [cutR, g1, g2, ho, hb, frE]) rfl
    case false =>
      have k2 := isE_length m2
      have b1 : cutM l < l.length := bestI_lt _ _ _ _ _ (by omega) (by omega)
      have b2 : cutL r < r.length := bestI_lt _ _ _ _ _ (by omega) (by omega)
      have c1 := frs_at b1
      have c2 := frs_at b2
      have b3 : (cutM l : Int) < (l.length : Int) := by omega
      have b4 : (cutL r : Int) < (r.length : Int) := by omega
      have hc := cmpQ_ok (l.getD (cutM l) (0, 1)) (r.getD (cutL r) (0, 1))
      simp only [fr] at hc
      have hgm : Ct Try.prog 77 [.sl false (l.map frE), .int .i64 1] [] (.int .i64 (cutM l)) [] := gaBest_ok 1 l hl
      have hgl : Ct Try.prog 77 [.sl false (r.map frE), .int .i64 (-1)] [] (.int .i64 (cutL r)) [] := gaBest_ok (-1) r hr
      simp only [run0, run1, run2, run3, run4, run5, run6, run7, run8, run9, run10, run11, run12, run13, run14, run15, run16, run17, run18, run19, run20, run21, run22, reduceCtorEq, Nat.reduceEqDiff, Nat.reduceAdd, Nat.reduceSub, Nat.reduceLeDiff, indexAddrA, indexRefA, appendA, strA, Nat.reduceMul, Nat.zero_mul, Nat.reduceMod, Int.reduceEq, Int.reduceLT, Int.reduceLE, Nat.reduceLT, Nat.lt_irrefl, Nat.reduceBEq, tys0, tys1, tys2, tys3, tys4, tys5, tys6, tys7, tys8, tys9, tys10, tys11, tys12, tys13, tys14, tys15, tys16, tys17, tys18, tys19, tys20, tys21, tys22, tys23, Try.ntmps32, Try.results32, List.length_map, k1, k2]
      refine RunL.callp rfl rfl ok_f77 hgm (by simp only [pureL, pureB, pl, Bool.and_self]) rfl ?_
      simp only [run0, run1, run2, run3, run4, run5, run6, run7, run8, run9, run10, run11, run12, run13, run14, run15, run16, run17, run18, run19, run20, run21, run22, reduceCtorEq, Nat.reduceEqDiff, Nat.reduceAdd, Nat.reduceSub, Nat.reduceLeDiff, indexAddrA, indexRefA, appendA, strA, Nat.reduceMul, Nat.zero_mul, Nat.reduceMod, Int.reduceEq, Int.reduceLT, Int.reduceLE, Nat.reduceLT, Nat.lt_irrefl, Nat.reduceBEq, tys0, tys1, tys2, tys3, tys4, tys5, tys6, tys7, tys8, tys9, tys10, tys11, tys12, tys13, tys14, tys15, tys16, tys17, tys18, tys19, tys20, tys21, tys22, tys23, Try.ntmps32, Try.results32]
      refine RunL.callp rfl rfl ok_f77 hgl (by simp only [pureL, pureB, pr, Bool.and_self]) rfl ?_
      simp only [run0, run1, run2, run3, run4, run5, run6, run7, run8, run9, run10, run11, run12, run13, run14, run15, run16, run17, run18, run19, run20, run21, run22, reduceCtorEq, Nat.reduceEqDiff, Nat.reduceAdd, Nat.reduceSub, Nat.reduceLeDiff, indexAddrA, indexRefA, appendA, strA, Nat.reduceMul, Nat.zero_mul, Nat.reduceMod, Int.reduceEq, Int.reduceLT, Int.reduceLE, Nat.reduceLT, Nat.lt_irrefl, Nat.reduceBEq, tys0, tys1, tys2, tys3, tys4, tys5, tys6, tys7, tys8, tys9, tys10, tys11, tys12, tys13, tys14, tys15, tys16, tys17, tys18, tys19, tys20, tys21, tys22, tys23, Try.ntmps32, Try.results32, List.length_map, c1, c2, b3, b4, Int.toNat_natCast, Int.natCast_nonneg]
      refine ⟨by kernel_rfl, ?_⟩
      refine RunL.callp rfl rfl ok_f78 (hc) (by first | rfl | simp only [pureL, pureB, Bool.and_self, Bool.and_true, Bool.true_and]) rfl ?_
      by_cases ho : 0 ≤ cmpQ (l.getD (cutM l) (0, 1)) (r.getD (cutL r) (0, 1))
      · have ho2 : overB l r = true := by simp only [overB, m1, m2, ho]; rfl
        simp only [run0, run1, run2, run3, run4, run5, run6, run7, run8, run9, run10, run11, run12, run13, run14, run15, run16, run17, run18, run19, run20, run21, run22, reduceCtorEq, Nat.reduceEqDiff, Nat.reduceAdd, Nat.reduceSub, Nat.reduceLeDiff, indexAddrA, indexRefA, appendA, strA, Nat.reduceMul, Nat.zero_mul, Nat.reduceMod, Int.reduceEq, Int.reduceLT, Int.reduceLE, Nat.reduceLT, Nat.lt_irrefl, Nat.reduceBEq, tys0, tys1, tys2, tys3, tys4, tys5, tys6, tys7, tys8, tys9, tys10, tys11, tys12, tys13, tys14, tys15, tys16, tys17, tys18, tys19, tys20, tys21, tys22, tys23, Try.ntmps32, Try.results32, ho]
        refine RunL.callp rfl rfl ok_f79 (shInt_ok 0) (by first | rfl | simp only [pureL, pureB, Bool.and_self, Bool.and_true, Bool.true_and]) rfl ?_
        simp only [run0, run1, run2, run3, run4, run5, run6, run7, run8, run9, run10, run11, run12, run13, run14, run15, run16, run17, run18, run19, run20, run21, run22, reduceCtorEq, Nat.reduceEqDiff, Nat.reduceAdd, Nat.reduceSub, Nat.reduceLeDiff, indexAddrA, indexRefA, appendA, strA, Nat.reduceMul, Nat.zero_mul, Nat.reduceMod, Int.reduceEq, Int.reduceLT, Int.reduceLE, Nat.reduceLT, Nat.lt_irrefl, Nat.reduceBEq, tys0, tys1, tys2, tys3, tys4, tys5, tys6, tys7, tys8, tys9, tys10, tys11, tys12, tys13, tys14, tys15, tys16, tys17, tys18, tys19, tys20, tys21, tys22, tys23, Try.ntmps32, Try.results32, fr]
        exact Fin.eq (by simp [cutR, g1, g2, ho2, frE]) rfl
      · have ho2 : overB l r = false := by simp only [overB, m1, m2, ho]; rfl
        have hk := key (P := True) ho2
        simp only [run0, run1, run2, run3, run4, run5, run6, run7, run8, run9, run10, run11, run12, run13, run14, run15, run16, run17, run18, run19, run20, run21, run22, reduceCtorEq, Nat.reduceEqDiff, Nat.reduceAdd, Nat.reduceSub, Nat.reduceLeDiff, indexAddrA, indexRefA, appendA, strA, Nat.reduceMul, Nat.zero_mul, Nat.reduceMod, Int.reduceEq, Int.reduceLT, Int.reduceLE, Nat.reduceLT, Nat.lt_irrefl, Nat.reduceBEq, tys0, tys1, tys2, tys3, tys4, tys5, tys6, tys7, tys8, tys9, tys10, tys11, tys12, tys13, tys14, tys15, tys16, tys17, tys18, tys19, tys20, tys21, tys22, tys23, Try.ntmps32, Try.results32, ho]
        refine RunL.callp rfl rfl ok_f80 hss (by simp only [pureL, pureB, pl, pr, Bool.and_self]) rfl ?_
        rw [hk]
        cases hb : cutBad l r
        · simp only [run0, run1, run2, run3, run4, run5, run6, run7, run8, run9, run10, run11, run12, run13, run14, run15, run16, run17, run18, run19, run20, run21, run22, reduceCtorEq, Nat.reduceEqDiff, Nat.reduceAdd, Nat.reduceSub, Nat.reduceLeDiff, indexAddrA, indexRefA, appendA, strA, Nat.reduceMul, Nat.zero_mul, Nat.reduceMod, Int.reduceEq, Int.reduceLT, Int.reduceLE, Nat.reduceLT, Nat.lt_irrefl, Nat.reduceBEq, tys0, tys1, tys2, tys3, tys4, tys5, tys6, tys7, tys8, tys9, tys10, tys11, tys12, tys13, tys14, tys15, tys16, tys17, tys18, tys19, tys20, tys21, tys22, tys23, Try.ntmps32, Try.results32, frE]
          exact Fin.eq (by simp [cutR, g1, g2, ho2, hb, frE]) rfl
        · simp only [run0, run1, run2, run3, run4, run5, run6, run7, run8, run9, run10, run11, run12, run13, run14, run15, run16, run17, run18, run19, run20, run21, run22, reduceCtorEq, Nat.reduceEqDiff, Nat.reduceAdd, Nat.reduceSub, Nat.reduceLeDiff, indexAddrA, indexRefA, appendA, strA, Nat.reduceMul, Nat.zero_mul, Nat.reduceMod, Int.reduceEq, Int.reduceLT, Int.reduceLE, Nat.reduceLT, Nat.lt_irrefl, Nat.reduceBEq, tys0, tys1, tys2, tys3, tys4, tys5, tys6, tys7, tys8, tys9, tys10, tys11, tys12, tys13, tys14, tys15, tys16, tys17, tys18, tys19, tys20, tys21, tys22, tys23, Try.ntmps32, Try.results32, frE]
          exact Fin.eq (by simp [cutR, g1, g2, ho2, hb, frE]) rfl

/-! ### the program -/
theorem cmpQ_one {p q : Fr} : cmpQ p q = 1 ↔ 0 < cmpQ p q := by rcases cmpQ_val p q with h | h | h <;> omega
theorem cmpQ_minus {p q : Fr} : cmpQ p q = -1 ↔ cmpQ p q < 0 := by rcases cmpQ_val p q with h | h | h <;> omega
theorem goodF_at {l : List Fr} {b : Nat} (h : goodL l = true) (hb : b < l.length) : goodF (l.getD b (0, 1)) = true := by
  rw [List.getD_eq_getElem?_getD, List.getElem?_eq_getElem hb]
  exact (goodL_all h).2 _ (List.getElem_mem hb)

theorem implCut_ok (l r : List Fr) (hl : l.length ≤ 1048576) (hr : r.length ≤ 1048576) : Ct Try.prog 34 [.sl false (l.map frE), .sl false (r.map frE)] [] (cutR l r) [] := by
  have pl := frs_pure l
  have pr := frs_pure r
  refine Ct.by_ hmix [] Try.func34 rfl ?_
  simp only [run0, run1, run2, run3, run4, run5, run6, run7, run8, run9, run10, run11, run12, run13, run14, run15, run16, run17, run18, run19, run20, run21, run22, reduceCtorEq, Nat.reduceEqDiff, Nat.reduceAdd, Nat.reduceSub, Nat.reduceLeDiff, indexAddrA, indexRefA, appendA, strA, Nat.reduceMul, Nat.zero_mul, Nat.reduceMod, Int.reduceEq, Int.reduceLT, Int.reduceLE, Nat.reduceLT, Nat.lt_irrefl, Nat.reduceBEq, tys0, tys1, tys2, tys3, tys4, tys5, tys6, tys7, tys8, tys9, tys10, tys11, tys12, tys13, tys14, tys15, tys16, tys17, tys18, tys19, tys20, tys21, tys22, tys23, Try.ntmps34, Try.results34]
  refine RunL.callp rfl rfl ok_f81 (fractionsOk_ok l hl) (by simp only [pureL, pureB, pl, Bool.and_self]) rfl ?_
  cases g1 : goodL l
  · simp only [run0, run1, run2, run3, run4, run5, run6, run7, run8, run9, run10, run11, run12, run13, run14, run15, run16, run17, run18, run19, run20, run21, run22, reduceCtorEq, Nat.reduceEqDiff, Nat.reduceAdd, Nat.reduceSub, Nat.reduceLeDiff, indexAddrA, indexRefA, appendA, strA, Nat.reduceMul, Nat.zero_mul, Nat.reduceMod, Int.reduceEq, Int.reduceLT, Int.reduceLE, Nat.reduceLT, Nat.lt_irrefl, Nat.reduceBEq, tys0, tys1, tys2, tys3, tys4, tys5, tys6, tys7, tys8, tys9, tys10, tys11, tys12, tys13, tys14, tys15, tys16, tys17, tys18, tys19, tys20, tys21, tys22, tys23, Try.ntmps34, Try.results34]
    exact Fin.eq (by simp [cutR, g1, frE]) rfl
  simp only [run0, run1, run2, run3, run4, run5, run6, run7, run8, run9, run10, run11, run12, run13, run14, run15, run16, run17, run18, run19, run20, run21, run22, reduceCtorEq, Nat.reduceEqDiff, Nat.reduceAdd, Nat.reduceSub, Nat.reduceLeDiff, indexAddrA, indexRefA, appendA, strA, Nat.reduceMul, Nat.zero_mul, Nat.reduceMod, Int.reduceEq, Int.reduceLT, Int.reduceLE, Nat.reduceLT, Nat.lt_irrefl, Nat.reduceBEq, tys0, tys1, tys2, tys3, tys4, tys5, tys6, tys7, tys8, tys9, tys10, tys11, tys12, tys13, tys14, tys15, tys16, tys17, tys18, tys19, tys20, tys21, tys22, tys23, Try.ntmps34, Try.results34]
  refine RunL.callp rfl rfl ok_f81 (fractionsOk_ok r hr) (by simp only [pureL, pureB, pr, Bool.and_self]) rfl ?_
  cases g2 : goodL r
  · simp only [run0, run1, run2, run3, run4, run5, run6, run7, run8, run9, run10, run11, run12, run13, run14, run15, run16, run17, run18, run19, run20, run21, run22, reduceCtorEq, Nat.reduceEqDiff, Nat.reduceAdd, Nat.reduceSub, Nat.reduceLeDiff, indexAddrA, indexRefA, appendA, strA, Nat.reduceMul, Nat.zero_mul, Nat.reduceMod, Int.reduceEq, Int.reduceLT, Int.reduceLE, Nat.reduceLT, Nat.lt_irrefl, Nat.reduceBEq, tys0, tys1, tys2, tys3, tys4, tys5, tys6, tys7, tys8, tys9, tys10, tys11, tys12, tys13, tys14, tys15, tys16, tys17, tys18, tys19, tys20, tys21, tys22, tys23, Try.ntmps34, Try.results34]
    exact Fin.eq (by simp [cutR, g1, g2, frE]) rfl
  simp only [run0, run1, run2, run3, run4, run5, run6, run7, run8, run9, run10, run11, run12, run13, run14, run15, run16, run17, run18, run19, run20, run21, run22, reduceCtorEq, Nat.reduceEqDiff, Nat.reduceAdd, Nat.reduceSub, Nat.reduceLeDiff, indexAddrA, indexRefA, appendA, strA, Nat.reduceMul, Nat.zero_mul, Nat.reduceMod, Int.reduceEq, Int.reduceLT, Int.reduceLE, Nat.reduceLT, Nat.lt_irrefl, Nat.reduceBEq, tys0, tys1, tys2, tys3, tys4, tys5, tys6, tys7, tys8, tys9, tys10, tys11, tys12, tys13, tys14, tys15, tys16, tys17, tys18, tys19, tys20, tys21, tys22, tys23, Try.ntmps34, Try.results34, List.length_map]
  refine AWp.loop_inv (ι := BeS) (fun q => ⟨[.sl false (l.map frE), .sl false (r.map frE), .junk, .junk, .ptr 0 0, .int .i64 0, .int .i64 0, .bool false, .int .i64 q.b, .int .i64 0, .junk, .junk, .junk, .junk, .junk, .junk, .junk, .junk, .junk, .junk, .junk, .junk, .junk, .junk, .junk, .sl false (l.map frE), .int .i64 l.length, .int .i64 q.d.length, .junk, .junk, .junk, .junk, .junk, .junk, .junk, .junk, .junk, .junk, .junk, .junk, .junk, .junk, .junk, .junk, .junk, .junk, .junk, .junk, .junk, .junk, .junk, .junk, .junk, .junk, .junk, .junk, .junk, .junk, .junk, .junk, .junk, .junk, .junk, .junk, .junk, .junk, .junk, .junk, .junk, .junk, .junk, .junk, .junk, .junk, .junk, .junk, .junk, .junk, .junk, .junk, .junk, .junk, .junk, .junk, .junk, .junk, .junk, .junk, .junk, .junk], .box 42 [.int .i64 0, .int .i64 0] :: q.X⟩)
    (fun q => l = q.d ++ q.r ∧ q.b ≤ q.d.length ∧ bestI 1 l q.b q.r q.d.length = bestI 1 l 0 l 0) (fun q => q.r.length) ⟨[], l, 0, []⟩ ⟨rfl, Nat.le_refl _, rfl⟩ ⟨by simp only [List.length_nil, Int.natCast_zero]; repeat constructor, rfl⟩ ?_
  rintro ⟨d, q, b, X⟩ ⟨ha, h2, h3⟩
  refine W.sound hmix (E := []) ?_
  simp only at ha h2 h3
  cases q with
  | cons e q =>
    obtain ⟨e1, e2, e5⟩ := frs_split ha hl
    have hb : b < l.length := by omega
    have e3 := frs_at hb
    have hc := cmpP_ok e (l.getD b (0, 1))
    rw [← cmpPQ ((goodL_all g1).2 e (by rw [ha]; simp)) (goodF_at g1 hb)] at hc
    simp only [fr] at hc
    have hb2 : (b : Int) < (l.length : Int) := by omega
    simp only [run0, run1, run2, run3, run4, run5, run6, run7, run8, run9, run10, run11, run12, run13, run14, run15, run16, run17, run18, run19, run20, run21, run22, reduceCtorEq, Nat.reduceEqDiff, Nat.reduceAdd, Nat.reduceSub, Nat.reduceLeDiff, indexAddrA, indexRefA, appendA, strA, Nat.reduceMul, Nat.zero_mul, Nat.reduceMod, Int.reduceEq, Int.reduceLT, Int.reduceLE, Nat.reduceLT, Nat.lt_irrefl, Nat.reduceBEq, tys0, tys1, tys2, tys3, tys4, tys5, tys6, tys7, tys8, tys9, tys10, tys11, tys12, tys13, tys14, tys15, tys16, tys17, tys18, tys19, tys20, tys21, tys22, tys23, Try.ntmps34, Try.results34, List.length_map, e1, e2, e3, hb2, Int.toNat_natCast, Int.natCast_nonneg, List.getElem?_append_right, Nat.sub_self]
    refine ⟨by kernel_rfl, ?_⟩
    refine RunL.callp rfl rfl ok_f82 (hc) (by first | rfl | simp only [pureL, pureB, Bool.and_self, Bool.and_true, Bool.true_and]) rfl ?_
    rw [bestI_cons 1 l e q b d.length] at h3
    by_cases hp : 0 < cmpQ e (l.getD b (0, 1))
    · rw [if_pos (cmpQ_one.2 hp)] at h3
      simp only [run0, run1, run2, run3, run4, run5, run6, run7, run8, run9, run10, run11, run12, run13, run14, run15, run16, run17, run18, run19, run20, run21, run22, reduceCtorEq, Nat.reduceEqDiff, Nat.reduceAdd, Nat.reduceSub, Nat.reduceLeDiff, indexAddrA, indexRefA, appendA, strA, Nat.reduceMul, Nat.zero_mul, Nat.reduceMod, Int.reduceEq, Int.reduceLT, Int.reduceLE, Nat.reduceLT, Nat.lt_irrefl, Nat.reduceBEq, tys0, tys1, tys2, tys3, tys4, tys5, tys6, tys7, tys8, tys9, tys10, tys11, tys12, tys13, tys14, tys15, tys16, tys17, tys18, tys19, tys20, tys21, tys22, tys23, Try.ntmps34, Try.results34, hp, e5]
      exact ⟨⟨d ++ [e], q, d.length, _⟩, ⟨by simp [ha], by simp, by simp only [List.length_append, List.length_cons, List.length_nil]; exact h3⟩, by simp, by simp only [List.length_append, List.length_cons, List.length_nil]; repeat constructor, rfl⟩
    · rw [if_neg (fun e => hp (cmpQ_one.1 e))] at h3
      simp only [run0, run1, run2, run3, run4, run5, run6, run7, run8, run9, run10, run11, run12, run13, run14, run15, run16, run17, run18, run19, run20, run21, run22, reduceCtorEq, Nat.reduceEqDiff, Nat.reduceAdd, Nat.reduceSub, Nat.reduceLeDiff, indexAddrA, indexRefA, appendA, strA, Nat.reduceMul, Nat.zero_mul, Nat.reduceMod, Int.reduceEq, Int.reduceLT, Int.reduceLE, Nat.reduceLT, Nat.lt_irrefl, Nat.reduceBEq, tys0, tys1, tys2, tys3, tys4, tys5, tys6, tys7, tys8, tys9, tys10, tys11, tys12, tys13, tys14, tys15, tys16, tys17, tys18, tys19, tys20, tys21, tys22, tys23, Try.ntmps34, Try.results34, hp, e5]
      exact ⟨⟨d ++ [e], q, b, _⟩, ⟨by simp [ha], by simp; omega, by simp only [List.length_append, List.length_cons, List.length_nil]; exact h3⟩, by simp, by simp only [List.length_append, List.length_cons, List.length_nil]; repeat constructor, rfl⟩
  | nil =>
  have e1 := frs_end ha
  have hbm : b = cutM l := h3
  clear h2 h3 ha
  subst hbm
  simp only [run0, run1, run2, run3, run4, run5, run6, run7, run8, run9, run10, run11, run12, run13, run14, run15, run16, run17, run18, run19, run20, run21, run22, reduceCtorEq, Nat.reduceEqDiff, Nat.reduceAdd, Nat.reduceSub, Nat.reduceLeDiff, indexAddrA, indexRefA, appendA, strA, Nat.reduceMul, Nat.zero_mul, Nat.reduceMod, Int.reduceEq, Int.reduceLT, Int.reduceLE, Nat.reduceLT, Nat.lt_irrefl, Nat.reduceBEq, tys0, tys1, tys2, tys3, tys4, tys5, tys6, tys7, tys8, tys9, tys10, tys11, tys12, tys13, tys14, tys15, tys16, tys17, tys18, tys19, tys20, tys21, tys22, tys23, Try.ntmps34, Try.results34, List.length_map, e1]
  refine AWp.loop_inv (ι := BeS) (fun q => ⟨[.sl false (l.map frE), .sl false (r.map frE), .junk, .junk, .ptr 0 0, .int .i64 0, .int .i64 0, .bool false, .int .i64 (cutM l), .int .i64 q.b, .junk, .junk, .junk, .junk, .junk, .junk, .junk, .junk, .junk, .junk, .junk, .junk, .junk, .junk, .junk, .junk, .junk, .junk, .junk, .junk, .junk, .junk, .junk, .junk, .junk, .junk, .junk, .junk, .junk, .junk, .junk, .sl false (r.map frE), .int .i64 r.length, .int .i64 q.d.length, .junk, .junk, .junk, .junk, .junk, .junk, .junk, .junk, .junk, .junk, .junk, .junk, .junk, .junk, .junk, .junk, .junk, .junk, .junk, .junk, .junk, .junk, .junk, .junk, .junk, .junk, .junk, .junk, .junk, .junk, .junk, .junk, .junk, .junk, .junk, .junk, .junk, .junk, .junk, .junk, .junk, .junk, .junk, .junk, .junk, .junk], .box 42 [.int .i64 0, .int .i64 0] :: q.X⟩)
    (fun q => r = q.d ++ q.r ∧ q.b ≤ q.d.length ∧ bestI (-1) r q.b q.r q.d.length = bestI (-1) r 0 r 0) (fun q => q.r.length) ⟨[], r, 0, X⟩ ⟨rfl, Nat.le_refl _, rfl⟩ ⟨by simp only [List.length_nil, Int.natCast_zero]; repeat constructor, rfl⟩ ?_
  rintro ⟨d, q, b, X⟩ ⟨ha, h2, h3⟩
  refine W.sound hmix (E := []) ?_
  simp only at ha h2 h3
  cases q with
  | cons e q =>
    obtain ⟨e1, e2, e5⟩ := frs_split ha hr
    have hb : b < r.length := by omega
    have e3 := frs_at hb
    have hc := cmpP_ok e (r.getD b (0, 1))
    rw [← cmpPQ ((goodL_all g2).2 e (by rw [ha]; simp)) (goodF_at g2 hb)] at hc
    simp only [fr] at hc
    have hb2 : (b : Int) < (r.length : Int) := by omega
    simp only [run0, run1, run2, run3, run4, run5, run6, run7, run8, run9, run10, run11, run12, run13, run14, run15, run16, run17, run18, run19, run20, run21, run22, reduceCtorEq, Nat.reduceEqDiff, Nat.reduceAdd, Nat.reduceSub, Nat.reduceLeDiff, indexAddrA, indexRefA, appendA, strA, Nat.reduceMul, Nat.zero_mul, Nat.reduceMod, Int.reduceEq, Int.reduceLT, Int.reduceLE, Nat.reduceLT, Nat.lt_irrefl, Nat.reduceBEq, tys0, tys1, tys2, tys3, tys4, tys5, tys6, tys7, tys8, tys9, tys10, tys11, tys12, tys13, tys14, tys15, tys16, tys17, tys18, tys19, tys20, tys21, tys22, tys23, Try.ntmps34, Try.results34, List.length_map, e1, e2, e3, hb2, Int.toNat_natCast, Int.natCast_nonneg, List.getElem?_append_right, Nat.sub_self]
    refine ⟨by kernel_rfl, ?_⟩
    refine RunL.callp rfl rfl ok_f82 (hc) (by first | rfl | simp only [pureL, pureB, Bool.and_self, Bool.and_true, Bool.true_and]) rfl ?_
    rw [bestI_cons (-1) r e q b d.length] at h3
    by_cases hp : cmpQ e (r.getD b (0, 1)) < 0
    · rw [if_pos (cmpQ_minus.2 hp)] at h3
      simp only [run0, run1, run2, run3, run4, run5, run6, run7, run8, run9, run10, run11, run12, run13, run14, run15, run16, run17, run18, run19, run20, run21, run22, reduceCtorEq, Nat.reduceEqDiff, Nat.reduceAdd, Nat.reduceSub, Nat.reduceLeDiff, indexAddrA, indexRefA, appendA, strA, Nat.reduceMul, Nat.zero_mul, Nat.reduceMod, Int.reduceEq, Int.reduceLT, Int.reduceLE, Nat.reduceLT, Nat.lt_irrefl, Nat.reduceBEq, tys0, tys1, tys2, tys3, tys4, tys5, tys6, tys7, tys8, tys9, tys10, tys11, tys12, tys13, tys14, tys15, tys16, tys17, tys18, tys19, tys20, tys21, tys22, tys23, Try.ntmps34, Try.results34, hp, e5]
      exact ⟨⟨d ++ [e], q, d.length, _⟩, ⟨by simp [ha], by simp, by simp only [List.length_append, List.length_cons, List.length_nil]; exact h3⟩, by simp, by simp only [List.length_append, List.length_cons, List.length_nil]; repeat constructor, rfl⟩
    · rw [if_neg (fun e => hp (cmpQ_minus.1 e))] at h3
      simp only [run0, run1, run2, run3, run4, run5, run6, run7, run8, run9, run10, run11, run12, run13, run14, run15, run16, run17, run18, run19, run20, run21, run22, reduceCtorEq, Nat.reduceEqDiff, Nat.reduceAdd, Nat.reduceSub, Nat.reduceLeDiff, indexAddrA, indexRefA, appendA, strA, Nat.reduceMul, Nat.zero_mul, Nat.reduceMod, Int.reduceEq, Int.reduceLT, Int.reduceLE, Nat.reduceLT, Nat.lt_irrefl, Nat.reduceBEq, tys0, tys1, tys2, tys3, tys4, tys5, tys6, tys7, tys8, tys9, tys10, tys11, tys12, tys13, tys14, tys15, tys16, tys17, tys18, tys19, tys20, tys21, tys22, tys23, Try.ntmps34, Try.results34, hp, e5]
      exact ⟨⟨d ++ [e], q, b, _⟩, ⟨by simp [ha], by simp; omega, by simp only [List.length_append, List.length_cons, List.length_nil]; exact h3⟩, by simp, by simp only [List.length_append, List.length_cons, List.length_nil]; repeat constructor, rfl⟩
  | nil =>
  have e1 := frs_end ha
  have hbm : b = cutL r := h3
  clear h2 h3 ha
  subst hbm
  have hss := simplest_ok l r hl hr
  have hk : simR l r = if cutBad l r then .tup [frE (0, 0), .bool false] else .tup [frE (frN (cutX l r), frD (cutX l r)), .bool true] := by
    unfold simR; cases cutBad l r <;> rfl
  cases m1 : l.isEmpty
  case true =>
    have k1 := isE_not m1
    have ho : overB l r = false := by simp [overB, m1]
    simp only [run0, run1, run2, run3, run4, run5, run6, run7, run8, run9, run10, run11, run12, run13, run14, run15, run16, run17, run18, run19, run20, run21, run22, reduceCtorEq, Nat.reduceEqDiff, Nat.reduceAdd, Nat.reduceSub, Nat.reduceLeDiff, indexAddrA, indexRefA, appendA, strA, Nat.reduceMul, Nat.zero_mul, Nat.reduceMod, Int.reduceEq, Int.reduceLT, Int.reduceLE, Nat.reduceLT, Nat.lt_irrefl, Nat.reduceBEq, tys0, tys1, tys2, tys3, tys4, tys5, tys6, tys7, tys8, tys9, tys10, tys11, tys12, tys13, tys14, tys15, tys16, tys17, tys18, tys19, tys20, tys21, tys22, tys23, Try.ntmps34, Try.results34, List.length_map, e1, k1]
    refine ⟨by kernel_rfl, ?_⟩
    refine RunL.callp rfl rfl ok_f84 hss (by simp only [pureL, pureB, pl, pr, Bool.and_self]) rfl ?_
    rw [hk]
    cases hb : cutBad l r
    · simp only [run0, run1, run2, run3, run4, run5, run6, run7, run8, run9, run10, run11, run12, run13, run14, run15, run16, run17, run18, run19, run20, run21, run22, reduceCtorEq, Nat.reduceEqDiff, Nat.reduceAdd, Nat.reduceSub, Nat.reduceLeDiff, indexAddrA, indexRefA, appendA, strA, Nat.reduceMul, Nat.zero_mul, Nat.reduceMod, Int.reduceEq, Int.reduceLT, Int.reduceLE, Nat.reduceLT, Nat.lt_irrefl, Nat.reduceBEq, tys0, tys1, tys2, tys3, tys4, tys5, tys6, tys7, tys8, tys9, tys10, tys11, tys12, tys13, tys14, tys15, tys16, tys17, tys18, tys19, tys20, tys21, tys22, tys23, Try.ntmps34, Try.results34, frE, List.getElem?_append_right, Nat.sub_self]
      exact Fin.eq (by simp [cutR, g1, g2, ho, hb, frE]) rfl
    · simp only [run0, run1, run2, run3, run4, run5, run6, run7, run8, run9, run10, run11, run12, run13, run14, run15, run16, run17, run18, run19, run20, run21, run22, reduceCtorEq, Nat.reduceEqDiff, Nat.reduceAdd, Nat.reduceSub, Nat.reduceLeDiff, indexAddrA, indexRefA, appendA, strA, Nat.reduceMul, Nat.zero_mul, Nat.reduceMod, Int.reduceEq, Int.reduceLT, Int.reduceLE, Nat.reduceLT, Nat.lt_irrefl, Nat.reduceBEq, tys0, tys1, tys2, tys3, tys4, tys5, tys6, tys7, tys8, tys9, tys10, tys11, tys12, tys13, tys14, tys15, tys16, tys17, tys18, tys19, tys20, tys21, tys22, tys23, Try.ntmps34, Try.results34, frE, List.getElem?_append_right, Nat.sub_self]
      exact Fin.eq (by simp [cutR, g1, g2, ho, hb, frE]) rfl
  case false =>
    have k1 := isE_length m1
    cases m2 : r.isEmpty
    case true =>
      have k2 := isE_not m2
      have ho : overB l r = false := by simp [overB, m2]
      simp only [run0, run1, run2, run3, run4, run5, run6, run7, run8, run9, run10, run11, run12, run13, run14, run15, run16, run17, run18, run19, run20, run21, run22, reduceCtorEq, Nat.reduceEqDiff, Nat.reduceAdd, Nat.reduceSub, Nat.reduceLeDiff, indexAddrA, indexRefA, appendA, strA, Nat.reduceMul, Nat.zero_mul, Nat.reduceMod, Int.reduceEq, Int.reduceLT, Int.reduceLE, Nat.reduceLT, Nat.lt_irrefl, Nat.reduceBEq, tys0, tys1, tys2, tys3, tys4, tys5, tys6, tys7, tys8, tys9, tys10, tys11, tys12, tys13, tys14, tys15, tys16, tys17, tys18, tys19, tys20, tys21, tys22, tys23, Try.ntmps34, Try.results34, List.length_map, e1, k1, k2]
      refine ⟨by kernel_rfl, ?_⟩
      refine RunL.callp rfl rfl ok_f84 hss (by simp only [pureL, pureB, pl, pr, Bool.and_self]) rfl ?_
      rw [hk]
      cases hb : cutBad l r
      · simp only [run0, run1, run2, run3, run4, run5, run6, run7, run8, run9, run10, run11, run12, run13, run14, run15, run16, run17, run18, run19, run20, run21, run22, reduceCtorEq, Nat.reduceEqDiff, Nat.reduceAdd, Nat.reduceSub, Nat.reduceLeDiff, indexAddrA, indexRefA, appendA, strA, Nat.reduceMul, Nat.zero_mul, Nat.reduceMod, Int.reduceEq, Int.reduceLT, Int.reduceLE, Nat.reduceLT, Nat.lt_irrefl, Nat.reduceBEq, tys0, tys1, tys2, tys3, tys4, tys5, tys6, tys7, tys8, tys9, tys10, tys11, tys12, tys13, tys14, tys15, tys16, tys17, tys18, tys19, tys20, tys21, tys22, tys23, Try.ntmps34, Try.results34, frE, List.getElem?_append_right, Nat.sub_self]
        exact Fin.eq (by simp [cutR, g1, g2, ho, hb, frE]) rfl
      · simp only [run0, run1, run2, run3, run4, run5, run6, run7, run8, run9, run10, run11, run12, run13, run14, run15, run16, run17, run18, run19, run20, run21, run22, reduceCtorEq, Nat.reduceEqDiff, Nat.reduceAdd, Nat.reduceSub, Nat.reduceLeDiff, indexAddrA, indexRefA, appendA, strA, Nat.reduceMul, Nat.zero_mul, Nat.reduceMod, Int.reduceEq, Int.reduceLT, Int.reduceLE, Nat.reduceLT, Nat.lt_irrefl, Nat.reduceBEq, tys0, tys1, tys2, tys3, tys4, tys5, tys6, tys7, tys8, tys9, tys10, tys11, tys12, tys13, tys14, tys15, tys16, tys17, tys18, tys19, tys20, tys21, tys22, tys23, Try.ntmps34, Try.results34, frE, List.getElem?_append_right, Nat.sub_self]
        exact Fin.eq (by simp [cutR, g1, g2, ho, hb, frE]) rfl
    case false =>
      have k2 := isE_length m2
      have b1 : cutM l < l.length := bestI_lt _ _ _ _ _ (by omega) (by omega)
      have b2 : cutL r < r.length := bestI_lt _ _ _ _ _ (by omega) (by omega)
      have c1 := frs_at b1
      have c2 := frs_at b2
      have b3 : (cutM l : Int) < (l.length : Int) := by omega
      have b4 : (cutL r : Int) < (r.length : Int) := by omega
      have hc := cmpP_ok (l.getD (cutM l) (0, 1)) (r.getD (cutL r) (0, 1))
      rw [← cmpPQ (goodF_at g1 b1) (goodF_at g2 b2)] at hc
      simp only [fr] at hc
      simp only [run0, run1, run2, run3, run4, run5, run6, run7, run8, run9, run10, run11, run12, run13, run14, run15, run16, run17, run18, run19, run20, run21, run22, reduceCtorEq, Nat.reduceEqDiff, Nat.reduceAdd, Nat.reduceSub, Nat.reduceLeDiff, indexAddrA, indexRefA, appendA, strA, Nat.reduceMul, Nat.zero_mul, Nat.reduceMod, Int.reduceEq, Int.reduceLT, Int.reduceLE, Nat.reduceLT, Nat.lt_irrefl, Nat.reduceBEq, tys0, tys1, tys2, tys3, tys4, tys5, tys6, tys7, tys8, tys9, tys10, tys11, tys12, tys13, tys14, tys15, tys16, tys17, tys18, tys19, tys20, tys21, tys22, tys23, Try.ntmps34, Try.results34, List.length_map, e1, k1, k2, c1, c2, b3, b4, Int.toNat_natCast, Int.natCast_nonneg]
      refine ⟨by kernel_rfl, ?_⟩
      refine RunL.callp rfl rfl ok_f82 (hc) (by first | rfl | simp only [pureL, pureB, Bool.and_self, Bool.and_true, Bool.true_and]) rfl ?_
      by_cases ho : 0 ≤ cmpQ (l.getD (cutM l) (0, 1)) (r.getD (cutL r) (0, 1))
      · have ho2 : overB l r = true := by simp only [overB, m1, m2, ho]; rfl
        simp only [run0, run1, run2, run3, run4, run5, run6, run7, run8, run9, run10, run11, run12, run13, run14, run15, run16, run17, run18, run19, run20, run21, run22, reduceCtorEq, Nat.reduceEqDiff, Nat.reduceAdd, Nat.reduceSub, Nat.reduceLeDiff, indexAddrA, indexRefA, appendA, strA, Nat.reduceMul, Nat.zero_mul, Nat.reduceMod, Int.reduceEq, Int.reduceLT, Int.reduceLE, Nat.reduceLT, Nat.lt_irrefl, Nat.reduceBEq, tys0, tys1, tys2, tys3, tys4, tys5, tys6, tys7, tys8, tys9, tys10, tys11, tys12, tys13, tys14, tys15, tys16, tys17, tys18, tys19, tys20, tys21, tys22, tys23, Try.ntmps34, Try.results34, ho]
        refine RunL.callp rfl rfl ok_f83 (whole_ok 0) (by first | rfl | simp only [pureL, pureB, Bool.and_self, Bool.and_true, Bool.true_and]) rfl ?_
        simp only [run0, run1, run2, run3, run4, run5, run6, run7, run8, run9, run10, run11, run12, run13, run14, run15, run16, run17, run18, run19, run20, run21, run22, reduceCtorEq, Nat.reduceEqDiff, Nat.reduceAdd, Nat.reduceSub, Nat.reduceLeDiff, indexAddrA, indexRefA, appendA, strA, Nat.reduceMul, Nat.zero_mul, Nat.reduceMod, Int.reduceEq, Int.reduceLT, Int.reduceLE, Nat.reduceLT, Nat.lt_irrefl, Nat.reduceBEq, tys0, tys1, tys2, tys3, tys4, tys5, tys6, tys7, tys8, tys9, tys10, tys11, tys12, tys13, tys14, tys15, tys16, tys17, tys18, tys19, tys20, tys21, tys22, tys23, Try.ntmps34, Try.results34, frE]
        exact Fin.eq (by simp [cutR, g1, g2, ho2, frE]) rfl
      · have ho2 : overB l r = false := by simp only [overB, m1, m2, ho]; rfl
        simp only [run0, run1, run2, run3, run4, run5, run6, run7, run8, run9, run10, run11, run12, run13, run14, run15, run16, run17, run18, run19, run20, run21, run22, reduceCtorEq, Nat.reduceEqDiff, Nat.reduceAdd, Nat.reduceSub, Nat.reduceLeDiff, indexAddrA, indexRefA, appendA, strA, Nat.reduceMul, Nat.zero_mul, Nat.reduceMod, Int.reduceEq, Int.reduceLT, Int.reduceLE, Nat.reduceLT, Nat.lt_irrefl, Nat.reduceBEq, tys0, tys1, tys2, tys3, tys4, tys5, tys6, tys7, tys8, tys9, tys10, tys11, tys12, tys13, tys14, tys15, tys16, tys17, tys18, tys19, tys20, tys21, tys22, tys23, Try.ntmps34, Try.results34, ho]
        refine RunL.callp rfl rfl ok_f84 hss (by simp only [pureL, pureB, pl, pr, Bool.and_self]) rfl ?_
        rw [hk]
        cases hb : cutBad l r
        · simp only [run0, run1, run2, run3, run4, run5, run6, run7, run8, run9, run10, run11, run12, run13, run14, run15, run16, run17, run18, run19, run20, run21, run22, reduceCtorEq, Nat.reduceEqDiff, Nat.reduceAdd, Nat.reduceSub, Nat.reduceLeDiff, indexAddrA, indexRefA, appendA, strA, Nat.reduceMul, Nat.zero_mul, Nat.reduceMod, Int.reduceEq, Int.reduceLT, Int.reduceLE, Nat.reduceLT, Nat.lt_irrefl, Nat.reduceBEq, tys0, tys1, tys2, tys3, tys4, tys5, tys6, tys7, tys8, tys9, tys10, tys11, tys12, tys13, tys14, tys15, tys16, tys17, tys18, tys19, tys20, tys21, tys22, tys23, Try.ntmps34, Try.results34, frE, List.getElem?_append_right, Nat.sub_self]
          exact Fin.eq (by simp [cutR, g1, g2, ho2, hb, frE]) rfl
        · simp only [run0, run1, run2, run3, run4, run5, run6, run7, run8, run9, run10, run11, run12, run13, run14, run15, run16, run17, run18, run19, run20, run21, run22, reduceCtorEq, Nat.reduceEqDiff, Nat.reduceAdd, Nat.reduceSub, Nat.reduceLeDiff, indexAddrA, indexRefA, appendA, strA, Nat.reduceMul, Nat.zero_mul, Nat.reduceMod, Int.reduceEq, Int.reduceLT, Int.reduceLE, Nat.reduceLT, Nat.lt_irrefl, Nat.reduceBEq, tys0, tys1, tys2, tys3, tys4, tys5, tys6, tys7, tys8, tys9, tys10, tys11, tys12, tys13, tys14, tys15, tys16, tys17, tys18, tys19, tys20, tys21, tys22, tys23, Try.ntmps34, Try.results34, frE, List.getElem?_append_right, Nat.sub_self]
          exact Fin.eq (by simp [cutR, g1, g2, ho2, hb, frE]) rfl

end Go.Proofs.Ytllcljajlemmaaa
/-
  Games: positions as data: sizes, copies, compared; which are games, by both.
-/
namespace Go.Proofs.Ytllcljajlemmaaa
open Go K
set_option linter.unusedSimpArgs false
set_option linter.unusedVariables false
set_option maxHeartbeats 1600000
set_option maxRecDepth 8000

abbrev GP := List Int × List Int
def posE (p : GP) : AV := .agg [.sl false (ints p.1), .sl false (ints p.2)]
theorem pos_get (d r : List GP) (e : GP) : ((d ++ e :: r).map posE)[d.length]? = some (.agg [.sl false (ints e.1), .sl false (ints e.2)]) := by simp [posE]
theorem posL_pure : ∀ l : List GP, pureL (l.map posE) = true
  | [] => rfl
  | x :: r => by simp [posE, pureL, pureB, ints_pure, posL_pure r]
theorem posL_noOwn (l : List GP) : noOwn (l.map posE) = true := by
  refine List.all_eq_true.2 fun x hx => ?_
  obtain ⟨e, _, rfl⟩ := List.mem_map.1 hx
  rfl
theorem pos_split {l d r : List GP} {e : GP} (ha : l = d ++ e :: r) (hl : l.length ≤ 1048576) : (d.length : Int) < (l.length : Int) ∧ (l.map posE)[d.length]? = some (.agg [.sl false (ints e.1), .sl false (ints e.2)]) ∧ IntKind.i64.wrap ((d.length : Int) + 1) = ((d ++ [e]).length : Int) := by
  have hda : l.length = d.length + (r.length + 1) := by rw [ha]; simp
  refine ⟨by omega, by rw [ha]; exact pos_get d r e, by rw [i64_id (by omega) (by omega)]; simp⟩
theorem pos_end {l d : List GP} (ha : l = d ++ []) : ¬ ((d.length : Int) < (l.length : Int)) := by rw [ha]; simp
theorem int_split {l d r : List Int} {e : Int} (ha : l = d ++ e :: r) (hl : l.length ≤ 1048576) : (d.length : Int) < (l.length : Int) ∧ (ints l)[d.length]? = some (.int .i64 e) ∧ IntKind.i64.wrap ((d.length : Int) + 1) = ((d ++ [e]).length : Int) := by
  have hda : l.length = d.length + (r.length + 1) := by rw [ha]; simp
  refine ⟨by omega, by rw [ha]; exact ints_get d r e, by rw [i64_id (by omega) (by omega)]; simp⟩
theorem int_end {l d : List Int} (ha : l = d ++ []) : ¬ ((d.length : Int) < (l.length : Int)) := by rw [ha]; simp

/-! ### what comes in -/
def fitP (p : GP) : Prop := p.1.length ≤ 9223372036854775807 ∧ p.2.length ≤ 9223372036854775807
theorem pos_in : ∀ es : List AV, (∀ x ∈ es, IsOf Try.prog 68 x) → ∃ l : List GP, es = l.map posE ∧ ∀ p ∈ l, fitP p
  | [], _ => ⟨[], rfl, by simp⟩
  | x :: es, hes => by
    obtain ⟨l, rfl, h2⟩ := pos_in es fun y hy => hes y (List.mem_cons_of_mem _ hy)
    obtain ⟨k, cs, rfl, hcl, hx⟩ := (hes x (List.mem_cons_self ..)).agg ty_a68
    rw [ty_c68] at hcl
    match cs, hcl with
    | [u, v], _ =>
      obtain ⟨_, g0⟩ := hx.field ty_f68_0
      obtain ⟨_, g1⟩ := hx.field ty_f68_1
      rw [ty_c66] at g0
      rw [ty_c66] at g1
      simp only [List.drop_zero, List.take_succ_cons, List.take_zero, List.drop_succ_cons] at g0 g1
      obtain ⟨e0, q0, l0, s0⟩ := g0.slice Try.underlying66
      obtain ⟨e1, q1, l1, s1⟩ := g1.slice Try.underlying66
      simp only [List.cons.injEq, and_true] at q0 q1
      subst q0 q1
      obtain ⟨a, rfl⟩ := ints_in e0 s0
      obtain ⟨b, rfl⟩ := ints_in e1 s1
      rw [mx_len] at l0 l1
      refine ⟨(a, b) :: l, rfl, fun p hp => ?_⟩
      rcases List.mem_cons.1 hp with rfl | hp
      · exact ⟨by simpa using l0, by simpa using l1⟩
      · exact h2 p hp
theorem laws_isPoS {x : AV} (h : IsOf Try.prog 22 x) : ∃ g : List GP, x = .sl false (g.map posE) ∧ g.length ≤ 9223372036854775807 ∧ ∀ p ∈ g, fitP p := by
  obtain ⟨n, h0⟩ := h.one ty_a22
  obtain ⟨es, e0, hel, hes⟩ := h0.slice Try.underlying22
  simp only [List.cons.injEq, and_true] at e0
  subst e0
  obtain ⟨l, rfl, h2⟩ := pos_in es hes
  rw [mx_len] at hel
  exact ⟨l, rfl, by simpa using hel, h2⟩

/-! ### sizes -/
def psz (p : GP) : Nat := p.1.length + p.2.length
def gsz : List GP → Nat
  | [] => 0
  | p :: r => psz p + gsz r
theorem szPosition_ok (p : GP) (k : Int) (hf : fitP p) (h0 : 0 ≤ k) (h1 : k ≤ 1048576) : Ct Try.prog 45 [.agg [.sl false (ints p.1), .sl false (ints p.2)], .int .i64 k] [] (.int .i64 (szN (psz p) k)) [] := by
  have p1 := ints_pure p.1
  have p2 := ints_pure p.2
  have s3 := szN_spec (psz p) k
  unfold psz at s3
  refine Ct.by_ hmix [] Try.func45 rfl ?_
  simp only [run0, run1, run2, run3, run4, run5, run6, run7, run8, run9, run10, run11, run12, run13, run14, run15, run16, run17, run18, run19, run20, run21, run22, reduceCtorEq, Nat.reduceEqDiff, Nat.reduceAdd, Nat.reduceSub, Nat.reduceLeDiff, indexAddrA, indexRefA, appendA, strA, Nat.reduceMul, Nat.zero_mul, Nat.reduceMod, Int.reduceEq, Int.reduceLT, Int.reduceLE, Nat.reduceLT, Nat.lt_irrefl, Nat.reduceBEq, tys0, tys1, tys2, tys3, tys4, tys5, tys6, tys7, tys8, tys9, tys10, tys11, tys12, tys13, tys14, tys15, tys16, tys17, tys18, tys19, tys20, tys21, tys22, tys23, Try.ntmps45, Try.results45]
  refine RunL.callp rfl rfl ok_f89 (szIntS_ok p.1 k hf.1 h0 h1) (by simp only [pureL, pureB, p1, Bool.and_self]) rfl ?_
  rcases szN_spec p.1.length k with ⟨a, b⟩ | ⟨a, b⟩
  · have e : ¬ szN p.1.length k < 0 := by omega
    simp only [run0, run1, run2, run3, run4, run5, run6, run7, run8, run9, run10, run11, run12, run13, run14, run15, run16, run17, run18, run19, run20, run21, run22, reduceCtorEq, Nat.reduceEqDiff, Nat.reduceAdd, Nat.reduceSub, Nat.reduceLeDiff, indexAddrA, indexRefA, appendA, strA, Nat.reduceMul, Nat.zero_mul, Nat.reduceMod, Int.reduceEq, Int.reduceLT, Int.reduceLE, Nat.reduceLT, Nat.lt_irrefl, Nat.reduceBEq, tys0, tys1, tys2, tys3, tys4, tys5, tys6, tys7, tys8, tys9, tys10, tys11, tys12, tys13, tys14, tys15, tys16, tys17, tys18, tys19, tys20, tys21, tys22, tys23, Try.ntmps45, Try.results45, e]
    refine RunL.callp rfl rfl ok_f89 (szIntS_ok p.2 _ hf.2 (by omega) (by omega)) (by simp only [pureL, pureB, p2, Bool.and_self]) rfl ?_
    rcases szN_spec p.2.length (szN p.1.length k) with ⟨c, d⟩ | ⟨c, d⟩
    · have e : ¬ szN p.2.length (szN p.1.length k) < 0 := by omega
      simp only [run0, run1, run2, run3, run4, run5, run6, run7, run8, run9, run10, run11, run12, run13, run14, run15, run16, run17, run18, run19, run20, run21, run22, reduceCtorEq, Nat.reduceEqDiff, Nat.reduceAdd, Nat.reduceSub, Nat.reduceLeDiff, indexAddrA, indexRefA, appendA, strA, Nat.reduceMul, Nat.zero_mul, Nat.reduceMod, Int.reduceEq, Int.reduceLT, Int.reduceLE, Nat.reduceLT, Nat.lt_irrefl, Nat.reduceBEq, tys0, tys1, tys2, tys3, tys4, tys5, tys6, tys7, tys8, tys9, tys10, tys11, tys12, tys13, tys14, tys15, tys16, tys17, tys18, tys19, tys20, tys21, tys22, tys23, Try.ntmps45, Try.results45, e]
      exact Fin.eq (by unfold psz; congr 1; omega) rfl
    · have e : szN p.2.length (szN p.1.length k) < 0 := by omega
      simp only [run0, run1, run2, run3, run4, run5, run6, run7, run8, run9, run10, run11, run12, run13, run14, run15, run16, run17, run18, run19, run20, run21, run22, reduceCtorEq, Nat.reduceEqDiff, Nat.reduceAdd, Nat.reduceSub, Nat.reduceLeDiff, indexAddrA, indexRefA, appendA, strA, Nat.reduceMul, Nat.zero_mul, Nat.reduceMod, Int.reduceEq, Int.reduceLT, Int.reduceLE, Nat.reduceLT, Nat.lt_irrefl, Nat.reduceBEq, tys0, tys1, tys2, tys3, tys4, tys5, tys6, tys7, tys8, tys9, tys10, tys11, tys12, tys13, tys14, tys15, tys16, tys17, tys18, tys19, tys20, tys21, tys22, tys23, Try.ntmps45, Try.results45, e]
      exact Fin.eq (by unfold psz; congr 1; omega) rfl
  · have e : szN p.1.length k < 0 := by omega
    simp only [run0, run1, run2, run3, run4, run5, run6, run7, run8, run9, run10, run11, run12, run13, run14, run15, run16, run17, run18, run19, run20, run21, run22, reduceCtorEq, Nat.reduceEqDiff, Nat.reduceAdd, Nat.reduceSub, Nat.reduceLeDiff, indexAddrA, indexRefA, appendA, strA, Nat.reduceMul, Nat.zero_mul, Nat.reduceMod, Int.reduceEq, Int.reduceLT, Int.reduceLE, Nat.reduceLT, Nat.lt_irrefl, Nat.reduceBEq, tys0, tys1, tys2, tys3, tys4, tys5, tys6, tys7, tys8, tys9, tys10, tys11, tys12, tys13, tys14, tys15, tys16, tys17, tys18, tys19, tys20, tys21, tys22, tys23, Try.ntmps45, Try.results45, e]
    exact Fin.eq (by unfold psz; congr 1; omega) rfl
theorem szPositionS_ok (g : List GP) (k : Int) (hl : g.length ≤ 9223372036854775807) (hf : ∀ p ∈ g, fitP p) (h0 : 0 ≤ k) (h1 : k ≤ 1048576) : Ct Try.prog 13 [.sl false (g.map posE), .int .i64 k] [] (.int .i64 (szN (g.length + gsz g) k)) [] := by
  have hw : IntKind.i64.wrap (k - (g.length : Int)) = k - g.length := i64_id (by omega) (by omega)
  have s3 := szN_spec (g.length + gsz g) k
  refine Ct.by_ hmix [] Try.func13 rfl ?_
  simp only [run0, run1, run2, run3, run4, run5, run6, run7, run8, run9, run10, run11, run12, run13, run14, run15, run16, run17, run18, run19, run20, run21, run22, reduceCtorEq, Nat.reduceEqDiff, Nat.reduceAdd, Nat.reduceSub, Nat.reduceLeDiff, indexAddrA, indexRefA, appendA, strA, Nat.reduceMul, Nat.zero_mul, Nat.reduceMod, Int.reduceEq, Int.reduceLT, Int.reduceLE, Nat.reduceLT, Nat.lt_irrefl, Nat.reduceBEq, tys0, tys1, tys2, tys3, tys4, tys5, tys6, tys7, tys8, tys9, tys10, tys11, tys12, tys13, tys14, tys15, tys16, tys17, tys18, tys19, tys20, tys21, tys22, tys23, Try.ntmps13, Try.results13, hw, List.length_map]
  by_cases hn : k - (g.length : Int) < 0
  · simp only [run0, run1, run2, run3, run4, run5, run6, run7, run8, run9, run10, run11, run12, run13, run14, run15, run16, run17, run18, run19, run20, run21, run22, reduceCtorEq, Nat.reduceEqDiff, Nat.reduceAdd, Nat.reduceSub, Nat.reduceLeDiff, indexAddrA, indexRefA, appendA, strA, Nat.reduceMul, Nat.zero_mul, Nat.reduceMod, Int.reduceEq, Int.reduceLT, Int.reduceLE, Nat.reduceLT, Nat.lt_irrefl, Nat.reduceBEq, tys0, tys1, tys2, tys3, tys4, tys5, tys6, tys7, tys8, tys9, tys10, tys11, tys12, tys13, tys14, tys15, tys16, tys17, tys18, tys19, tys20, tys21, tys22, tys23, Try.ntmps13, Try.results13, hn]
    exact Fin.eq (by congr 1; omega) rfl
  simp only [run0, run1, run2, run3, run4, run5, run6, run7, run8, run9, run10, run11, run12, run13, run14, run15, run16, run17, run18, run19, run20, run21, run22, reduceCtorEq, Nat.reduceEqDiff, Nat.reduceAdd, Nat.reduceSub, Nat.reduceLeDiff, indexAddrA, indexRefA, appendA, strA, Nat.reduceMul, Nat.zero_mul, Nat.reduceMod, Int.reduceEq, Int.reduceLT, Int.reduceLE, Nat.reduceLT, Nat.lt_irrefl, Nat.reduceBEq, tys0, tys1, tys2, tys3, tys4, tys5, tys6, tys7, tys8, tys9, tys10, tys11, tys12, tys13, tys14, tys15, tys16, tys17, tys18, tys19, tys20, tys21, tys22, tys23, Try.ntmps13, Try.results13, hn]
  refine AWp.loop_inv (ι := List GP × List GP × Int) (fun p => ⟨[.sl false (g.map posE), .int .i64 p.2.2, .junk, .junk, .int .i64 0, .int .i64 p.1.length, .junk, .junk, .junk, .junk, .junk, .junk, .junk, .junk, .junk, .junk, .junk, .junk, .junk, .junk, .junk, .junk, .junk, .junk, .junk, .junk, .junk], []⟩)
    (fun p => g = p.1 ++ p.2.1 ∧ 0 ≤ p.2.2 ∧ p.2.2 ≤ 1048576 ∧ szN (gsz p.2.1) p.2.2 = szN (g.length + gsz g) k) (fun p => p.2.1.length) ([], g, k - g.length)
    ⟨rfl, by simp only; omega, by simp only; omega, by have := szN_spec (gsz g) (k - g.length); simp only; omega⟩ ⟨by simp only [List.length_nil, Int.natCast_zero]; repeat constructor, rfl⟩ ?_
  rintro ⟨d, r, l'⟩ ⟨ha, h2, h3, h4⟩
  refine W.sound hmix (E := []) ?_
  simp only at ha h2 h3 h4
  cases r with
  | nil =>
    have e1 := pos_end ha
    simp only [run0, run1, run2, run3, run4, run5, run6, run7, run8, run9, run10, run11, run12, run13, run14, run15, run16, run17, run18, run19, run20, run21, run22, reduceCtorEq, Nat.reduceEqDiff, Nat.reduceAdd, Nat.reduceSub, Nat.reduceLeDiff, indexAddrA, indexRefA, appendA, strA, Nat.reduceMul, Nat.zero_mul, Nat.reduceMod, Int.reduceEq, Int.reduceLT, Int.reduceLE, Nat.reduceLT, Nat.lt_irrefl, Nat.reduceBEq, tys0, tys1, tys2, tys3, tys4, tys5, tys6, tys7, tys8, tys9, tys10, tys11, tys12, tys13, tys14, tys15, tys16, tys17, tys18, tys19, tys20, tys21, tys22, tys23, Try.ntmps13, Try.results13, e1, List.length_map]
    exact Fin.eq (by rw [← h4]; have := szN_spec (gsz []) l'; simp only [gsz] at this; congr 1; simp only [gsz]; omega) rfl
  | cons e r =>
    have hgl : g.length ≤ 1048576 := by omega
    obtain ⟨e1, e2, e5⟩ := pos_split ha hgl
    have hz := szPosition_ok e l' (hf e (by rw [ha]; simp)) h2 h3
    simp only [run0, run1, run2, run3, run4, run5, run6, run7, run8, run9, run10, run11, run12, run13, run14, run15, run16, run17, run18, run19, run20, run21, run22, reduceCtorEq, Nat.reduceEqDiff, Nat.reduceAdd, Nat.reduceSub, Nat.reduceLeDiff, indexAddrA, indexRefA, appendA, strA, Nat.reduceMul, Nat.zero_mul, Nat.reduceMod, Int.reduceEq, Int.reduceLT, Int.reduceLE, Nat.reduceLT, Nat.lt_irrefl, Nat.reduceBEq, tys0, tys1, tys2, tys3, tys4, tys5, tys6, tys7, tys8, tys9, tys10, tys11, tys12, tys13, tys14, tys15, tys16, tys17, tys18, tys19, tys20, tys21, tys22, tys23, Try.ntmps13, Try.results13, e1, e2, List.length_map, Int.toNat_natCast, Int.natCast_nonneg]
    have q1 := ints_pure e.1
    have q2 := ints_pure e.2
    refine RunL.callp rfl rfl ok_f45 hz (by simp only [pureL, pureB, q1, q2, Bool.and_self]) rfl ?_
    simp only [gsz] at h4
    have k1 := szN_spec (psz e) l'
    have k2 := szN_spec (psz e + gsz r) l'
    have k3 := szN_spec (gsz r) (szN (psz e) l')
    by_cases hneg : szN (psz e) l' < 0
    · simp only [run0, run1, run2, run3, run4, run5, run6, run7, run8, run9, run10, run11, run12, run13, run14, run15, run16, run17, run18, run19, run20, run21, run22, reduceCtorEq, Nat.reduceEqDiff, Nat.reduceAdd, Nat.reduceSub, Nat.reduceLeDiff, indexAddrA, indexRefA, appendA, strA, Nat.reduceMul, Nat.zero_mul, Nat.reduceMod, Int.reduceEq, Int.reduceLT, Int.reduceLE, Nat.reduceLT, Nat.lt_irrefl, Nat.reduceBEq, tys0, tys1, tys2, tys3, tys4, tys5, tys6, tys7, tys8, tys9, tys10, tys11, tys12, tys13, tys14, tys15, tys16, tys17, tys18, tys19, tys20, tys21, tys22, tys23, Try.ntmps13, Try.results13, hneg]
      exact Fin.eq (by rw [← h4]; congr 1; omega) rfl
    · simp only [run0, run1, run2, run3, run4, run5, run6, run7, run8, run9, run10, run11, run12, run13, run14, run15, run16, run17, run18, run19, run20, run21, run22, reduceCtorEq, Nat.reduceEqDiff, Nat.reduceAdd, Nat.reduceSub, Nat.reduceLeDiff, indexAddrA, indexRefA, appendA, strA, Nat.reduceMul, Nat.zero_mul, Nat.reduceMod, Int.reduceEq, Int.reduceLT, Int.reduceLE, Nat.reduceLT, Nat.lt_irrefl, Nat.reduceBEq, tys0, tys1, tys2, tys3, tys4, tys5, tys6, tys7, tys8, tys9, tys10, tys11, tys12, tys13, tys14, tys15, tys16, tys17, tys18, tys19, tys20, tys21, tys22, tys23, Try.ntmps13, Try.results13, hneg, e5]
      exact ⟨(d ++ [e], r, szN (psz e) l'), ⟨by simp [ha], by simp only; omega, by simp only; omega, by rw [← h4]; simp only; omega⟩, by simp, by simp only [List.length_append, List.length_cons, List.length_nil]; repeat constructor⟩
theorem gsz_mem : ∀ {g : List GP} {p : GP}, p ∈ g → psz p ≤ gsz g
  | q :: r, p, h => by
    simp only [gsz]
    rcases List.mem_cons.1 h with rfl | h
    · omega
    · have := gsz_mem h; omega

/-! ### copies, as values -/
def smallP (p : GP) : Prop := p.1.length ≤ 1048576 ∧ p.2.length ≤ 1048576
theorem toPosition_ok (p : GP) (h : smallP p) : Ct Try.prog 48 [.agg [.sl false (ints p.1), .sl false (ints p.2)]] [] (.agg [.sl false (ints p.1), .sl false (ints p.2)]) [] := by
  have p1 := ints_pure p.1
  have p2 := ints_pure p.2
  refine Ct.by_ hmix [] Try.func48 rfl ?_
  simp only [run0, run1, run2, run3, run4, run5, run6, run7, run8, run9, run10, run11, run12, run13, run14, run15, run16, run17, run18, run19, run20, run21, run22, reduceCtorEq, Nat.reduceEqDiff, Nat.reduceAdd, Nat.reduceSub, Nat.reduceLeDiff, indexAddrA, indexRefA, appendA, strA, Nat.reduceMul, Nat.zero_mul, Nat.reduceMod, Int.reduceEq, Int.reduceLT, Int.reduceLE, Nat.reduceLT, Nat.lt_irrefl, Nat.reduceBEq, tys0, tys1, tys2, tys3, tys4, tys5, tys6, tys7, tys8, tys9, tys10, tys11, tys12, tys13, tys14, tys15, tys16, tys17, tys18, tys19, tys20, tys21, tys22, tys23, Try.ntmps48, Try.results48]
  refine RunL.callp rfl rfl ok_f92 (toIntS_ok p.1 h.1) (by simp only [pureL, pureB, p1, Bool.and_self]) rfl ?_
  simp only [run0, run1, run2, run3, run4, run5, run6, run7, run8, run9, run10, run11, run12, run13, run14, run15, run16, run17, run18, run19, run20, run21, run22, reduceCtorEq, Nat.reduceEqDiff, Nat.reduceAdd, Nat.reduceSub, Nat.reduceLeDiff, indexAddrA, indexRefA, appendA, strA, Nat.reduceMul, Nat.zero_mul, Nat.reduceMod, Int.reduceEq, Int.reduceLT, Int.reduceLE, Nat.reduceLT, Nat.lt_irrefl, Nat.reduceBEq, tys0, tys1, tys2, tys3, tys4, tys5, tys6, tys7, tys8, tys9, tys10, tys11, tys12, tys13, tys14, tys15, tys16, tys17, tys18, tys19, tys20, tys21, tys22, tys23, Try.ntmps48, Try.results48]
  refine RunL.callp rfl rfl ok_f92 (toIntS_ok p.2 h.2) (by simp only [pureL, pureB, p2, Bool.and_self]) rfl ?_
  simp only [run0, run1, run2, run3, run4, run5, run6, run7, run8, run9, run10, run11, run12, run13, run14, run15, run16, run17, run18, run19, run20, run21, run22, reduceCtorEq, Nat.reduceEqDiff, Nat.reduceAdd, Nat.reduceSub, Nat.reduceLeDiff, indexAddrA, indexRefA, appendA, strA, Nat.reduceMul, Nat.zero_mul, Nat.reduceMod, Int.reduceEq, Int.reduceLT, Int.reduceLE, Nat.reduceLT, Nat.lt_irrefl, Nat.reduceBEq, tys0, tys1, tys2, tys3, tys4, tys5, tys6, tys7, tys8, tys9, tys10, tys11, tys12, tys13, tys14, tys15, tys16, tys17, tys18, tys19, tys20, tys21, tys22, tys23, Try.ntmps48, Try.results48]
  exact Fin.eq rfl (by simp only [pureB, pureL, p1, p2, Bool.and_self])
def zP : AV := .agg [nilV, nilV]
theorem zP_noOwn (es : List GP) (n : Nat) : noOwn (es.map posE ++ List.replicate n zP) = true := by
  refine List.all_eq_true.2 fun e he => ?_
  rcases List.mem_append.1 he with he | he
  · exact List.all_eq_true.1 (posL_noOwn es) e he
  · rw [(List.mem_replicate.1 he).2]; rfl
theorem zP_c : zP.cells = [.lit (.slice none 0 0), .lit (.slice none 0 0)] := rfl
theorem zP_a : aggB zP = true := rfl
theorem zP_s (a b : AV) : setE zP 0 2 (.agg [a, b]) = .agg [a, b] := rfl
abbrev posZ (d : List GP) (n : Nat) : List AV := d.map posE ++ List.replicate n zP
theorem Vw_poss {L : List AObj} {id g n : Nat} {T : TypeId} {es : List AV} {l : List GP} {o : Bool} (hL : L[id]? = some (.vec T 2 g es)) (he : es = l.map posE) (hn : n = l.length) : Vw L (.ref id [] g n) (.sl o (l.map posE)) := by
  subst he hn
  have := Vw.refPur (L := L) (id := id) (g := g) (n := l.length) (o := o) hL (by simp) (fun e he c hc => by
    obtain ⟨e', _, rfl⟩ := List.mem_map.1 he
    simp only [posE, AV.cells, List.mem_cons, List.not_mem_nil, or_false] at hc
    rcases hc with rfl | rfl <;> exact ⟨.of (by simp only [pureB, ints_pure]), fun xs h => by cases h⟩)
  rwa [List.take_of_length_le (by simp)] at this
theorem toPositionS_ok (g : List GP) (hl : g.length ≤ 1048576) (hs : ∀ p ∈ g, smallP p) : Ct Try.prog 15 [.sl false (g.map posE)] [] (.sl false (g.map posE)) [] := by
  have b0 : (g.length : Int) ≤ 137438953472 := by omega
  have b1 : (g.length : Int) ≤ 17592186044416 := by omega
  have b2 : (g.length : Int) ≤ 8796093022208 := by omega
  have b3 : (g.length : Int) ≤ 2932031007402 := by omega
  refine Ct.by_ hmix [] Try.func15 rfl ?_
  simp only [run0, run1, run2, run3, run4, run5, run6, run7, run8, run9, run10, run11, run12, run13, run14, run15, run16, run17, run18, run19, run20, run21, run22, reduceCtorEq, Nat.reduceEqDiff, Nat.reduceAdd, Nat.reduceSub, Nat.reduceLeDiff, indexAddrA, indexRefA, appendA, strA, Nat.reduceMul, Nat.zero_mul, Nat.reduceMod, Int.reduceEq, Int.reduceLT, Int.reduceLE, Nat.reduceLT, Nat.lt_irrefl, Nat.reduceBEq, tys0, tys1, tys2, tys3, tys4, tys5, tys6, tys7, tys8, tys9, tys10, tys11, tys12, tys13, tys14, tys15, tys16, tys17, tys18, tys19, tys20, tys21, tys22, tys23, Try.ntmps15, Try.results15, b0, b1, b2, b3, List.length_map, Int.natCast_nonneg, Int.le_refl, Int.toNat_natCast]
  refine AWp.loop_inv (ι := List GP × List GP) (fun p => ⟨[.sl false (g.map posE), .junk, .junk, .ref 0 [] 0 g.length, .int .i64 p.1.length, .junk, .junk, .junk, .junk, .junk, .junk, .junk, .junk, .junk, .junk, .junk, .junk, .junk, .junk, .junk, .junk, .junk, .junk], [.vec 70 2 0 (posZ p.1 p.2.length)]⟩)
    (fun p => g = p.1 ++ p.2) (fun p => p.2.length) ([], g) rfl ⟨by simp only [List.length_nil, Int.natCast_zero]; repeat constructor, rfl⟩ ?_
  rintro ⟨d, r⟩ ha
  refine W.sound hmix (E := []) ?_
  simp only at ha
  cases r with
  | nil =>
    have e1 := pos_end ha
    simp only [run0, run1, run2, run3, run4, run5, run6, run7, run8, run9, run10, run11, run12, run13, run14, run15, run16, run17, run18, run19, run20, run21, run22, reduceCtorEq, Nat.reduceEqDiff, Nat.reduceAdd, Nat.reduceSub, Nat.reduceLeDiff, indexAddrA, indexRefA, appendA, strA, Nat.reduceMul, Nat.zero_mul, Nat.reduceMod, Int.reduceEq, Int.reduceLT, Int.reduceLE, Nat.reduceLT, Nat.lt_irrefl, Nat.reduceBEq, tys0, tys1, tys2, tys3, tys4, tys5, tys6, tys7, tys8, tys9, tys10, tys11, tys12, tys13, tys14, tys15, tys16, tys17, tys18, tys19, tys20, tys21, tys22, tys23, Try.ntmps15, Try.results15, e1, List.length_map]
    have hd : d = g := by rw [ha, List.append_nil]
    subst hd
    exact Fin.value (Vw_poss rfl (by simp) rfl)
  | cons e r =>
    obtain ⟨e1, e2, e5⟩ := pos_split ha hl
    have e6 : (posZ d (r.length + 1))[d.length]? = some zP := by simp [posZ, List.replicate_succ]
    have e7 : noOwn (posZ d (r.length + 1)) = true := zP_noOwn d (r.length + 1)
    have e8 : (posZ d (r.length + 1)).set d.length (.agg [.sl false (ints e.1), .sl false (ints e.2)]) = posZ (d ++ [e]) r.length := by
      unfold posZ
      rw [List.set_append_right _ _ (by simp)]; simp [List.replicate_succ, posE]
    have hc := toPosition_ok e (hs e (by rw [ha]; simp))
    have p1 := ints_pure e.1
    have p2 := ints_pure e.2
    simp only [run0, run1, run2, run3, run4, run5, run6, run7, run8, run9, run10, run11, run12, run13, run14, run15, run16, run17, run18, run19, run20, run21, run22, reduceCtorEq, Nat.reduceEqDiff, Nat.reduceAdd, Nat.reduceSub, Nat.reduceLeDiff, indexAddrA, indexRefA, appendA, strA, Nat.reduceMul, Nat.zero_mul, Nat.reduceMod, Int.reduceEq, Int.reduceLT, Int.reduceLE, Nat.reduceLT, Nat.lt_irrefl, Nat.reduceBEq, tys0, tys1, tys2, tys3, tys4, tys5, tys6, tys7, tys8, tys9, tys10, tys11, tys12, tys13, tys14, tys15, tys16, tys17, tys18, tys19, tys20, tys21, tys22, tys23, Try.ntmps15, Try.results15, List.length_map, e1, e2, Int.toNat_natCast, Int.natCast_nonneg]
    refine RunL.callp rfl rfl ok_f48 hc (by simp only [pureL, pureB, p1, p2, Bool.and_self]) rfl ?_
    simp only [run0, run1, run2, run3, run4, run5, run6, run7, run8, run9, run10, run11, run12, run13, run14, run15, run16, run17, run18, run19, run20, run21, run22, reduceCtorEq, Nat.reduceEqDiff, Nat.reduceAdd, Nat.reduceSub, Nat.reduceLeDiff, indexAddrA, indexRefA, appendA, strA, Nat.reduceMul, Nat.zero_mul, Nat.reduceMod, Int.reduceEq, Int.reduceLT, Int.reduceLE, Nat.reduceLT, Nat.lt_irrefl, Nat.reduceBEq, tys0, tys1, tys2, tys3, tys4, tys5, tys6, tys7, tys8, tys9, tys10, tys11, tys12, tys13, tys14, tys15, tys16, tys17, tys18, tys19, tys20, tys21, tys22, tys23, Try.ntmps15, Try.results15, List.length_map, e1, e5, e6, e7, e8, zP_c, zP_a, zP_s, Int.toNat_natCast, Int.natCast_nonneg]
    exact ⟨(d ++ [e], r), by simp [ha], by simp, by simp only [List.length_append, List.length_cons, List.length_nil]; repeat constructor, rfl⟩
theorem eqPosition_ok (p : GP) (h : smallP p) : Ct Try.prog 52 [.agg [.sl false (ints p.1), .sl false (ints p.2)], .agg [.sl false (ints p.1), .sl false (ints p.2)]] [] (.bool true) [] := by
  have p1 := ints_pure p.1
  have p2 := ints_pure p.2
  refine Ct.by_ hmix [] Try.func52 rfl ?_
  simp only [run0, run1, run2, run3, run4, run5, run6, run7, run8, run9, run10, run11, run12, run13, run14, run15, run16, run17, run18, run19, run20, run21, run22, reduceCtorEq, Nat.reduceEqDiff, Nat.reduceAdd, Nat.reduceSub, Nat.reduceLeDiff, indexAddrA, indexRefA, appendA, strA, Nat.reduceMul, Nat.zero_mul, Nat.reduceMod, Int.reduceEq, Int.reduceLT, Int.reduceLE, Nat.reduceLT, Nat.lt_irrefl, Nat.reduceBEq, tys0, tys1, tys2, tys3, tys4, tys5, tys6, tys7, tys8, tys9, tys10, tys11, tys12, tys13, tys14, tys15, tys16, tys17, tys18, tys19, tys20, tys21, tys22, tys23, Try.ntmps52, Try.results52]
  refine RunL.callp rfl rfl ok_f97 (eqIntS_ok p.1 h.1) (by simp only [pureL, pureB, p1, Bool.and_self]) rfl ?_
  simp only [run0, run1, run2, run3, run4, run5, run6, run7, run8, run9, run10, run11, run12, run13, run14, run15, run16, run17, run18, run19, run20, run21, run22, reduceCtorEq, Nat.reduceEqDiff, Nat.reduceAdd, Nat.reduceSub, Nat.reduceLeDiff, indexAddrA, indexRefA, appendA, strA, Nat.reduceMul, Nat.zero_mul, Nat.reduceMod, Int.reduceEq, Int.reduceLT, Int.reduceLE, Nat.reduceLT, Nat.lt_irrefl, Nat.reduceBEq, tys0, tys1, tys2, tys3, tys4, tys5, tys6, tys7, tys8, tys9, tys10, tys11, tys12, tys13, tys14, tys15, tys16, tys17, tys18, tys19, tys20, tys21, tys22, tys23, Try.ntmps52, Try.results52]
  refine RunL.callp rfl rfl ok_f97 (eqIntS_ok p.2 h.2) (by simp only [pureL, pureB, p2, Bool.and_self]) rfl ?_
  simp only [run0, run1, run2, run3, run4, run5, run6, run7, run8, run9, run10, run11, run12, run13, run14, run15, run16, run17, run18, run19, run20, run21, run22, reduceCtorEq, Nat.reduceEqDiff, Nat.reduceAdd, Nat.reduceSub, Nat.reduceLeDiff, indexAddrA, indexRefA, appendA, strA, Nat.reduceMul, Nat.zero_mul, Nat.reduceMod, Int.reduceEq, Int.reduceLT, Int.reduceLE, Nat.reduceLT, Nat.lt_irrefl, Nat.reduceBEq, tys0, tys1, tys2, tys3, tys4, tys5, tys6, tys7, tys8, tys9, tys10, tys11, tys12, tys13, tys14, tys15, tys16, tys17, tys18, tys19, tys20, tys21, tys22, tys23, Try.ntmps52, Try.results52]
  exact Fin.eq rfl rfl
theorem eqPositionS_ok (g : List GP) (hl : g.length ≤ 1048576) (hs : ∀ p ∈ g, smallP p) : Ct Try.prog 17 [.sl false (g.map posE), .sl false (g.map posE)] [] (.bool true) [] := by
  refine Ct.by_ hmix [] Try.func17 rfl ?_
  simp only [run0, run1, run2, run3, run4, run5, run6, run7, run8, run9, run10, run11, run12, run13, run14, run15, run16, run17, run18, run19, run20, run21, run22, reduceCtorEq, Nat.reduceEqDiff, Nat.reduceAdd, Nat.reduceSub, Nat.reduceLeDiff, indexAddrA, indexRefA, appendA, strA, Nat.reduceMul, Nat.zero_mul, Nat.reduceMod, Int.reduceEq, Int.reduceLT, Int.reduceLE, Nat.reduceLT, Nat.lt_irrefl, Nat.reduceBEq, tys0, tys1, tys2, tys3, tys4, tys5, tys6, tys7, tys8, tys9, tys10, tys11, tys12, tys13, tys14, tys15, tys16, tys17, tys18, tys19, tys20, tys21, tys22, tys23, Try.ntmps17, Try.results17, bne_self_eq_false, List.length_map]
  refine AWp.loop_inv (ι := List GP × List GP) (fun p => ⟨[.sl false (g.map posE), .sl false (g.map posE), .junk, .junk, .bool false, .int .i64 p.1.length, .junk, .junk, .junk, .junk, .junk, .junk, .junk, .junk, .junk, .junk, .junk, .junk, .junk, .junk, .junk, .junk, .junk, .junk, .junk, .junk, .junk], []⟩)
    (fun p => g = p.1 ++ p.2) (fun p => p.2.length) ([], g) rfl ⟨by simp only [List.length_nil, Int.natCast_zero]; repeat constructor, rfl⟩ ?_
  rintro ⟨d, r⟩ ha
  refine W.sound hmix (E := []) ?_
  simp only at ha
  cases r with
  | nil =>
    have e1 := pos_end ha
    simp only [run0, run1, run2, run3, run4, run5, run6, run7, run8, run9, run10, run11, run12, run13, run14, run15, run16, run17, run18, run19, run20, run21, run22, reduceCtorEq, Nat.reduceEqDiff, Nat.reduceAdd, Nat.reduceSub, Nat.reduceLeDiff, indexAddrA, indexRefA, appendA, strA, Nat.reduceMul, Nat.zero_mul, Nat.reduceMod, Int.reduceEq, Int.reduceLT, Int.reduceLE, Nat.reduceLT, Nat.lt_irrefl, Nat.reduceBEq, tys0, tys1, tys2, tys3, tys4, tys5, tys6, tys7, tys8, tys9, tys10, tys11, tys12, tys13, tys14, tys15, tys16, tys17, tys18, tys19, tys20, tys21, tys22, tys23, Try.ntmps17, Try.results17, e1, List.length_map]
    exact Fin.eq rfl rfl
  | cons e r =>
    obtain ⟨e1, e2, e5⟩ := pos_split ha hl
    have p1 := ints_pure e.1
    have p2 := ints_pure e.2
    simp only [run0, run1, run2, run3, run4, run5, run6, run7, run8, run9, run10, run11, run12, run13, run14, run15, run16, run17, run18, run19, run20, run21, run22, reduceCtorEq, Nat.reduceEqDiff, Nat.reduceAdd, Nat.reduceSub, Nat.reduceLeDiff, indexAddrA, indexRefA, appendA, strA, Nat.reduceMul, Nat.zero_mul, Nat.reduceMod, Int.reduceEq, Int.reduceLT, Int.reduceLE, Nat.reduceLT, Nat.lt_irrefl, Nat.reduceBEq, tys0, tys1, tys2, tys3, tys4, tys5, tys6, tys7, tys8, tys9, tys10, tys11, tys12, tys13, tys14, tys15, tys16, tys17, tys18, tys19, tys20, tys21, tys22, tys23, Try.ntmps17, Try.results17, List.length_map, e1, e2, Int.toNat_natCast, Int.natCast_nonneg]
    refine ⟨by kernel_rfl, ?_⟩
    refine RunL.callp rfl rfl ok_f52 (eqPosition_ok e (hs e (by rw [ha]; simp))) (by simp only [pureL, pureB, p1, p2, Bool.and_self]) rfl ?_
    simp only [run0, run1, run2, run3, run4, run5, run6, run7, run8, run9, run10, run11, run12, run13, run14, run15, run16, run17, run18, run19, run20, run21, run22, reduceCtorEq, Nat.reduceEqDiff, Nat.reduceAdd, Nat.reduceSub, Nat.reduceLeDiff, indexAddrA, indexRefA, appendA, strA, Nat.reduceMul, Nat.zero_mul, Nat.reduceMod, Int.reduceEq, Int.reduceLT, Int.reduceLE, Nat.reduceLT, Nat.lt_irrefl, Nat.reduceBEq, tys0, tys1, tys2, tys3, tys4, tys5, tys6, tys7, tys8, tys9, tys10, tys11, tys12, tys13, tys14, tys15, tys16, tys17, tys18, tys19, tys20, tys21, tys22, tys23, Try.ntmps17, Try.results17, e5]
    exact ⟨(d ++ [e], r), by simp [ha], by simp, by simp only [List.length_append, List.length_cons, List.length_nil]; repeat constructor⟩

/-! ### which are games -/
def ris (n : Int) : Option Int → List Int → Bool
  | _, [] => true
  | p, k :: r => inB k 0 n && (match p with | none => true | some q => decide (q < k)) && ris n (some k) r
def gmI : Nat → List GP → Bool
  | _, [] => true
  | i, p :: r => ris ((i : Int) - 1) none p.1 && ris ((i : Int) - 1) none p.2 && gmI (i + 1) r
def gameB (g : List GP) : Bool := gmI 0 g && inB g.length 1 40
theorem ris_cons (n : Int) (p : Option Int) (k : Int) (r : List Int) : ris n p (k :: r) = (inB k 0 n && (match p with | none => true | some q => decide (q < k)) && ris n (some k) r) := rfl
theorem rising_ok (l : List Int) (n : Nat) (hl : l.length ≤ 1048576) (hn : n ≤ 1048576) : Ct Try.prog 93 [.sl false (ints l), .int .i64 n] [] (.bool (ris ((n : Int) - 1) none l)) [] := by
  have hw : IntKind.i64.wrap ((n : Int) - 1) = (n : Int) - 1 := i64_id (by omega) (by omega)
  refine Ct.by_ hmix [] Try.func93 rfl ?_
  simp only [run0, run1, run2, run3, run4, run5, run6, run7, run8, run9, run10, run11, run12, run13, run14, run15, run16, run17, run18, run19, run20, run21, run22, reduceCtorEq, Nat.reduceEqDiff, Nat.reduceAdd, Nat.reduceSub, Nat.reduceLeDiff, indexAddrA, indexRefA, appendA, strA, Nat.reduceMul, Nat.zero_mul, Nat.reduceMod, Int.reduceEq, Int.reduceLT, Int.reduceLE, Nat.reduceLT, Nat.lt_irrefl, Nat.reduceBEq, tys0, tys1, tys2, tys3, tys4, tys5, tys6, tys7, tys8, tys9, tys10, tys11, tys12, tys13, tys14, tys15, tys16, tys17, tys18, tys19, tys20, tys21, tys22, tys23, Try.ntmps93, Try.results93, List.length_map]
  refine AWp.loop_inv (ι := List Int × List Int) (fun p => ⟨[.sl false (ints l), .int .i64 n, .junk, .junk, .bool false, .junk, .junk, .sl false (ints l), .int .i64 l.length, .int .i64 p.1.length, .junk, .junk, .junk, .junk, .junk, .junk, .junk, .junk, .junk, .junk, .junk, .junk, .junk, .junk, .junk, .junk, .junk, .junk, .junk, .junk, .junk, .junk, .junk], []⟩)
    (fun p => l = p.1 ++ p.2 ∧ ris ((n : Int) - 1) p.1.getLast? p.2 = ris ((n : Int) - 1) none l) (fun p => p.2.length) ([], l) ⟨rfl, rfl⟩ ⟨by simp only [List.length_nil, Int.natCast_zero]; repeat constructor, rfl⟩ ?_
  rintro ⟨d, r⟩ ⟨ha, h2⟩
  refine W.sound hmix (E := []) ?_
  simp only at ha h2
  cases r with
  | nil =>
    have e1 := int_end ha
    simp only [run0, run1, run2, run3, run4, run5, run6, run7, run8, run9, run10, run11, run12, run13, run14, run15, run16, run17, run18, run19, run20, run21, run22, reduceCtorEq, Nat.reduceEqDiff, Nat.reduceAdd, Nat.reduceSub, Nat.reduceLeDiff, indexAddrA, indexRefA, appendA, strA, Nat.reduceMul, Nat.zero_mul, Nat.reduceMod, Int.reduceEq, Int.reduceLT, Int.reduceLE, Nat.reduceLT, Nat.lt_irrefl, Nat.reduceBEq, tys0, tys1, tys2, tys3, tys4, tys5, tys6, tys7, tys8, tys9, tys10, tys11, tys12, tys13, tys14, tys15, tys16, tys17, tys18, tys19, tys20, tys21, tys22, tys23, Try.ntmps93, Try.results93, e1, List.length_map]
    exact Fin.eq (by rw [← h2]; rfl) rfl
  | cons k r =>
    obtain ⟨e1, e2, e5⟩ := int_split ha hl
    rw [ris_cons] at h2
    simp only [run0, run1, run2, run3, run4, run5, run6, run7, run8, run9, run10, run11, run12, run13, run14, run15, run16, run17, run18, run19, run20, run21, run22, reduceCtorEq, Nat.reduceEqDiff, Nat.reduceAdd, Nat.reduceSub, Nat.reduceLeDiff, indexAddrA, indexRefA, appendA, strA, Nat.reduceMul, Nat.zero_mul, Nat.reduceMod, Int.reduceEq, Int.reduceLT, Int.reduceLE, Nat.reduceLT, Nat.lt_irrefl, Nat.reduceBEq, tys0, tys1, tys2, tys3, tys4, tys5, tys6, tys7, tys8, tys9, tys10, tys11, tys12, tys13, tys14, tys15, tys16, tys17, tys18, tys19, tys20, tys21, tys22, tys23, Try.ntmps93, Try.results93, List.length_map, hw, e1, e2, Int.toNat_natCast, Int.natCast_nonneg]
    refine RunL.callp rfl rfl ok_f94 (in_ok k 0 ((n : Int) - 1)) (by first | rfl | simp only [pureL, pureB, Bool.and_self, Bool.and_true, Bool.true_and]) rfl ?_
    cases hb : inB k 0 ((n : Int) - 1)
    · simp only [run0, run1, run2, run3, run4, run5, run6, run7, run8, run9, run10, run11, run12, run13, run14, run15, run16, run17, run18, run19, run20, run21, run22, reduceCtorEq, Nat.reduceEqDiff, Nat.reduceAdd, Nat.reduceSub, Nat.reduceLeDiff, indexAddrA, indexRefA, appendA, strA, Nat.reduceMul, Nat.zero_mul, Nat.reduceMod, Int.reduceEq, Int.reduceLT, Int.reduceLE, Nat.reduceLT, Nat.lt_irrefl, Nat.reduceBEq, tys0, tys1, tys2, tys3, tys4, tys5, tys6, tys7, tys8, tys9, tys10, tys11, tys12, tys13, tys14, tys15, tys16, tys17, tys18, tys19, tys20, tys21, tys22, tys23, Try.ntmps93, Try.results93]
      exact Fin.eq (by rw [← h2, hb]; rfl) rfl
    rcases List.eq_nil_or_concat d with rfl | ⟨d', q, rfl⟩
    · simp only [run0, run1, run2, run3, run4, run5, run6, run7, run8, run9, run10, run11, run12, run13, run14, run15, run16, run17, run18, run19, run20, run21, run22, reduceCtorEq, Nat.reduceEqDiff, Nat.reduceAdd, Nat.reduceSub, Nat.reduceLeDiff, indexAddrA, indexRefA, appendA, strA, Nat.reduceMul, Nat.zero_mul, Nat.reduceMod, Int.reduceEq, Int.reduceLT, Int.reduceLE, Nat.reduceLT, Nat.lt_irrefl, Nat.reduceBEq, tys0, tys1, tys2, tys3, tys4, tys5, tys6, tys7, tys8, tys9, tys10, tys11, tys12, tys13, tys14, tys15, tys16, tys17, tys18, tys19, tys20, tys21, tys22, tys23, Try.ntmps93, Try.results93, List.length_nil, Int.natCast_zero, Int.lt_irrefl, e5]
      exact ⟨([k], r), ⟨ha, by rw [← h2, hb]; rfl⟩, by simp, by simp only [List.length_append, List.length_cons, List.length_nil]; repeat constructor⟩
    · have hda : l.length = d'.length + 1 + (r.length + 1) := by rw [ha]; simp; try omega
      have k0 : (0 : Int) < ((d'.concat q).length : Int) := by simp; try omega
      have k1 : IntKind.i64.wrap (((d'.concat q).length : Int) - 1) = (d'.length : Int) := by rw [i64_id (by simp; try omega) (by simp; try omega)]; simp
      have k2 : (ints l)[d'.length]? = some (.int .i64 q) := by rw [ha]; simp
      have k3 : (d'.length : Int) < (l.length : Int) := by omega
      rw [hb] at h2
      simp only [List.concat_eq_append, List.getLast?_concat, Bool.true_and] at h2
      by_cases hq : k ≤ q
      · simp only [run0, run1, run2, run3, run4, run5, run6, run7, run8, run9, run10, run11, run12, run13, run14, run15, run16, run17, run18, run19, run20, run21, run22, reduceCtorEq, Nat.reduceEqDiff, Nat.reduceAdd, Nat.reduceSub, Nat.reduceLeDiff, indexAddrA, indexRefA, appendA, strA, Nat.reduceMul, Nat.zero_mul, Nat.reduceMod, Int.reduceEq, Int.reduceLT, Int.reduceLE, Nat.reduceLT, Nat.lt_irrefl, Nat.reduceBEq, tys0, tys1, tys2, tys3, tys4, tys5, tys6, tys7, tys8, tys9, tys10, tys11, tys12, tys13, tys14, tys15, tys16, tys17, tys18, tys19, tys20, tys21, tys22, tys23, Try.ntmps93, Try.results93, List.length_map, k0, k1, k2, k3, hq, Int.toNat_natCast, Int.natCast_nonneg]
        exact Fin.eq (by rw [← h2, show decide (q < k) = false by simp; omega]; rfl) rfl
      · simp only [run0, run1, run2, run3, run4, run5, run6, run7, run8, run9, run10, run11, run12, run13, run14, run15, run16, run17, run18, run19, run20, run21, run22, reduceCtorEq, Nat.reduceEqDiff, Nat.reduceAdd, Nat.reduceSub, Nat.reduceLeDiff, indexAddrA, indexRefA, appendA, strA, Nat.reduceMul, Nat.zero_mul, Nat.reduceMod, Int.reduceEq, Int.reduceLT, Int.reduceLE, Nat.reduceLT, Nat.lt_irrefl, Nat.reduceBEq, tys0, tys1, tys2, tys3, tys4, tys5, tys6, tys7, tys8, tys9, tys10, tys11, tys12, tys13, tys14, tys15, tys16, tys17, tys18, tys19, tys20, tys21, tys22, tys23, Try.ntmps93, Try.results93, List.length_map, k0, k1, k2, k3, hq, e5, Int.toNat_natCast, Int.natCast_nonneg]
        rw [show decide (q < k) = true by simp; omega, Bool.true_and] at h2
        exact ⟨(d'.concat q ++ [k], r), ⟨by simp [ha], by simp only [List.getLast?_concat]; exact h2⟩, by simp, by simp only [List.length_append, List.length_cons, List.length_nil]; repeat constructor⟩
theorem l1Rising_ok (l : List Int) (n : Int) (hl : l.length ≤ 1048576) : Ct Try.prog 90 [.sl false (ints l), .int .i64 0, .int .i64 n] [] (.bool (ris n none l)) [] := by
  refine Ct.by_ hmix [] Try.func90 rfl ?_
  simp only [run0, run1, run2, run3, run4, run5, run6, run7, run8, run9, run10, run11, run12, run13, run14, run15, run16, run17, run18, run19, run20, run21, run22, reduceCtorEq, Nat.reduceEqDiff, Nat.reduceAdd, Nat.reduceSub, Nat.reduceLeDiff, indexAddrA, indexRefA, appendA, strA, Nat.reduceMul, Nat.zero_mul, Nat.reduceMod, Int.reduceEq, Int.reduceLT, Int.reduceLE, Nat.reduceLT, Nat.lt_irrefl, Nat.reduceBEq, tys0, tys1, tys2, tys3, tys4, tys5, tys6, tys7, tys8, tys9, tys10, tys11, tys12, tys13, tys14, tys15, tys16, tys17, tys18, tys19, tys20, tys21, tys22, tys23, Try.ntmps90, Try.results90, List.length_map]
  refine AWp.loop_inv (ι := List Int × List Int) (fun p => ⟨[.sl false (ints l), .int .i64 0, .int .i64 n, .junk, .junk, .junk, .bool false, .junk, .junk, .sl false (ints l), .int .i64 l.length, .int .i64 p.1.length, .junk, .junk, .junk, .junk, .junk, .junk, .junk, .junk, .junk, .junk, .junk, .junk, .junk, .junk, .junk, .junk, .junk, .junk, .junk, .junk, .junk, .junk, .junk], []⟩)
    (fun p => l = p.1 ++ p.2 ∧ ris n p.1.getLast? p.2 = ris n none l) (fun p => p.2.length) ([], l) ⟨rfl, rfl⟩ ⟨by simp only [List.length_nil, Int.natCast_zero]; repeat constructor, rfl⟩ ?_
  rintro ⟨d, r⟩ ⟨ha, h2⟩
  refine W.sound hmix (E := []) ?_
  simp only at ha h2
  cases r with
  | nil =>
    have e1 := int_end ha
    simp only [run0, run1, run2, run3, run4, run5, run6, run7, run8, run9, run10, run11, run12, run13, run14, run15, run16, run17, run18, run19, run20, run21, run22, reduceCtorEq, Nat.reduceEqDiff, Nat.reduceAdd, Nat.reduceSub, Nat.reduceLeDiff, indexAddrA, indexRefA, appendA, strA, Nat.reduceMul, Nat.zero_mul, Nat.reduceMod, Int.reduceEq, Int.reduceLT, Int.reduceLE, Nat.reduceLT, Nat.lt_irrefl, Nat.reduceBEq, tys0, tys1, tys2, tys3, tys4, tys5, tys6, tys7, tys8, tys9, tys10, tys11, tys12, tys13, tys14, tys15, tys16, tys17, tys18, tys19, tys20, tys21, tys22, tys23, Try.ntmps90, Try.results90, e1, List.length_map]
    exact Fin.eq (by rw [← h2]; rfl) rfl
  | cons k r =>
    obtain ⟨e1, e2, e5⟩ := int_split ha hl
    rw [ris_cons] at h2
    simp only [run0, run1, run2, run3, run4, run5, run6, run7, run8, run9, run10, run11, run12, run13, run14, run15, run16, run17, run18, run19, run20, run21, run22, reduceCtorEq, Nat.reduceEqDiff, Nat.reduceAdd, Nat.reduceSub, Nat.reduceLeDiff, indexAddrA, indexRefA, appendA, strA, Nat.reduceMul, Nat.zero_mul, Nat.reduceMod, Int.reduceEq, Int.reduceLT, Int.reduceLE, Nat.reduceLT, Nat.lt_irrefl, Nat.reduceBEq, tys0, tys1, tys2, tys3, tys4, tys5, tys6, tys7, tys8, tys9, tys10, tys11, tys12, tys13, tys14, tys15, tys16, tys17, tys18, tys19, tys20, tys21, tys22, tys23, Try.ntmps90, Try.results90, List.length_map, e1, e2, Int.toNat_natCast, Int.natCast_nonneg]
    refine RunL.callp rfl rfl ok_f64 (l1In_ok k 0 n) (by first | rfl | simp only [pureL, pureB, Bool.and_self, Bool.and_true, Bool.true_and]) rfl ?_
    cases hb : inB k 0 n
    · simp only [run0, run1, run2, run3, run4, run5, run6, run7, run8, run9, run10, run11, run12, run13, run14, run15, run16, run17, run18, run19, run20, run21, run22, reduceCtorEq, Nat.reduceEqDiff, Nat.reduceAdd, Nat.reduceSub, Nat.reduceLeDiff, indexAddrA, indexRefA, appendA, strA, Nat.reduceMul, Nat.zero_mul, Nat.reduceMod, Int.reduceEq, Int.reduceLT, Int.reduceLE, Nat.reduceLT, Nat.lt_irrefl, Nat.reduceBEq, tys0, tys1, tys2, tys3, tys4, tys5, tys6, tys7, tys8, tys9, tys10, tys11, tys12, tys13, tys14, tys15, tys16, tys17, tys18, tys19, tys20, tys21, tys22, tys23, Try.ntmps90, Try.results90]
      exact Fin.eq (by rw [← h2, hb]; rfl) rfl
    rcases List.eq_nil_or_concat d with rfl | ⟨d', q, rfl⟩
    · simp only [run0, run1, run2, run3, run4, run5, run6, run7, run8, run9, run10, run11, run12, run13, run14, run15, run16, run17, run18, run19, run20, run21, run22, reduceCtorEq, Nat.reduceEqDiff, Nat.reduceAdd, Nat.reduceSub, Nat.reduceLeDiff, indexAddrA, indexRefA, appendA, strA, Nat.reduceMul, Nat.zero_mul, Nat.reduceMod, Int.reduceEq, Int.reduceLT, Int.reduceLE, Nat.reduceLT, Nat.lt_irrefl, Nat.reduceBEq, tys0, tys1, tys2, tys3, tys4, tys5, tys6, tys7, tys8, tys9, tys10, tys11, tys12, tys13, tys14, tys15, tys16, tys17, tys18, tys19, tys20, tys21, tys22, tys23, Try.ntmps90, Try.results90, List.length_nil, Int.natCast_zero, Int.lt_irrefl, e5]
      exact ⟨([k], r), ⟨ha, by rw [← h2, hb]; rfl⟩, by simp, by simp only [List.length_append, List.length_cons, List.length_nil]; repeat constructor⟩
    · have hda : l.length = d'.length + 1 + (r.length + 1) := by rw [ha]; simp; try omega
      have k0 : (0 : Int) < ((d'.concat q).length : Int) := by simp; try omega
      have k1 : IntKind.i64.wrap (((d'.concat q).length : Int) - 1) = (d'.length : Int) := by rw [i64_id (by simp; try omega) (by simp; try omega)]; simp
      have k2 : (ints l)[d'.length]? = some (.int .i64 q) := by rw [ha]; simp
      have k3 : (d'.length : Int) < (l.length : Int) := by omega
      rw [hb] at h2
      simp only [List.concat_eq_append, List.getLast?_concat, Bool.true_and] at h2
      by_cases hq : k ≤ q
      · simp only [run0, run1, run2, run3, run4, run5, run6, run7, run8, run9, run10, run11, run12, run13, run14, run15, run16, run17, run18, run19, run20, run21, run22, reduceCtorEq, Nat.reduceEqDiff, Nat.reduceAdd, Nat.reduceSub, Nat.reduceLeDiff, indexAddrA, indexRefA, appendA, strA, Nat.reduceMul, Nat.zero_mul, Nat.reduceMod, Int.reduceEq, Int.reduceLT, Int.reduceLE, Nat.reduceLT, Nat.lt_irrefl, Nat.reduceBEq, tys0, tys1, tys2, tys3, tys4, tys5, tys6, tys7, tys8, tys9, tys10, tys11, tys12, tys13, tys14, tys15, tys16, tys17, tys18, tys19, tys20, tys21, tys22, tys23, Try.ntmps90, Try.results90, List.length_map, k0, k1, k2, k3, hq, Int.toNat_natCast, Int.natCast_nonneg]
        exact Fin.eq (by rw [← h2, show decide (q < k) = false by simp; omega]; rfl) rfl
      · simp only [run0, run1, run2, run3, run4, run5, run6, run7, run8, run9, run10, run11, run12, run13, run14, run15, run16, run17, run18, run19, run20, run21, run22, reduceCtorEq, Nat.reduceEqDiff, Nat.reduceAdd, Nat.reduceSub, Nat.reduceLeDiff, indexAddrA, indexRefA, appendA, strA, Nat.reduceMul, Nat.zero_mul, Nat.reduceMod, Int.reduceEq, Int.reduceLT, Int.reduceLE, Nat.reduceLT, Nat.lt_irrefl, Nat.reduceBEq, tys0, tys1, tys2, tys3, tys4, tys5, tys6, tys7, tys8, tys9, tys10, tys11, tys12, tys13, tys14, tys15, tys16, tys17, tys18, tys19, tys20, tys21, tys22, tys23, Try.ntmps90, Try.results90, List.length_map, k0, k1, k2, k3, hq, e5, Int.toNat_natCast, Int.natCast_nonneg]
        rw [show decide (q < k) = true by simp; omega, Bool.true_and] at h2
        exact ⟨(d'.concat q ++ [k], r), ⟨by simp [ha], by simp only [List.getLast?_concat]; exact h2⟩, by simp, by simp only [List.length_append, List.length_cons, List.length_nil]; repeat constructor⟩

structure GmS where
  d : List GP
  r : List GP
  X : List AObj
end Go.Proofs.Ytllcljajlemmaaa
/-
  Games: which are right, by both; the order of positions, plain; the program's memory of it.
-/
namespace Go.Proofs.Ytllcljajlemmaaa
open Go K
set_option linter.unusedSimpArgs false
set_option linter.unusedVariables false
set_option maxHeartbeats 1600000
set_option maxRecDepth 8000

theorem isGame_ok (g : List GP) (hl : g.length ≤ 1048576) (hs : ∀ p ∈ g, smallP p) : Ct Try.prog 49 [.sl false (g.map posE)] [] (.bool (gameB g)) [] := by
  refine Ct.by_ hmix [] Try.func49 rfl ?_
  simp only [run0, run1, run2, run3, run4, run5, run6, run7, run8, run9, run10, run11, run12, run13, run14, run15, run16, run17, run18, run19, run20, run21, run22, reduceCtorEq, Nat.reduceEqDiff, Nat.reduceAdd, Nat.reduceSub, Nat.reduceLeDiff, indexAddrA, indexRefA, appendA, strA, Nat.reduceMul, Nat.zero_mul, Nat.reduceMod, Int.reduceEq, Int.reduceLT, Int.reduceLE, Nat.reduceLT, Nat.lt_irrefl, Nat.reduceBEq, tys0, tys1, tys2, tys3, tys4, tys5, tys6, tys7, tys8, tys9, tys10, tys11, tys12, tys13, tys14, tys15, tys16, tys17, tys18, tys19, tys20, tys21, tys22, tys23, Try.ntmps49, Try.results49, List.length_map]
  refine AWp.loop_inv (ι := GmS) (fun q => ⟨[.sl false (g.map posE), .junk, .bool false, .junk, .junk, .sl false (g.map posE), .int .i64 g.length, .int .i64 q.d.length, .junk, .junk, .junk, .junk, .junk, .junk, .junk, .junk, .junk, .junk, .junk, .junk, .junk, .junk, .junk, .junk, .junk, .junk, .junk, .junk], q.X⟩)
    (fun q => g = q.d ++ q.r ∧ gmI q.d.length q.r = gmI 0 g) (fun q => q.r.length) ⟨[], g, []⟩ ⟨rfl, rfl⟩ ⟨by simp only [List.length_nil, Int.natCast_zero]; repeat constructor, rfl⟩ ?_
  rintro ⟨d, r, X⟩ ⟨ha, h2⟩
  refine W.sound hmix (E := []) ?_
  simp only at ha h2
  cases r with
  | nil =>
    have e1 := pos_end ha
    simp only [run0, run1, run2, run3, run4, run5, run6, run7, run8, run9, run10, run11, run12, run13, run14, run15, run16, run17, run18, run19, run20, run21, run22, reduceCtorEq, Nat.reduceEqDiff, Nat.reduceAdd, Nat.reduceSub, Nat.reduceLeDiff, indexAddrA, indexRefA, appendA, strA, Nat.reduceMul, Nat.zero_mul, Nat.reduceMod, Int.reduceEq, Int.reduceLT, Int.reduceLE, Nat.reduceLT, Nat.lt_irrefl, Nat.reduceBEq, tys0, tys1, tys2, tys3, tys4, tys5, tys6, tys7, tys8, tys9, tys10, tys11, tys12, tys13, tys14, tys15, tys16, tys17, tys18, tys19, tys20, tys21, tys22, tys23, Try.ntmps49, Try.results49, List.length_map, e1]
    refine RunL.callp rfl rfl ok_f94 (in_ok g.length 1 40) (by first | rfl | simp only [pureL, pureB, Bool.and_self, Bool.and_true, Bool.true_and]) rfl ?_
    simp only [run0, run1, run2, run3, run4, run5, run6, run7, run8, run9, run10, run11, run12, run13, run14, run15, run16, run17, run18, run19, run20, run21, run22, reduceCtorEq, Nat.reduceEqDiff, Nat.reduceAdd, Nat.reduceSub, Nat.reduceLeDiff, indexAddrA, indexRefA, appendA, strA, Nat.reduceMul, Nat.zero_mul, Nat.reduceMod, Int.reduceEq, Int.reduceLT, Int.reduceLE, Nat.reduceLT, Nat.lt_irrefl, Nat.reduceBEq, tys0, tys1, tys2, tys3, tys4, tys5, tys6, tys7, tys8, tys9, tys10, tys11, tys12, tys13, tys14, tys15, tys16, tys17, tys18, tys19, tys20, tys21, tys22, tys23, Try.ntmps49, Try.results49]
    exact Fin.eq (by rw [gameB, ← h2]; rfl) rfl
  | cons e r =>
    obtain ⟨e1, e2, e5⟩ := pos_split ha hl
    have hse := hs e (by rw [ha]; simp)
    have hdl : d.length ≤ 1048576 := by omega
    have p1 := ints_pure e.1
    have p2 := ints_pure e.2
    simp only [gmI] at h2
    simp only [run0, run1, run2, run3, run4, run5, run6, run7, run8, run9, run10, run11, run12, run13, run14, run15, run16, run17, run18, run19, run20, run21, run22, reduceCtorEq, Nat.reduceEqDiff, Nat.reduceAdd, Nat.reduceSub, Nat.reduceLeDiff, indexAddrA, indexRefA, appendA, strA, Nat.reduceMul, Nat.zero_mul, Nat.reduceMod, Int.reduceEq, Int.reduceLT, Int.reduceLE, Nat.reduceLT, Nat.lt_irrefl, Nat.reduceBEq, tys0, tys1, tys2, tys3, tys4, tys5, tys6, tys7, tys8, tys9, tys10, tys11, tys12, tys13, tys14, tys15, tys16, tys17, tys18, tys19, tys20, tys21, tys22, tys23, Try.ntmps49, Try.results49, List.length_map, e1, e2, Int.toNat_natCast, Int.natCast_nonneg, List.getElem?_append_right, Nat.sub_self]
    refine RunL.callp rfl rfl ok_f93 (rising_ok e.1 d.length hse.1 hdl) (by simp only [pureL, pureB, p1, Bool.and_self]) rfl ?_
    cases h3 : ris ((d.length : Int) - 1) none e.1
    · simp only [run0, run1, run2, run3, run4, run5, run6, run7, run8, run9, run10, run11, run12, run13, run14, run15, run16, run17, run18, run19, run20, run21, run22, reduceCtorEq, Nat.reduceEqDiff, Nat.reduceAdd, Nat.reduceSub, Nat.reduceLeDiff, indexAddrA, indexRefA, appendA, strA, Nat.reduceMul, Nat.zero_mul, Nat.reduceMod, Int.reduceEq, Int.reduceLT, Int.reduceLE, Nat.reduceLT, Nat.lt_irrefl, Nat.reduceBEq, tys0, tys1, tys2, tys3, tys4, tys5, tys6, tys7, tys8, tys9, tys10, tys11, tys12, tys13, tys14, tys15, tys16, tys17, tys18, tys19, tys20, tys21, tys22, tys23, Try.ntmps49, Try.results49]
      exact Fin.eq (by rw [gameB, ← h2, h3]; rfl) rfl
    simp only [run0, run1, run2, run3, run4, run5, run6, run7, run8, run9, run10, run11, run12, run13, run14, run15, run16, run17, run18, run19, run20, run21, run22, reduceCtorEq, Nat.reduceEqDiff, Nat.reduceAdd, Nat.reduceSub, Nat.reduceLeDiff, indexAddrA, indexRefA, appendA, strA, Nat.reduceMul, Nat.zero_mul, Nat.reduceMod, Int.reduceEq, Int.reduceLT, Int.reduceLE, Nat.reduceLT, Nat.lt_irrefl, Nat.reduceBEq, tys0, tys1, tys2, tys3, tys4, tys5, tys6, tys7, tys8, tys9, tys10, tys11, tys12, tys13, tys14, tys15, tys16, tys17, tys18, tys19, tys20, tys21, tys22, tys23, Try.ntmps49, Try.results49, List.length_map, List.getElem?_append_right, Nat.sub_self]
    refine RunL.callp rfl rfl ok_f93 (rising_ok e.2 d.length hse.2 hdl) (by simp only [pureL, pureB, p2, Bool.and_self]) rfl ?_
    cases h4 : ris ((d.length : Int) - 1) none e.2
    · simp only [run0, run1, run2, run3, run4, run5, run6, run7, run8, run9, run10, run11, run12, run13, run14, run15, run16, run17, run18, run19, run20, run21, run22, reduceCtorEq, Nat.reduceEqDiff, Nat.reduceAdd, Nat.reduceSub, Nat.reduceLeDiff, indexAddrA, indexRefA, appendA, strA, Nat.reduceMul, Nat.zero_mul, Nat.reduceMod, Int.reduceEq, Int.reduceLT, Int.reduceLE, Nat.reduceLT, Nat.lt_irrefl, Nat.reduceBEq, tys0, tys1, tys2, tys3, tys4, tys5, tys6, tys7, tys8, tys9, tys10, tys11, tys12, tys13, tys14, tys15, tys16, tys17, tys18, tys19, tys20, tys21, tys22, tys23, Try.ntmps49, Try.results49]
      exact Fin.eq (by rw [gameB, ← h2, h3, h4]; rfl) rfl
    simp only [run0, run1, run2, run3, run4, run5, run6, run7, run8, run9, run10, run11, run12, run13, run14, run15, run16, run17, run18, run19, run20, run21, run22, reduceCtorEq, Nat.reduceEqDiff, Nat.reduceAdd, Nat.reduceSub, Nat.reduceLeDiff, indexAddrA, indexRefA, appendA, strA, Nat.reduceMul, Nat.zero_mul, Nat.reduceMod, Int.reduceEq, Int.reduceLT, Int.reduceLE, Nat.reduceLT, Nat.lt_irrefl, Nat.reduceBEq, tys0, tys1, tys2, tys3, tys4, tys5, tys6, tys7, tys8, tys9, tys10, tys11, tys12, tys13, tys14, tys15, tys16, tys17, tys18, tys19, tys20, tys21, tys22, tys23, Try.ntmps49, Try.results49, e5]
    rw [h3, h4, Bool.true_and, Bool.true_and] at h2
    exact ⟨⟨d ++ [e], r, _⟩, ⟨by simp [ha], by simp only [List.length_append, List.length_cons, List.length_nil]; exact h2⟩, by simp, by simp only [List.length_append, List.length_cons, List.length_nil]; repeat constructor, rfl⟩
theorem gaGood_ok (g : List GP) (hl : g.length ≤ 1048576) (hs : ∀ p ∈ g, smallP p) : Ct Try.prog 46 [.sl false (g.map posE)] [] (.bool (gameB g)) [] := by
  refine Ct.by_ hmix [] Try.func46 rfl ?_
  simp only [run0, run1, run2, run3, run4, run5, run6, run7, run8, run9, run10, run11, run12, run13, run14, run15, run16, run17, run18, run19, run20, run21, run22, reduceCtorEq, Nat.reduceEqDiff, Nat.reduceAdd, Nat.reduceSub, Nat.reduceLeDiff, indexAddrA, indexRefA, appendA, strA, Nat.reduceMul, Nat.zero_mul, Nat.reduceMod, Int.reduceEq, Int.reduceLT, Int.reduceLE, Nat.reduceLT, Nat.lt_irrefl, Nat.reduceBEq, tys0, tys1, tys2, tys3, tys4, tys5, tys6, tys7, tys8, tys9, tys10, tys11, tys12, tys13, tys14, tys15, tys16, tys17, tys18, tys19, tys20, tys21, tys22, tys23, Try.ntmps46, Try.results46, List.length_map]
  refine AWp.loop_inv (ι := GmS) (fun q => ⟨[.sl false (g.map posE), .junk, .bool false, .junk, .junk, .sl false (g.map posE), .int .i64 g.length, .int .i64 q.d.length, .junk, .junk, .junk, .junk, .junk, .junk, .junk, .junk, .junk, .junk, .junk, .junk, .junk, .junk, .junk, .junk, .junk, .junk, .junk, .junk, .junk, .junk], q.X⟩)
    (fun q => g = q.d ++ q.r ∧ gmI q.d.length q.r = gmI 0 g) (fun q => q.r.length) ⟨[], g, []⟩ ⟨rfl, rfl⟩ ⟨by simp only [List.length_nil, Int.natCast_zero]; repeat constructor, rfl⟩ ?_
  rintro ⟨d, r, X⟩ ⟨ha, h2⟩
  refine W.sound hmix (E := []) ?_
  simp only at ha h2
  cases r with
  | nil =>
    have e1 := pos_end ha
    simp only [run0, run1, run2, run3, run4, run5, run6, run7, run8, run9, run10, run11, run12, run13, run14, run15, run16, run17, run18, run19, run20, run21, run22, reduceCtorEq, Nat.reduceEqDiff, Nat.reduceAdd, Nat.reduceSub, Nat.reduceLeDiff, indexAddrA, indexRefA, appendA, strA, Nat.reduceMul, Nat.zero_mul, Nat.reduceMod, Int.reduceEq, Int.reduceLT, Int.reduceLE, Nat.reduceLT, Nat.lt_irrefl, Nat.reduceBEq, tys0, tys1, tys2, tys3, tys4, tys5, tys6, tys7, tys8, tys9, tys10, tys11, tys12, tys13, tys14, tys15, tys16, tys17, tys18, tys19, tys20, tys21, tys22, tys23, Try.ntmps46, Try.results46, List.length_map, e1]
    refine RunL.callp rfl rfl ok_f64 (l1In_ok g.length 1 40) (by first | rfl | simp only [pureL, pureB, Bool.and_self, Bool.and_true, Bool.true_and]) rfl ?_
    simp only [run0, run1, run2, run3, run4, run5, run6, run7, run8, run9, run10, run11, run12, run13, run14, run15, run16, run17, run18, run19, run20, run21, run22, reduceCtorEq, Nat.reduceEqDiff, Nat.reduceAdd, Nat.reduceSub, Nat.reduceLeDiff, indexAddrA, indexRefA, appendA, strA, Nat.reduceMul, Nat.zero_mul, Nat.reduceMod, Int.reduceEq, Int.reduceLT, Int.reduceLE, Nat.reduceLT, Nat.lt_irrefl, Nat.reduceBEq, tys0, tys1, tys2, tys3, tys4, tys5, tys6, tys7, tys8, tys9, tys10, tys11, tys12, tys13, tys14, tys15, tys16, tys17, tys18, tys19, tys20, tys21, tys22, tys23, Try.ntmps46, Try.results46]
    exact Fin.eq (by rw [gameB, ← h2]; rfl) rfl
  | cons e r =>
    obtain ⟨e1, e2, e5⟩ := pos_split ha hl
    have hse := hs e (by rw [ha]; simp)
    have hw : IntKind.i64.wrap ((d.length : Int) - 1) = (d.length : Int) - 1 := i64_id (by omega) (by omega)
    have p1 := ints_pure e.1
    have p2 := ints_pure e.2
    simp only [gmI] at h2
    simp only [run0, run1, run2, run3, run4, run5, run6, run7, run8, run9, run10, run11, run12, run13, run14, run15, run16, run17, run18, run19, run20, run21, run22, reduceCtorEq, Nat.reduceEqDiff, Nat.reduceAdd, Nat.reduceSub, Nat.reduceLeDiff, indexAddrA, indexRefA, appendA, strA, Nat.reduceMul, Nat.zero_mul, Nat.reduceMod, Int.reduceEq, Int.reduceLT, Int.reduceLE, Nat.reduceLT, Nat.lt_irrefl, Nat.reduceBEq, tys0, tys1, tys2, tys3, tys4, tys5, tys6, tys7, tys8, tys9, tys10, tys11, tys12, tys13, tys14, tys15, tys16, tys17, tys18, tys19, tys20, tys21, tys22, tys23, Try.ntmps46, Try.results46, List.length_map, hw, e1, e2, Int.toNat_natCast, Int.natCast_nonneg, List.getElem?_append_right, Nat.sub_self]
    refine RunL.callp rfl rfl ok_f90 (l1Rising_ok e.1 _ hse.1) (by simp only [pureL, pureB, p1, Bool.and_self]) rfl ?_
    cases h3 : ris ((d.length : Int) - 1) none e.1
    · simp only [run0, run1, run2, run3, run4, run5, run6, run7, run8, run9, run10, run11, run12, run13, run14, run15, run16, run17, run18, run19, run20, run21, run22, reduceCtorEq, Nat.reduceEqDiff, Nat.reduceAdd, Nat.reduceSub, Nat.reduceLeDiff, indexAddrA, indexRefA, appendA, strA, Nat.reduceMul, Nat.zero_mul, Nat.reduceMod, Int.reduceEq, Int.reduceLT, Int.reduceLE, Nat.reduceLT, Nat.lt_irrefl, Nat.reduceBEq, tys0, tys1, tys2, tys3, tys4, tys5, tys6, tys7, tys8, tys9, tys10, tys11, tys12, tys13, tys14, tys15, tys16, tys17, tys18, tys19, tys20, tys21, tys22, tys23, Try.ntmps46, Try.results46]
      exact Fin.eq (by rw [gameB, ← h2, h3]; rfl) rfl
    simp only [run0, run1, run2, run3, run4, run5, run6, run7, run8, run9, run10, run11, run12, run13, run14, run15, run16, run17, run18, run19, run20, run21, run22, reduceCtorEq, Nat.reduceEqDiff, Nat.reduceAdd, Nat.reduceSub, Nat.reduceLeDiff, indexAddrA, indexRefA, appendA, strA, Nat.reduceMul, Nat.zero_mul, Nat.reduceMod, Int.reduceEq, Int.reduceLT, Int.reduceLE, Nat.reduceLT, Nat.lt_irrefl, Nat.reduceBEq, tys0, tys1, tys2, tys3, tys4, tys5, tys6, tys7, tys8, tys9, tys10, tys11, tys12, tys13, tys14, tys15, tys16, tys17, tys18, tys19, tys20, tys21, tys22, tys23, Try.ntmps46, Try.results46, List.length_map, hw, List.getElem?_append_right, Nat.sub_self]
    refine RunL.callp rfl rfl ok_f90 (l1Rising_ok e.2 _ hse.2) (by simp only [pureL, pureB, p2, Bool.and_self]) rfl ?_
    cases h4 : ris ((d.length : Int) - 1) none e.2
    · simp only [run0, run1, run2, run3, run4, run5, run6, run7, run8, run9, run10, run11, run12, run13, run14, run15, run16, run17, run18, run19, run20, run21, run22, reduceCtorEq, Nat.reduceEqDiff, Nat.reduceAdd, Nat.reduceSub, Nat.reduceLeDiff, indexAddrA, indexRefA, appendA, strA, Nat.reduceMul, Nat.zero_mul, Nat.reduceMod, Int.reduceEq, Int.reduceLT, Int.reduceLE, Nat.reduceLT, Nat.lt_irrefl, Nat.reduceBEq, tys0, tys1, tys2, tys3, tys4, tys5, tys6, tys7, tys8, tys9, tys10, tys11, tys12, tys13, tys14, tys15, tys16, tys17, tys18, tys19, tys20, tys21, tys22, tys23, Try.ntmps46, Try.results46]
      exact Fin.eq (by rw [gameB, ← h2, h3, h4]; rfl) rfl
    simp only [run0, run1, run2, run3, run4, run5, run6, run7, run8, run9, run10, run11, run12, run13, run14, run15, run16, run17, run18, run19, run20, run21, run22, reduceCtorEq, Nat.reduceEqDiff, Nat.reduceAdd, Nat.reduceSub, Nat.reduceLeDiff, indexAddrA, indexRefA, appendA, strA, Nat.reduceMul, Nat.zero_mul, Nat.reduceMod, Int.reduceEq, Int.reduceLT, Int.reduceLE, Nat.reduceLT, Nat.lt_irrefl, Nat.reduceBEq, tys0, tys1, tys2, tys3, tys4, tys5, tys6, tys7, tys8, tys9, tys10, tys11, tys12, tys13, tys14, tys15, tys16, tys17, tys18, tys19, tys20, tys21, tys22, tys23, Try.ntmps46, Try.results46, e5]
    rw [h3, h4, Bool.true_and, Bool.true_and] at h2
    exact ⟨⟨d ++ [e], r, _⟩, ⟨by simp [ha], by simp only [List.length_append, List.length_cons, List.length_nil]; exact h2⟩, by simp, by simp only [List.length_append, List.length_cons, List.length_nil]; repeat constructor, rfl⟩
/-- Is it a game with that position? -/
def hasB (g : List GP) (a : Int) : Bool := gameB g && inB a 0 ((g.length : Int) - 1)
theorem hasPosition_ok (g : List GP) (a : Int) (hl : g.length ≤ 1048576) (hs : ∀ p ∈ g, smallP p) : Ct Try.prog 66 [.sl false (g.map posE), .int .i64 a] [] (.bool (hasB g a)) [] := by
  have pg := posL_pure g
  have hw : IntKind.i64.wrap ((g.length : Int) - 1) = (g.length : Int) - 1 := i64_id (by omega) (by omega)
  refine Ct.by_ hmix [] Try.func66 rfl ?_
  simp only [run0, run1, run2, run3, run4, run5, run6, run7, run8, run9, run10, run11, run12, run13, run14, run15, run16, run17, run18, run19, run20, run21, run22, reduceCtorEq, Nat.reduceEqDiff, Nat.reduceAdd, Nat.reduceSub, Nat.reduceLeDiff, indexAddrA, indexRefA, appendA, strA, Nat.reduceMul, Nat.zero_mul, Nat.reduceMod, Int.reduceEq, Int.reduceLT, Int.reduceLE, Nat.reduceLT, Nat.lt_irrefl, Nat.reduceBEq, tys0, tys1, tys2, tys3, tys4, tys5, tys6, tys7, tys8, tys9, tys10, tys11, tys12, tys13, tys14, tys15, tys16, tys17, tys18, tys19, tys20, tys21, tys22, tys23, Try.ntmps66, Try.results66]
  refine RunL.callp rfl rfl ok_f49 (isGame_ok g hl hs) (by simp only [pureL, pureB, pg, Bool.and_self]) rfl ?_
  cases h : gameB g
  · simp only [run0, run1, run2, run3, run4, run5, run6, run7, run8, run9, run10, run11, run12, run13, run14, run15, run16, run17, run18, run19, run20, run21, run22, reduceCtorEq, Nat.reduceEqDiff, Nat.reduceAdd, Nat.reduceSub, Nat.reduceLeDiff, indexAddrA, indexRefA, appendA, strA, Nat.reduceMul, Nat.zero_mul, Nat.reduceMod, Int.reduceEq, Int.reduceLT, Int.reduceLE, Nat.reduceLT, Nat.lt_irrefl, Nat.reduceBEq, tys0, tys1, tys2, tys3, tys4, tys5, tys6, tys7, tys8, tys9, tys10, tys11, tys12, tys13, tys14, tys15, tys16, tys17, tys18, tys19, tys20, tys21, tys22, tys23, Try.ntmps66, Try.results66]
    exact Fin.eq (by simp [hasB, h]) rfl
  simp only [run0, run1, run2, run3, run4, run5, run6, run7, run8, run9, run10, run11, run12, run13, run14, run15, run16, run17, run18, run19, run20, run21, run22, reduceCtorEq, Nat.reduceEqDiff, Nat.reduceAdd, Nat.reduceSub, Nat.reduceLeDiff, indexAddrA, indexRefA, appendA, strA, Nat.reduceMul, Nat.zero_mul, Nat.reduceMod, Int.reduceEq, Int.reduceLT, Int.reduceLE, Nat.reduceLT, Nat.lt_irrefl, Nat.reduceBEq, tys0, tys1, tys2, tys3, tys4, tys5, tys6, tys7, tys8, tys9, tys10, tys11, tys12, tys13, tys14, tys15, tys16, tys17, tys18, tys19, tys20, tys21, tys22, tys23, Try.ntmps66, Try.results66, List.length_map, hw]
  refine RunL.callp rfl rfl ok_f94 (in_ok a 0 ((g.length : Int) - 1)) (by first | rfl | simp only [pureL, pureB, Bool.and_self, Bool.and_true, Bool.true_and]) rfl ?_
  simp only [run0, run1, run2, run3, run4, run5, run6, run7, run8, run9, run10, run11, run12, run13, run14, run15, run16, run17, run18, run19, run20, run21, run22, reduceCtorEq, Nat.reduceEqDiff, Nat.reduceAdd, Nat.reduceSub, Nat.reduceLeDiff, indexAddrA, indexRefA, appendA, strA, Nat.reduceMul, Nat.zero_mul, Nat.reduceMod, Int.reduceEq, Int.reduceLT, Int.reduceLE, Nat.reduceLT, Nat.lt_irrefl, Nat.reduceBEq, tys0, tys1, tys2, tys3, tys4, tys5, tys6, tys7, tys8, tys9, tys10, tys11, tys12, tys13, tys14, tys15, tys16, tys17, tys18, tys19, tys20, tys21, tys22, tys23, Try.ntmps66, Try.results66]
  exact Fin.eq (by simp [hasB, h]) rfl
theorem gaHas_ok (g : List GP) (a : Int) (hl : g.length ≤ 1048576) (hs : ∀ p ∈ g, smallP p) : Ct Try.prog 63 [.sl false (g.map posE), .int .i64 a] [] (.bool (hasB g a)) [] := by
  have pg := posL_pure g
  have hw : IntKind.i64.wrap ((g.length : Int) - 1) = (g.length : Int) - 1 := i64_id (by omega) (by omega)
  refine Ct.by_ hmix [] Try.func63 rfl ?_
  simp only [run0, run1, run2, run3, run4, run5, run6, run7, run8, run9, run10, run11, run12, run13, run14, run15, run16, run17, run18, run19, run20, run21, run22, reduceCtorEq, Nat.reduceEqDiff, Nat.reduceAdd, Nat.reduceSub, Nat.reduceLeDiff, indexAddrA, indexRefA, appendA, strA, Nat.reduceMul, Nat.zero_mul, Nat.reduceMod, Int.reduceEq, Int.reduceLT, Int.reduceLE, Nat.reduceLT, Nat.lt_irrefl, Nat.reduceBEq, tys0, tys1, tys2, tys3, tys4, tys5, tys6, tys7, tys8, tys9, tys10, tys11, tys12, tys13, tys14, tys15, tys16, tys17, tys18, tys19, tys20, tys21, tys22, tys23, Try.ntmps63, Try.results63]
  refine RunL.callp rfl rfl ok_f46 (gaGood_ok g hl hs) (by simp only [pureL, pureB, pg, Bool.and_self]) rfl ?_
  cases h : gameB g
  · simp only [run0, run1, run2, run3, run4, run5, run6, run7, run8, run9, run10, run11, run12, run13, run14, run15, run16, run17, run18, run19, run20, run21, run22, reduceCtorEq, Nat.reduceEqDiff, Nat.reduceAdd, Nat.reduceSub, Nat.reduceLeDiff, indexAddrA, indexRefA, appendA, strA, Nat.reduceMul, Nat.zero_mul, Nat.reduceMod, Int.reduceEq, Int.reduceLT, Int.reduceLE, Nat.reduceLT, Nat.lt_irrefl, Nat.reduceBEq, tys0, tys1, tys2, tys3, tys4, tys5, tys6, tys7, tys8, tys9, tys10, tys11, tys12, tys13, tys14, tys15, tys16, tys17, tys18, tys19, tys20, tys21, tys22, tys23, Try.ntmps63, Try.results63]
    exact Fin.eq (by simp [hasB, h]) rfl
  simp only [run0, run1, run2, run3, run4, run5, run6, run7, run8, run9, run10, run11, run12, run13, run14, run15, run16, run17, run18, run19, run20, run21, run22, reduceCtorEq, Nat.reduceEqDiff, Nat.reduceAdd, Nat.reduceSub, Nat.reduceLeDiff, indexAddrA, indexRefA, appendA, strA, Nat.reduceMul, Nat.zero_mul, Nat.reduceMod, Int.reduceEq, Int.reduceLT, Int.reduceLE, Nat.reduceLT, Nat.lt_irrefl, Nat.reduceBEq, tys0, tys1, tys2, tys3, tys4, tys5, tys6, tys7, tys8, tys9, tys10, tys11, tys12, tys13, tys14, tys15, tys16, tys17, tys18, tys19, tys20, tys21, tys22, tys23, Try.ntmps63, Try.results63, List.length_map, hw]
  refine RunL.callp rfl rfl ok_f64 (l1In_ok a 0 ((g.length : Int) - 1)) (by first | rfl | simp only [pureL, pureB, Bool.and_self, Bool.and_true, Bool.true_and]) rfl ?_
  simp only [run0, run1, run2, run3, run4, run5, run6, run7, run8, run9, run10, run11, run12, run13, run14, run15, run16, run17, run18, run19, run20, run21, run22, reduceCtorEq, Nat.reduceEqDiff, Nat.reduceAdd, Nat.reduceSub, Nat.reduceLeDiff, indexAddrA, indexRefA, appendA, strA, Nat.reduceMul, Nat.zero_mul, Nat.reduceMod, Int.reduceEq, Int.reduceLT, Int.reduceLE, Nat.reduceLT, Nat.lt_irrefl, Nat.reduceBEq, tys0, tys1, tys2, tys3, tys4, tys5, tys6, tys7, tys8, tys9, tys10, tys11, tys12, tys13, tys14, tys15, tys16, tys17, tys18, tys19, tys20, tys21, tys22, tys23, Try.ntmps63, Try.results63]
  exact Fin.eq (by simp [hasB, h]) rfl

/-! ### games whose options stand ahead -/
/-- Each option is a position ahead of it. -/
def GameOk (g : List GP) : Prop := ∀ (i : Nat) (p : GP), g[i]? = some p → smallP p ∧ (∀ x ∈ p.1, 0 ≤ x ∧ x < (i : Int)) ∧ ∀ x ∈ p.2, 0 ≤ x ∧ x < (i : Int)
theorem ris_mem {n : Int} : ∀ {l : List Int} {p : Option Int}, ris n p l = true → ∀ x ∈ l, 0 ≤ x ∧ x ≤ n
  | [], p, h, x, hx => by simp at hx
  | k :: r, p, h, x, hx => by
    simp only [ris, Bool.and_eq_true] at h
    rcases List.mem_cons.1 hx with rfl | hx
    · simpa [inB] using h.1.1
    · exact ris_mem h.2 x hx
theorem ris_len {n : Int} : ∀ {l : List Int} {q : Int}, ris n (some q) l = true → 0 ≤ q → q ≤ n → (l.length : Int) + q ≤ n
  | [], q, h, h0, h1 => by simpa using h1
  | k :: r, q, h, h0, h1 => by
    simp only [ris, Bool.and_eq_true, decide_eq_true_eq, inB] at h
    have := ris_len h.2 (by omega) (by omega)
    simp only [List.length_cons]
    omega
theorem ris_small {n : Int} {l : List Int} (h : ris n none l = true) : (l.length : Int) ≤ n + 1 ∨ l = [] := by
  cases l with
  | nil => exact .inr rfl
  | cons k r =>
    left
    simp only [ris, Bool.and_eq_true, decide_eq_true_eq, inB] at h
    have := ris_len h.2 (by omega) (by omega)
    simp only [List.length_cons]
    omega
theorem gmI_at : ∀ {g : List GP} {i : Nat}, gmI i g = true → ∀ (k : Nat) (p : GP), g[k]? = some p → ris (((i + k : Nat) : Int) - 1) none p.1 = true ∧ ris (((i + k : Nat) : Int) - 1) none p.2 = true
  | [], i, h, k, p, hk => by simp at hk
  | q :: r, i, h, k, p, hk => by
    simp only [gmI, Bool.and_eq_true] at h
    cases k with
    | zero => simp at hk; subst hk; exact ⟨h.1.1, h.1.2⟩
    | succ k =>
      have := gmI_at h.2 k p (by simpa using hk)
      rwa [show i + 1 + k = i + (k + 1) by omega] at this
theorem gameB_ok {g : List GP} (h : gameB g = true) : GameOk g ∧ 1 ≤ g.length ∧ g.length ≤ 40 ∧ ∀ p ∈ g, p.1.length ≤ 40 ∧ p.2.length ≤ 40 := by
  simp only [gameB, Bool.and_eq_true, inB, decide_eq_true_eq] at h
  obtain ⟨h1, h2, h3⟩ := h
  have key : ∀ (i : Nat) (p : GP), g[i]? = some p → (p.1.length ≤ 40 ∧ p.2.length ≤ 40) ∧ (∀ x ∈ p.1, 0 ≤ x ∧ x < (i : Int)) ∧ ∀ x ∈ p.2, 0 ≤ x ∧ x < (i : Int) := by
    intro i p hp
    have hi := (List.getElem?_eq_some_iff.1 hp).1
    obtain ⟨a, b⟩ := gmI_at h1 i p hp
    rw [Nat.zero_add] at a b
    refine ⟨⟨?_, ?_⟩, fun x hx => by have := ris_mem a x hx; omega, fun x hx => by have := ris_mem b x hx; omega⟩
    · rcases ris_small a with h | h
      · omega
      · simp [h]
    · rcases ris_small b with h | h
      · omega
      · simp [h]
  refine ⟨fun i p hp => ?_, by omega, by omega, fun p hp => ?_⟩
  · obtain ⟨⟨k1, k2⟩, k3⟩ := key i p hp
    exact ⟨⟨by omega, by omega⟩, k3⟩
  · obtain ⟨i, hi, rfl⟩ := List.getElem_of_mem hp
    exact (key i _ (List.getElem?_eq_getElem hi)).1

/-! ### the order -/
def lefts (g : List GP) (a : Nat) : List Int := (g.getD a ([], [])).1
def rights (g : List GP) (a : Nat) : List Int := (g.getD a ([], [])).2
/-- Is a position at most another one? 'f': how many steps at most. -/
def leF (g : List GP) : Nat → Nat → Nat → Bool
  | 0, _, _ => true
  | f + 1, a, b => (lefts g a).all (fun x => !leF g f b x.toNat) && (rights g b).all (fun y => !leF g f y.toNat a)
def leG (g : List GP) (a b : Nat) : Bool := leF g (a + b + 1) a b
theorem lefts_lt {g : List GP} (hg : GameOk g) {a : Nat} {x : Int} (h : x ∈ lefts g a) : 0 ≤ x ∧ x < (a : Int) := by
  unfold lefts at h
  rw [List.getD_eq_getElem?_getD] at h
  cases hp : g[a]? with
  | none => rw [hp] at h; simp at h
  | some p => rw [hp] at h; exact (hg a p hp).2.1 x h
theorem rights_lt {g : List GP} (hg : GameOk g) {a : Nat} {x : Int} (h : x ∈ rights g a) : 0 ≤ x ∧ x < (a : Int) := by
  unfold rights at h
  rw [List.getD_eq_getElem?_getD] at h
  cases hp : g[a]? with
  | none => rw [hp] at h; simp at h
  | some p => rw [hp] at h; exact (hg a p hp).2.2 x h
theorem all_congr_mem {α : Type} {l : List α} {p q : α → Bool} (h : ∀ x ∈ l, p x = q x) : l.all p = l.all q := by
  induction l with
  | nil => rfl
  | cons a l ih => simp only [List.all_cons, h a (by simp), ih fun x hx => h x (by simp [hx])]
theorem leF_deep {g : List GP} (hg : GameOk g) : ∀ (f h a b : Nat), a + b < f → a + b < h → leF g f a b = leF g h a b
  | 0, h, a, b, h1, _ => by omega
  | f + 1, 0, a, b, _, h2 => by omega
  | f + 1, h + 1, a, b, h1, h2 => by
    simp only [leF]
    congr 1
    · refine all_congr_mem fun x hx => ?_
      have := lefts_lt hg hx
      rw [leF_deep hg f h b x.toNat (by omega) (by omega)]
    · refine all_congr_mem fun x hx => ?_
      have := rights_lt hg hx
      rw [leF_deep hg f h x.toNat a (by omega) (by omega)]
theorem leF_succ (g : List GP) (f a b : Nat) : leF g (f + 1) a b = ((lefts g a).all (fun x => !leF g f b x.toNat) && (rights g b).all (fun y => !leF g f y.toNat a)) := rfl
theorem leG_eq {g : List GP} (hg : GameOk g) (a b : Nat) : leG g a b = ((lefts g a).all (fun x => !leG g b x.toNat) && (rights g b).all (fun y => !leG g y.toNat a)) := by
  unfold leG
  rw [leF_succ g (a + b) a b]
  congr 1
  · refine all_congr_mem fun x hx => ?_
    have := lefts_lt hg hx
    rw [leF_deep hg (a + b) (b + x.toNat + 1) b x.toNat (by omega) (by omega)]
  · refine all_congr_mem fun x hx => ?_
    have := rights_lt hg hx
    rw [leF_deep hg (a + b) (x.toNat + a + 1) x.toNat a (by omega) (by omega)]

/-! ### what is known already -/
abbrev Memo := List ((Int × Int) × Bool)
def keyO (a b : Nat) : AObj := .box 164 [.int .i64 a, .int .i64 b]
def memO (m : Memo) : AObj := mapO 164 4 ekP AV.bool m
abbrev JS := Memo × List AObj
/-- The program's search: the value, and what is known behind it. -/
def atM (g : List GP) : Nat → JS → Nat → Nat → Bool × JS
  | 0, s, _, _ => (true, s)
  | f + 1, s, a, b =>
    match getM s.1 ((a : Int), (b : Int)) with
    | some v => (v, (s.1, s.2 ++ [keyO a b]))
    | none =>
      let r1 := (lefts g a).foldl (fun (q : Bool × JS) x => if q.1 then (!(atM g f q.2 b x.toNat).1, (atM g f q.2 b x.toNat).2) else q) (true, (s.1, s.2 ++ [keyO a b]))
      let r2 := (rights g b).foldl (fun (q : Bool × JS) y => if q.1 then (!(atM g f q.2 y.toNat a).1, (atM g f q.2 y.toNat a).2) else q) r1
      (r2.1, (putM r2.2.1 ((a : Int), (b : Int)) r2.1, r2.2.2))
structure MemOk (g : List GP) (m : Memo) : Prop where
  nd : (m.map Prod.fst).Nodup
  ok : ∀ k v, getM m k = some v → ∃ a b : Nat, k = ((a : Int), (b : Int)) ∧ a < g.length ∧ b < g.length ∧ v = leG g a b
theorem MemOk.nil (g : List GP) : MemOk g [] := ⟨by simp, by simp [getM]⟩
theorem fold_law {g : List GP} {F : JS → Int → Bool × JS} {v : Int → Bool} : ∀ (l : List Int) (q : Bool × JS), MemOk g q.2.1 →
    (∀ x ∈ l, ∀ s : JS, MemOk g s.1 → (F s x).1 = v x ∧ MemOk g (F s x).2.1 ∧ ∃ Y, (F s x).2.2 = s.2 ++ Y) →
    (l.foldl (fun (q : Bool × JS) x => if q.1 then (!(F q.2 x).1, (F q.2 x).2) else q) q).1 = (q.1 && l.all fun x => !v x) ∧
    MemOk g (l.foldl (fun (q : Bool × JS) x => if q.1 then (!(F q.2 x).1, (F q.2 x).2) else q) q).2.1 ∧ ∃ Y, (l.foldl (fun (q : Bool × JS) x => if q.1 then (!(F q.2 x).1, (F q.2 x).2) else q) q).2.2 = q.2.2 ++ Y
  | [], q, hq, _ => ⟨by simp, hq, [], by simp⟩
  | x :: l, q, hq, hF => by
    simp only [List.foldl_cons, List.all_cons]
    obtain ⟨h1, h2, Y, h3⟩ := hF x (by simp) q.2 hq
    cases hb : q.1
    · rw [if_neg (by simp)]
      obtain ⟨k1, k2, k3⟩ := fold_law l q hq (fun y hy => hF y (by simp [hy]))
      refine ⟨by rw [k1, hb]; rfl, k2, k3⟩
    · rw [if_pos rfl]
      obtain ⟨k1, k2, Z, k3⟩ := fold_law l (!(F q.2 x).1, (F q.2 x).2) h2 (fun y hy => hF y (by simp [hy]))
      refine ⟨by rw [k1, h1, Bool.true_and], k2, Y ++ Z, by rw [k3, h3, List.append_assoc]⟩
theorem MemOk.put {g : List GP} {m : Memo} (h : MemOk g m) {a b : Nat} (ha : a < g.length) (hb : b < g.length) : MemOk g (putM m ((a : Int), (b : Int)) (leG g a b)) :=
  ⟨putM_nodup h.nd _ _, fun k v hk => by
    rw [getM_putM] at hk
    split at hk
    · rename_i e
      cases hk
      exact ⟨a, b, e.symm, ha, hb, rfl⟩
    · exact h.ok k v hk⟩
theorem atM_law {g : List GP} (hg : GameOk g) : ∀ (f : Nat) (s : JS) (a b : Nat), a < g.length → b < g.length → a + b < f → MemOk g s.1 →
    (atM g f s a b).1 = leG g a b ∧ MemOk g (atM g f s a b).2.1 ∧ ∃ Y, (atM g f s a b).2.2 = s.2 ++ keyO a b :: Y
  | 0, s, a, b, _, _, h, _ => by omega
  | f + 1, s, a, b, ha, hb, h, hm => by
    unfold atM
    cases hk : getM s.1 ((a : Int), (b : Int)) with
    | some v =>
      obtain ⟨a', b', e, _, _, hv⟩ := hm.ok _ _ hk
      simp only [Prod.mk.injEq, Int.natCast_inj] at e
      obtain ⟨rfl, rfl⟩ := e
      exact ⟨hv, hm, [], rfl⟩
    | none =>
      obtain ⟨r1, r2, Y, r3⟩ := fold_law (g := g) (F := fun s x => atM g f s b x.toNat) (v := fun x => leG g b x.toNat) (lefts g a) (true, (s.1, s.2 ++ [keyO a b])) hm (fun x hx t ht => by
        have := lefts_lt hg hx
        obtain ⟨k1, k2, Y, k3⟩ := atM_law hg f t b x.toNat hb (by omega) (by omega) ht
        exact ⟨k1, k2, _, k3⟩)
      generalize hq : (lefts g a).foldl (fun (q : Bool × JS) x => if q.1 then (!(atM g f q.2 b x.toNat).1, (atM g f q.2 b x.toNat).2) else q) (true, (s.1, s.2 ++ [keyO a b])) = q at *
      obtain ⟨t1, t2, Z, t3⟩ := fold_law (g := g) (F := fun s y => atM g f s y.toNat a) (v := fun y => leG g y.toNat a) (rights g b) q r2 (fun x hx t ht => by
        have := rights_lt hg hx
        obtain ⟨k1, k2, Y, k3⟩ := atM_law hg f t x.toNat a (by omega) ha (by omega) ht
        exact ⟨k1, k2, _, k3⟩)
      have hv : ((rights g b).foldl (fun (q : Bool × JS) y => if q.1 then (!(atM g f q.2 y.toNat a).1, (atM g f q.2 y.toNat a).2) else q) q).1 = leG g a b := by
        rw [t1, r1, leG_eq hg a b, Bool.true_and]
      refine ⟨hv, ?_, Y ++ Z, ?_⟩
      · simp only [hv]
        exact MemOk.put t2 ha hb
      · simp only [t3, r3, List.append_assoc, List.singleton_append, List.cons_append, List.nil_append]

end Go.Proofs.Ytllcljajlemmaaa
/-
  Games that are numbers: the simplest number between, and the order of the positions.
-/
namespace Go.Proofs.Ytllcljajlemmaaa
open Go K
set_option linter.unusedSimpArgs false
set_option linter.unusedVariables false
set_option maxHeartbeats 1600000
set_option maxRecDepth 8000

def valF (l r : List Fr) : Fr := (frN (cutX l r), frD (cutX l r))
theorem leB_lt {x y : Int} {a : Fr} (hx : x.natAbs ≤ 50000000) (hy : y.natAbs ≤ 50000000) (ha : FB a) (h1 : leB x a = true) (h2 : leB y a = false) : x < y := by
  have k1 := (leB_iff hx ha).1 h1
  have k2 : ¬ (y * a.2 ≤ a.1 * 1048576) := fun h => by rw [(leB_iff hy ha).2 h] at h2; cases h2
  exact Int.lt_of_mul_lt_mul_right (a := a.2) (by omega) (by have := ha.1; omega)
theorem geB_lt {x y : Int} {a : Fr} (hx : x.natAbs ≤ 50000000) (hy : y.natAbs ≤ 50000000) (ha : FB a) (h1 : geB x a = true) (h2 : geB y a = false) : y < x := by
  have k1 := (geB_iff hx ha).1 h1
  have k2 : ¬ (a.1 * 1048576 ≤ y * a.2) := fun h => by rw [(geB_iff hy ha).2 h] at h2; cases h2
  exact Int.lt_of_mul_lt_mul_right (a := a.2) (by omega) (by have := ha.1; omega)
theorem any_off {α : Type} {p : α → Bool} {l : List α} (h : l.any p = false) {a : α} (ha : a ∈ l) : p a = false := by
  cases hp : p a with
  | false => rfl
  | true => rw [List.any_eq_true.2 ⟨a, ha, hp⟩] at h; cases h
theorem up_lt {l : List Fr} (hl : ∀ a ∈ l, FB a) {x y : Int} (hx : x.natAbs ≤ 50000000) (hy : y.natAbs ≤ 50000000) (h1 : l.any (leB x) = true) (h2 : l.any (leB y) = false) : x < y := by
  obtain ⟨a, ha, k⟩ := List.any_eq_true.1 h1
  exact leB_lt hx hy (hl a ha) k (any_off h2 ha)
theorem down_lt {l : List Fr} (hl : ∀ a ∈ l, FB a) {x y : Int} (hx : x.natAbs ≤ 50000000) (hy : y.natAbs ≤ 50000000) (h1 : l.any (geB x) = true) (h2 : l.any (geB y) = false) : y < x := by
  obtain ⟨a, ha, k⟩ := List.any_eq_true.1 h1
  exact geB_lt hx hy (hl a ha) k (any_off h2 ha)
theorem bad_off {l r : List Fr} (h : cutBad l r = false) : l.any (leB (cutX l r)) = false ∧ r.any (geB (cutX l r)) = false := by
  simpa [cutBad] using h
/-- Two walks to simplest numbers, each of them in the other's gap, end at one number. -/
theorem walk_same {l r l' r' : List Fr} (hl : ∀ a ∈ l, FB a) (hr : ∀ a ∈ r, FB a) (hl' : ∀ a ∈ l', FB a) (hr' : ∀ a ∈ r', FB a)
    (hb : cutBad l r = false) (hb' : cutBad l' r' = false) (c1 : l.any (leB (cutX l' r')) = false) (c2 : r.any (geB (cutX l' r')) = false)
    (c3 : l'.any (leB (cutX l r)) = false) (c4 : r'.any (geB (cutX l r)) = false) :
    ∀ (k : Nat) (p : SiS), p.n + k = 20 → SiI l r p → SiI l' r' p → cutX l r = cutX l' r'
  | k, p, hk, h, h' => by
    have hn : p.n ≤ 20 := by omega
    have sx := h.small hn
    have s1 := (cut_small l r).1
    have s2 := (cut_small l' r').1
    obtain ⟨b1, b2⟩ := bad_off hb
    obtain ⟨b3, b4⟩ := bad_off hb'
    cases u : l.any (leB p.i.x)
    · cases d : r.any (geB p.i.x)
      · have hx := h.stop hn (.inl (by simp [cutS, u, d]))
        cases u' : l'.any (leB p.i.x)
        · cases d' : r'.any (geB p.i.x)
          · rw [hx, h'.stop hn (.inl (by simp [cutS, u', d']))]
          · have := down_lt hr' sx s1 d' c4
            omega
        · have := up_lt hl' sx s1 u' c3
          omega
      · have q1 := down_lt hr sx s1 d b2
        have q2 := down_lt hr sx s2 d c2
        cases u' : l'.any (leB p.i.x)
        · cases d' : r'.any (geB p.i.x)
          · have := h'.stop hn (.inl (by simp [cutS, u', d']))
            omega
          · rcases (h.down hn u d p.X).2 with ⟨_, e⟩ | ⟨e, f⟩
            · rw [hb] at e; cases e
            rcases (h'.down hn u' d' p.X).2 with ⟨_, e'⟩ | ⟨e', f'⟩
            · rw [hb'] at e'; cases e'
            cases k with
            | zero => omega
            | succ k => exact walk_same hl hr hl' hr' hb hb' c1 c2 c3 c4 k _ (by show p.n + 1 + k = 20; omega) f f'
        · have := up_lt hl' sx s1 u' c3
          omega
    · have q1 := up_lt hl sx s1 u b1
      have q2 := up_lt hl sx s2 u c1
      cases u' : l'.any (leB p.i.x)
      · cases d' : r'.any (geB p.i.x)
        · have := h'.stop hn (.inl (by simp [cutS, u', d']))
          omega
        · have := down_lt hr' sx s1 d' c4
          omega
      · rcases (h.up hn u p.X).2 with ⟨_, e⟩ | ⟨e, f⟩
        · rw [hb] at e; cases e
        rcases (h'.up hn u' p.X).2 with ⟨_, e'⟩ | ⟨e', f'⟩
        · rw [hb'] at e'; cases e'
        cases k with
        | zero => omega
        | succ k => exact walk_same hl hr hl' hr' hb hb' c1 c2 c3 c4 k _ (by show p.n + 1 + k = 20; omega) f f'
theorem walk_end {l r : List Fr} (hb : cutBad l r = false) : ∀ (k : Nat) (p : SiS), p.n + k = 20 → SiI l r p → ∃ q, SiI l r q ∧ q.n ≤ 20 ∧ cutX l r = q.i.x
  | k, p, hk, h => by
    have hn : p.n ≤ 20 := by omega
    cases u : l.any (leB p.i.x)
    · cases d : r.any (geB p.i.x)
      · exact ⟨p, h, hn, h.stop hn (.inl (by simp [cutS, u, d]))⟩
      · rcases (h.down hn u d p.X).2 with ⟨_, e⟩ | ⟨e, f⟩
        · rw [hb] at e; cases e
        cases k with
        | zero => omega
        | succ k => exact walk_end hb k _ (by show p.n + 1 + k = 20; omega) f
    · rcases (h.up hn u p.X).2 with ⟨_, e⟩ | ⟨e, f⟩
      · rw [hb] at e; cases e
      cases k with
      | zero => omega
      | succ k => exact walk_end hb k _ (by show p.n + 1 + k = 20; omega) f
theorem le_scale {g p q a1 a2 : Int} (hg : 0 < g) : (g * p) * a2 ≤ a1 * (g * q) ↔ p * a2 ≤ a1 * q := by
  rw [Int.mul_assoc, Int.mul_left_comm a1 g q]
  exact ⟨fun h => Int.le_of_mul_le_mul_left h hg, fun h => Int.mul_le_mul_of_nonneg_left h (by omega)⟩
theorem ge_scale {g p q a1 a2 : Int} (hg : 0 < g) : a1 * (g * q) ≤ (g * p) * a2 ↔ a1 * q ≤ p * a2 := by
  rw [Int.mul_assoc, Int.mul_left_comm a1 g q]
  exact ⟨fun h => Int.le_of_mul_le_mul_left h hg, fun h => Int.mul_le_mul_of_nonneg_left h (by omega)⟩
theorem valF_spec {l r : List Fr} (hb : cutBad l r = false) : FB (valF l r) ∧ (∀ a, FB a → (leB (cutX l r) a = true ↔ leQ (valF l r) a)) ∧ (∀ a, FB a → (geB (cutX l r) a = true ↔ leQ a (valF l r))) := by
  obtain ⟨q, h, hn, hx⟩ := walk_end hb 20 _ rfl (SiI.start l r)
  have s1 := (cut_small l r).1
  have hok := h.wj.ok (by rw [h.size]; exact hn)
  have hat := h.rl.at_
  rw [← hx] at hok hat
  obtain ⟨g, g0, g1, g2, g3, g4, g5⟩ := hat.spec (by omega)
  have hv : valF l r = (q.s.an, q.s.ad) := by
    unfold valF frN frD
    rw [if_pos hok, if_pos hok, ← hat.1, ← hat.2]
  have hgd : goodB q.s.an q.s.ad = true := by
    rw [hat.1, hat.2]; exact hok
  rw [hv]
  refine ⟨good_range hgd, fun a ha => ?_, fun a ha => ?_⟩
  · rw [leB_iff s1 ha]
    unfold leQ
    rw [g1, g2]
    exact le_scale g0
  · rw [geB_iff s1 ha]
    unfold leQ
    rw [g1, g2]
    exact ge_scale g0
theorem valF_in {l r : List Fr} (hl : ∀ a ∈ l, FB a) (hr : ∀ a ∈ r, FB a) (hb : cutBad l r = false) : (∀ a ∈ l, ¬ leQ (valF l r) a) ∧ ∀ a ∈ r, ¬ leQ a (valF l r) := by
  obtain ⟨_, h1, h2⟩ := valF_spec hb
  obtain ⟨b1, b2⟩ := bad_off hb
  exact ⟨fun a ha h => (by rw [← h1 a (hl a ha), any_off b1 ha] at h; cases h), fun a ha h => (by rw [← h2 a (hr a ha), any_off b2 ha] at h; cases h)⟩
theorem any_on {α : Type} {p : α → Bool} {l : List α} (h : ∀ a ∈ l, p a = false) : l.any p = false := by
  cases hp : l.any p with
  | false => rfl
  | true =>
    obtain ⟨a, ha, k⟩ := List.any_eq_true.1 hp
    rw [h a ha] at k; cases k
theorem valF_same {l r l' r' : List Fr} (hl : ∀ a ∈ l, FB a) (hr : ∀ a ∈ r, FB a) (hl' : ∀ a ∈ l', FB a) (hr' : ∀ a ∈ r', FB a)
    (hb : cutBad l r = false) (hb' : cutBad l' r' = false) (c1 : ∀ a ∈ l, ¬ leQ (valF l' r') a) (c2 : ∀ a ∈ r, ¬ leQ a (valF l' r'))
    (c3 : ∀ a ∈ l', ¬ leQ (valF l r) a) (c4 : ∀ a ∈ r', ¬ leQ a (valF l r)) : valF l r = valF l' r' := by
  obtain ⟨_, h1, h2⟩ := valF_spec hb
  obtain ⟨_, h3, h4⟩ := valF_spec hb'
  have := walk_same hl hr hl' hr' hb hb' (any_on fun a ha => by
      have := c1 a ha; rw [← h3 a (hl a ha)] at this; simpa using this) (any_on fun a ha => by
      have := c2 a ha; rw [← h4 a (hr a ha)] at this; simpa using this) (any_on fun a ha => by
      have := c3 a ha; rw [← h1 a (hl' a ha)] at this; simpa using this) (any_on fun a ha => by
      have := c4 a ha; rw [← h2 a (hr' a ha)] at this; simpa using this) 20 ⟨0, wk0, sw0, []⟩ rfl (SiI.start l r) (SiI.start l' r')
  unfold valF
  rw [this]

end Go.Proofs.Ytllcljajlemmaaa
/-
  Games that are numbers: what positions are worth, told in two ways.
-/
namespace Go.Proofs.Ytllcljajlemmaaa
open Go K
set_option linter.unusedSimpArgs false
set_option linter.unusedVariables false
set_option maxHeartbeats 1600000
set_option maxRecDepth 8000

structure Wt where
  num : Bool
  told : Bool
  val : Fr
def wt0 : Wt := ⟨false, false, (0, 0)⟩
def wAt (ws : List Wt) (x : Int) : Wt := ws.getD x.toNat wt0
def vals (ws : List Wt) (l : List Int) : List Fr := l.map fun x => (wAt ws x).val
def apartB (l r : List Fr) : Bool := l.all fun x => r.all fun y => decide (cmpQ x y < 0)
def wS (p : GP) (ws : List Wt) : Wt :=
  if (p.1 ++ p.2).all fun x => (wAt ws x).told then
    if ((p.1 ++ p.2).all fun x => (wAt ws x).num) && apartB (vals ws p.1) (vals ws p.2) then
      if cutBad (vals ws p.1) (vals ws p.2) then wt0 else ⟨true, true, valF (vals ws p.1) (vals ws p.2)⟩
    else ⟨false, true, (0, 0)⟩
  else wt0
def wsG (g : List GP) : Nat → List Wt
  | 0 => []
  | n + 1 => wsG g n ++ [wS (g.getD n ([], [])) (wsG g n)]
def wG (g : List GP) (i : Nat) : Wt := wS (g.getD i ([], [])) (wsG g i)
theorem wsG_len (g : List GP) : ∀ n, (wsG g n).length = n
  | 0 => rfl
  | n + 1 => by simp [wsG, wsG_len g n]
theorem wsG_get (g : List GP) : ∀ (n i : Nat), i < n → (wsG g n)[i]? = some (wG g i)
  | n + 1, i, h => by
    unfold wsG
    by_cases e : i = n
    · subst e
      rw [List.getElem?_append_right (by rw [wsG_len]; exact Nat.le_refl _), wsG_len, Nat.sub_self]; rfl
    · rw [List.getElem?_append_left (by rw [wsG_len]; omega)]
      exact wsG_get g n i (by omega)
theorem wAt_wsG (g : List GP) {n : Nat} {x : Int} (h0 : 0 ≤ x) (h : x < n) : wAt (wsG g n) x = wG g x.toNat := by
  unfold wAt
  rw [List.getD_eq_getElem?_getD, wsG_get g n x.toNat (by omega)]; rfl
theorem vals_wsG (g : List GP) {n : Nat} {l : List Int} (h : ∀ x ∈ l, 0 ≤ x ∧ x < (n : Int)) : vals (wsG g n) l = l.map fun x => (wG g x.toNat).val :=
  List.map_congr_left fun x hx => by rw [wAt_wsG g (h x hx).1 (h x hx).2]
abbrev lv (g : List GP) (i : Nat) : List Fr := (lefts g i).map fun x => (wG g x.toNat).val
abbrev rv (g : List GP) (i : Nat) : List Fr := (rights g i).map fun x => (wG g x.toNat).val
theorem wG_eq (g : List GP) (i : Nat) : wG g i = if ((lefts g i ++ rights g i).all fun x => (wAt (wsG g i) x).told) = true then (if (((lefts g i ++ rights g i).all fun x => (wAt (wsG g i) x).num) && apartB (vals (wsG g i) (lefts g i)) (vals (wsG g i) (rights g i))) = true then (if cutBad (vals (wsG g i) (lefts g i)) (vals (wsG g i) (rights g i)) = true then wt0 else ⟨true, true, valF (vals (wsG g i) (lefts g i)) (vals (wsG g i) (rights g i))⟩) else ⟨false, true, (0, 0)⟩) else wt0 := rfl
theorem num_facts {g : List GP} (hg : GameOk g) {i : Nat} (h : (wG g i).num = true) :
    (∀ x ∈ lefts g i, (wG g x.toNat).num = true) ∧ (∀ x ∈ rights g i, (wG g x.toNat).num = true) ∧ cutBad (lv g i) (rv g i) = false ∧ (wG g i).val = valF (lv g i) (rv g i) := by
  have hL : vals (wsG g i) (lefts g i) = lv g i := vals_wsG g fun x hx => lefts_lt hg hx
  have hR : vals (wsG g i) (rights g i) = rv g i := vals_wsG g fun x hx => rights_lt hg hx
  rw [wG_eq] at h ⊢
  rw [hL, hR] at h ⊢
  split at h
  · rename_i h1
    split at h
    · rename_i h2
      split at h
      · cases h
      · rename_i h3
        rw [if_pos h1, if_pos h2, if_neg h3]
        simp only [Bool.and_eq_true, List.all_eq_true, List.mem_append] at h2
        refine ⟨fun x hx => ?_, fun x hx => ?_, by simpa using h3, rfl⟩
        · have := h2.1 x (.inl hx)
          rwa [wAt_wsG g (lefts_lt hg hx).1 (lefts_lt hg hx).2] at this
        · have := h2.1 x (.inr hx)
          rwa [wAt_wsG g (rights_lt hg hx).1 (rights_lt hg hx).2] at this
    · cases h
  · cases h
theorem num_FB {g : List GP} (hg : GameOk g) : ∀ (s i : Nat), i < s → (wG g i).num = true → FB (wG g i).val
  | s + 1, i, hs, h => by
    obtain ⟨h1, h2, h3, h4⟩ := num_facts hg h
    rw [h4]
    exact (valF_spec h3).1
theorem num_in {g : List GP} (hg : GameOk g) {i : Nat} (h : (wG g i).num = true) : (∀ a ∈ lv g i, FB a) ∧ (∀ a ∈ rv g i, FB a) ∧ (∀ a ∈ lv g i, ¬ leQ (wG g i).val a) ∧ ∀ a ∈ rv g i, ¬ leQ a (wG g i).val := by
  obtain ⟨h1, h2, h3, h4⟩ := num_facts hg h
  have k1 : ∀ a ∈ lv g i, FB a := fun a ha => by
    obtain ⟨x, hx, rfl⟩ := List.mem_map.1 ha
    exact num_FB hg _ _ (Nat.lt_succ_self _) (h1 x hx)
  have k2 : ∀ a ∈ rv g i, FB a := fun a ha => by
    obtain ⟨x, hx, rfl⟩ := List.mem_map.1 ha
    exact num_FB hg _ _ (Nat.lt_succ_self _) (h2 x hx)
  rw [h4]
  exact ⟨k1, k2, valF_in k1 k2 h3⟩
theorem leQ_refl (a : Fr) : leQ a a := Int.le_refl _
theorem num_order {g : List GP} (hg : GameOk g) : ∀ (s a b : Nat), a + b < s → (wG g a).num = true → (wG g b).num = true → (leG g a b = true ↔ leQ (wG g a).val (wG g b).val)
  | s + 1, a, b, hs, ha, hb => by
    obtain ⟨a1, a2, a3, a4⟩ := num_facts hg ha
    obtain ⟨b1, b2, b3, b4⟩ := num_facts hg hb
    obtain ⟨a5, a6, a7, a8⟩ := num_in hg ha
    obtain ⟨b5, b6, b7, b8⟩ := num_in hg hb
    have fa := num_FB hg _ _ (Nat.lt_succ_self _) ha
    have fb := num_FB hg _ _ (Nat.lt_succ_self _) hb
    have ihL : ∀ x ∈ lefts g a, (leG g b x.toNat = true ↔ leQ (wG g b).val (wG g x.toNat).val) := fun x hx =>
      num_order hg s b x.toNat (by have := lefts_lt hg hx; omega) hb (a1 x hx)
    have ihR : ∀ y ∈ rights g b, (leG g y.toNat a = true ↔ leQ (wG g y.toNat).val (wG g a).val) := fun y hy =>
      num_order hg s y.toNat a (by have := rights_lt hg hy; omega) (b2 y hy) ha
    rw [leG_eq hg]
    simp only [Bool.and_eq_true, List.all_eq_true, Bool.not_eq_true']
    constructor
    · rintro ⟨hL, hR⟩
      rcases leQ_total (wG g a).val (wG g b).val with h | h
      · exact h
      have e : (wG g a).val = (wG g b).val := by
        have e := valF_same a5 a6 b5 b6 a3 b3 (fun z hz => by
          obtain ⟨x, hx, rfl⟩ := List.mem_map.1 hz
          rw [← b4, ← ihL x hx, hL x hx]; simp) (fun z hz q => by
          rw [← b4] at q
          exact a8 z hz (leQ_trans (a6 z hz) fb fa q h)) (fun z hz q => by
          rw [← a4] at q
          exact b7 z hz (leQ_trans fb fa (b5 z hz) h q)) (fun z hz => by
          obtain ⟨y, hy, rfl⟩ := List.mem_map.1 hz
          rw [← a4, ← ihR y hy, hR y hy]; simp)
        rw [a4, b4]; exact e
      rw [e]; exact leQ_refl _
    · intro h
      refine ⟨fun x hx => ?_, fun y hy => ?_⟩
      · cases q : leG g b x.toNat with
        | false => rfl
        | true =>
          have k := (ihL x hx).1 q
          have hz : (wG g x.toNat).val ∈ lv g a := List.mem_map.2 ⟨x, hx, rfl⟩
          exact absurd (leQ_trans fa fb (a5 _ hz) h k) (a7 _ hz)
      · cases q : leG g y.toNat a with
        | false => rfl
        | true =>
          have k := (ihR y hy).1 q
          have hz : (wG g y.toNat).val ∈ rv g b := List.mem_map.2 ⟨y, hy, rfl⟩
          exact absurd (leQ_trans (b6 _ hz) fa fb k h) (b8 _ hz)

/-! ### the program's way -/
structure Wo where
  num : Bool
  lost : Bool
  val : Fr
def wo0 : Wo := ⟨false, false, (0, 0)⟩
def iAt (ws : List Wo) (x : Int) : Wo := ws.getD x.toNat wo0
def ivals (ws : List Wo) (l : List Int) : List Fr := l.map fun x => (iAt ws x).val
def pairB (g : List GP) (l r : List Int) : Bool := l.all fun x => r.all fun y => !leG g y.toNat x.toNat
def iNum (g : List GP) (p : GP) (ws : List Wo) : Bool := ((p.1 ++ p.2).all fun x => (iAt ws x).num) && pairB g p.1 p.2
def iLost (p : GP) (ws : List Wo) : Bool := (p.1 ++ p.2).any fun x => (iAt ws x).lost
def simV (l r : List Fr) : Fr := if cutBad l r then (0, 0) else valF l r
def wI (g : List GP) (p : GP) (ws : List Wo) : Wo :=
  if iNum g p ws && !iLost p ws then ⟨true, cutBad (ivals ws p.1) (ivals ws p.2), simV (ivals ws p.1) (ivals ws p.2)⟩ else ⟨iNum g p ws, iLost p ws, (0, 0)⟩
def wiG (g : List GP) : Nat → List Wo
  | 0 => []
  | n + 1 => wiG g n ++ [wI g (g.getD n ([], [])) (wiG g n)]
def Rw (t : Wt) (i : Wo) : Prop := i.lost = !t.told ∧ (t.num = true → t.told = true) ∧ (t.told = true → i.num = t.num ∧ (t.num = true → i.val = t.val))
theorem wiG_len (g : List GP) : ∀ n, (wiG g n).length = n
  | 0 => rfl
  | n + 1 => by simp [wiG, wiG_len g n]
def iG (g : List GP) (i : Nat) : Wo := wI g (g.getD i ([], [])) (wiG g i)
theorem wiG_get (g : List GP) : ∀ (n i : Nat), i < n → (wiG g n)[i]? = some (iG g i)
  | n + 1, i, h => by
    unfold wiG
    by_cases e : i = n
    · subst e
      rw [List.getElem?_append_right (by rw [wiG_len]; exact Nat.le_refl _), wiG_len, Nat.sub_self]; rfl
    · rw [List.getElem?_append_left (by rw [wiG_len]; omega)]
      exact wiG_get g n i (by omega)
theorem iAt_wiG (g : List GP) {n : Nat} {x : Int} (h0 : 0 ≤ x) (h : x < n) : iAt (wiG g n) x = iG g x.toNat := by
  unfold iAt
  rw [List.getD_eq_getElem?_getD, wiG_get g n x.toNat (by omega)]; rfl
theorem all_same {α : Type} {l : List α} {p q : α → Bool} (h : ∀ x ∈ l, p x = q x) : l.all p = l.all q := by
  induction l with
  | nil => rfl
  | cons a r ih => simp only [List.all_cons, h a (by simp), ih fun x hx => h x (by simp [hx])]
theorem any_not {α : Type} {l : List α} {p q : α → Bool} (h : ∀ x ∈ l, p x = !q x) : l.any p = !l.all q := by
  induction l with
  | nil => rfl
  | cons a r ih => simp only [List.any_cons, List.all_cons, h a (by simp), ih fun x hx => h x (by simp [hx]), Bool.not_and]
theorem worth_same {g : List GP} (hg : GameOk g) : ∀ (s i : Nat), i < s → Rw (wG g i) (iG g i)
  | s + 1, i, hs => by
    have hp : ∀ x ∈ lefts g i ++ rights g i, 0 ≤ x ∧ x < (i : Int) := fun x hx => by
      rcases List.mem_append.1 hx with h | h
      · exact lefts_lt hg h
      · exact rights_lt hg h
    have ih : ∀ x ∈ lefts g i ++ rights g i, Rw (wAt (wsG g i) x) (iAt (wiG g i) x) := fun x hx => by
      rw [wAt_wsG g (hp x hx).1 (hp x hx).2, iAt_wiG g (hp x hx).1 (hp x hx).2]
      exact worth_same hg s x.toNat (by have := hp x hx; omega)
    have hlost : iLost (g.getD i ([], [])) (wiG g i) = !((lefts g i ++ rights g i).all fun x => (wAt (wsG g i) x).told) := any_not fun x hx => (ih x hx).1
    have hW := wG_eq g i
    have hI : iG g i = if (iNum g (g.getD i ([], [])) (wiG g i) && !iLost (g.getD i ([], [])) (wiG g i)) = true then (⟨true, cutBad (ivals (wiG g i) (lefts g i)) (ivals (wiG g i) (rights g i)), simV (ivals (wiG g i) (lefts g i)) (ivals (wiG g i) (rights g i))⟩ : Wo) else ⟨iNum g (g.getD i ([], [])) (wiG g i), iLost (g.getD i ([], [])) (wiG g i), (0, 0)⟩ := rfl
    rw [hlost] at hI
    cases ht : (lefts g i ++ rights g i).all fun x => (wAt (wsG g i) x).told
    · rw [ht, if_neg (by simp)] at hW
      rw [ht, if_neg (by simp)] at hI
      rw [hW, hI]
      exact ⟨rfl, fun h => (by cases h), fun h => (by cases h)⟩
    rw [ht, if_pos rfl] at hW
    have told : ∀ x ∈ lefts g i ++ rights g i, (wAt (wsG g i) x).told = true := List.all_eq_true.1 ht
    have hnum : iNum g (g.getD i ([], [])) (wiG g i) = (((lefts g i ++ rights g i).all fun x => (wAt (wsG g i) x).num) && pairB g (lefts g i) (rights g i)) := by
      have e : ((lefts g i ++ rights g i).all fun x => (iAt (wiG g i) x).num) = ((lefts g i ++ rights g i).all fun x => (wAt (wsG g i) x).num) := all_same fun x hx => ((ih x hx).2.2 (told x hx)).1
      rw [← e]; rfl
    rw [hnum, ht] at hI
    simp only [Bool.not_true, Bool.not_false, Bool.and_true] at hI
    cases hn : (lefts g i ++ rights g i).all fun x => (wAt (wsG g i) x).num
    · rw [hn, Bool.false_and, if_neg (by simp)] at hW hI
      rw [hW, hI]
      exact ⟨rfl, fun _ => rfl, fun _ => ⟨rfl, fun h => (by cases h)⟩⟩
    have nums : ∀ x ∈ lefts g i ++ rights g i, (wAt (wsG g i) x).num = true := List.all_eq_true.1 hn
    have hN : ∀ x ∈ lefts g i ++ rights g i, (wG g x.toNat).num = true := fun x hx => by
      have := nums x hx
      rwa [wAt_wsG g (hp x hx).1 (hp x hx).2] at this
    have hVL : ivals (wiG g i) (lefts g i) = vals (wsG g i) (lefts g i) := List.map_congr_left fun x hx => ((ih x (by simp [hx])).2.2 (told x (by simp [hx]))).2 (nums x (by simp [hx]))
    have hVR : ivals (wiG g i) (rights g i) = vals (wsG g i) (rights g i) := List.map_congr_left fun x hx => ((ih x (by simp [hx])).2.2 (told x (by simp [hx]))).2 (nums x (by simp [hx]))
    have hap : apartB (vals (wsG g i) (lefts g i)) (vals (wsG g i) (rights g i)) = pairB g (lefts g i) (rights g i) := by
      unfold apartB pairB vals
      rw [List.all_map]
      refine all_same fun x hx => ?_
      simp only [Function.comp_def, List.all_map]
      refine all_same fun y hy => ?_
      have x1 := lefts_lt hg hx
      have y1 := rights_lt hg hy
      simp only [wAt_wsG g x1.1 x1.2, wAt_wsG g y1.1 y1.2]
      have n1 := hN x (by simp [hx])
      have n2 := hN y (by simp [hy])
      have k := num_order hg _ y.toNat x.toNat (Nat.lt_succ_self _) n2 n1
      have c := cmpQ_neg (num_FB hg _ _ (Nat.lt_succ_self _) n1) (num_FB hg _ _ (Nat.lt_succ_self _) n2)
      cases q : leG g y.toNat x.toNat
      · simp only [Bool.not_false, decide_eq_true_eq]
        rw [c, ← k, q]; simp
      · simp only [Bool.not_true, decide_eq_false_iff_not]
        rw [c, ← k, q]; simp
    rw [hn, hap, Bool.true_and] at hW
    rw [hn, Bool.true_and, hVL, hVR] at hI
    cases hpair : pairB g (lefts g i) (rights g i)
    · rw [hpair, if_neg (by simp)] at hW hI
      rw [hW, hI]
      exact ⟨rfl, fun _ => rfl, fun _ => ⟨rfl, fun h => (by cases h)⟩⟩
    rw [hpair, if_pos rfl] at hW hI
    unfold simV at hI
    cases hb : cutBad (vals (wsG g i) (lefts g i)) (vals (wsG g i) (rights g i))
    · rw [hb, if_neg (by simp)] at hW hI
      rw [hW, hI]
      exact ⟨rfl, fun _ => rfl, fun _ => ⟨rfl, fun _ => rfl⟩⟩
    · rw [hb, if_pos rfl] at hW hI
      rw [hW, hI]
      exact ⟨rfl, fun h => (by cases h), fun h => (by cases h)⟩
/-- Positions behind one do not matter. -/
theorem wsG_take (g : List GP) (m : Nat) : ∀ n, n ≤ m → wsG (g.take m) n = wsG g n
  | 0, _ => rfl
  | n + 1, h => by
    have e : (g.take m).getD n ([], []) = g.getD n ([], []) := by
      rw [List.getD_eq_getElem?_getD, List.getD_eq_getElem?_getD, List.getElem?_take, if_pos (by omega)]
    unfold wsG
    rw [wsG_take g m n (by omega), e]
theorem GameOk.take {g : List GP} (hg : GameOk g) (m : Nat) : GameOk (g.take m) := fun i p hp => by
  rw [List.getElem?_take] at hp
  split at hp
  · exact hg i p hp
  · cases hp

end Go.Proofs.Ytllcljajlemmaaa
/-
  Games: the program's search for the order of positions.
-/
namespace Go.Proofs.Ytllcljajlemmaaa
open Go K
set_option linter.unusedSimpArgs false
set_option linter.unusedVariables false
set_option maxHeartbeats 3200000
set_option maxRecDepth 8000

theorem jArr : WideMaps.ArrKey Try.prog 164 3 2 := ⟨Try.underlying164, by kernel_rfl, by kernel_rfl, by kernel_rfl⟩
theorem jT : MapT Try.prog 164 4 ekP AV.bool false := mapT_pair jArr (fun _ => rfl) (fun _ => rfl) (by kernel_rfl)
theorem wf_nat {a : Nat} (h : a ≤ 1048576) : (Lit.int .i64 (a : Int)).wf = true := by
  simp only [Lit.wf, Bool.and_eq_true, decide_eq_true_eq]
  have h1 : IntKind.i64.min = -9223372036854775808 := by decide
  have h2 : IntKind.i64.max = 9223372036854775807 := by decide
  rw [h1, h2]
  omega
theorem jKey {a b : Nat} (ha : a ≤ 1048576) (hb : b ≤ 1048576) : (keyOf Try.prog 164 (valK (ekP ((a : Int), (b : Int))))).isSome = true := by
  have := WideMaps.keyOf_pair jArr Try.underlying3 ⟨Try.prog.types.size - 1, by kernel_rfl⟩ (wf_nat ha) (wf_nat hb)
  show (keyOf Try.prog 164 (.agg #[.int .i64 (a : Int), .int .i64 (b : Int)])).isSome = true
  rw [this]; rfl
theorem MemOk.map {g : List GP} (hl : g.length ≤ 1048576) {m : Memo} (h : MemOk g m) : MapOk Try.prog 164 ekP m :=
  ⟨h.nd, fun k hk => by
    obtain ⟨p, hp, rfl⟩ := List.mem_map.1 hk
    obtain ⟨j, hj, rfl⟩ := List.getElem_of_mem hp
    have := getM_at h.nd (List.getElem?_eq_getElem hj)
    obtain ⟨a, b, e, ha, hb, _⟩ := h.ok _ _ this
    rw [e]
    exact jKey (by omega) (by omega)⟩

/-- What the call owns while positions are compared. -/
def jsL (L0 : List AObj) (mb : Nat) (s : JS) : List AObj := L0.set mb (memO s.1) ++ s.2
section
variable {L0 : List AObj} {jb mb : Nat} {s : JS}
theorem jsL_len : (jsL L0 mb s).length = L0.length + s.2.length := by simp [jsL]
theorem jsL_old {B : AObj} (h : L0[jb]? = some B) (hne : mb ≠ jb) : (jsL L0 mb s)[jb]? = some B := by
  have := (List.getElem?_eq_some_iff.1 h).1
  unfold jsL
  rw [List.getElem?_append_left (by simpa using this), List.getElem?_set_ne hne]; exact h
theorem jsL_map (h : mb < L0.length) : (jsL L0 mb s)[mb]? = some (memO s.1) := by
  unfold jsL
  rw [List.getElem?_append_left (by simpa using h), List.getElem?_set_self h]
theorem jsL_set (h : mb < L0.length) (m : Memo) : (jsL L0 mb s).set mb (memO m) = jsL L0 mb (m, s.2) := by
  unfold jsL
  rw [List.set_append_left _ _ (by simpa using h), List.set_set]
theorem jsL_app (o : AObj) : jsL L0 mb s ++ [o] = jsL L0 mb (s.1, s.2 ++ [o]) := by simp [jsL]
theorem jsL_app2 (o o2 : AObj) : jsL L0 mb s ++ [o] ++ [o2] = jsL L0 mb (s.1, s.2 ++ [o, o2]) := by simp [jsL]
end

theorem pos_at {g : List GP} {a : Nat} (h : a < g.length) : (g.map posE)[a]? = some (.agg [.sl false (ints (lefts g a)), .sl false (ints (rights g a))]) := by
  simp [lefts, rights, List.getD_eq_getElem?_getD, h, posE]
theorem lefts_len {g : List GP} (hg : GameOk g) {a : Nat} (h : a < g.length) : (lefts g a).length ≤ 1048576 ∧ (rights g a).length ≤ 1048576 := by
  have := (hg a g[a] (List.getElem?_eq_getElem h)).1
  unfold lefts rights
  rw [List.getD_eq_getElem?_getD, List.getElem?_eq_getElem h]
  exact this

structure AtS where
  d : List Int
  r : List Int
  q : Bool × JS

theorem atMost_ok (g : List GP) (hg : GameOk g) (hl : g.length ≤ 1048576) : ∀ (f a b : Nat), a < g.length → b < g.length → a + b < f → ∀ (L0 : List AObj) (jb mb : Nat) (s : JS),
    L0[jb]? = some (.box 126 [.sl false (g.map posE), .map mb]) → mb < L0.length → mb ≠ jb → MemOk g s.1 →
    Ct Try.prog 115 [.ptr jb 0, .int .i64 a, .int .i64 b] (jsL L0 mb s) (.bool (atM g f s a b).1) (jsL L0 mb (atM g f s a b).2)
  | 0, a, b, _, _, h, _, _, _, _, _, _, _, _ => absurd h (Nat.not_lt_zero _)
  | f + 1, a, b, ha, hb, hf, L0, jb, mb, s, hj, hm, hne, hmo => by
    have hJ : (jsL L0 mb s)[jb]? = some (.box 126 [.sl false (g.map posE), .map mb]) := jsL_old hj hne
    have hM : (jsL L0 mb s)[mb]? = some (memO s.1) := jsL_map hm
    have hJl := (List.getElem?_eq_some_iff.1 hJ).1
    have hMl := (List.getElem?_eq_some_iff.1 hM).1
    have hj1 : ∀ B, (jsL L0 mb s ++ [B])[jb]? = some (.box 126 [.sl false (g.map posE), .map mb]) := fun B => by rw [List.getElem?_append_left hJl]; exact hJ
    have hm1 : ∀ B, (jsL L0 mb s ++ [B])[mb]? = some (memO s.1) := fun B => by rw [List.getElem?_append_left hMl]; exact hM
    have hmp := hmo.map hl
    have hky := jKey (a := a) (b := b) (by omega) (by omega)
    have hap := jsL_app (L0 := L0) (mb := mb) (s := s) (keyO a b)
    have hlen := jsL_len (L0 := L0) (mb := mb) (s := s)
    refine Ct.by_ hmix [] Try.func115 rfl ?_
    simp only [run0, run1, run2, run3, run4, run5, run6, run7, run8, run9, run10, run11, run12, run13, run14, run15, run16, run17, run18, run19, run20, run21, run22, reduceCtorEq, Nat.reduceEqDiff, Nat.reduceAdd, Nat.reduceSub, Nat.reduceLeDiff, indexAddrA, indexRefA, appendA, strA, Nat.reduceMul, Nat.zero_mul, Nat.reduceMod, Int.reduceEq, Int.reduceLT, Int.reduceLE, Nat.reduceLT, Nat.lt_irrefl, Nat.reduceBEq, tys0, tys1, tys2, tys3, tys4, tys5, tys6, tys7, tys8, tys9, tys10, tys11, tys12, tys13, tys14, tys15, tys16, tys17, tys18, tys19, tys20, tys21, tys22, tys23, Try.ntmps115, Try.results115, hj1, List.getElem?_append_right, Nat.sub_self]
    refine ⟨by kernel_rfl, ?_⟩
    refine RunL.look jT s.1 ((a : Int), (b : Int)) rfl rfl rfl rfl (hm1 _) Try.underlying124 hmp hky rfl ?_
    cases hk : getM s.1 ((a : Int), (b : Int)) with
    | some v =>
      have hA : atM g (f + 1) s a b = (v, (s.1, s.2 ++ [keyO a b])) := by simp only [atM, hk]
      rw [hA]
      simp only [run0, run1, run2, run3, run4, run5, run6, run7, run8, run9, run10, run11, run12, run13, run14, run15, run16, run17, run18, run19, run20, run21, run22, reduceCtorEq, Nat.reduceEqDiff, Nat.reduceAdd, Nat.reduceSub, Nat.reduceLeDiff, indexAddrA, indexRefA, appendA, strA, Nat.reduceMul, Nat.zero_mul, Nat.reduceMod, Int.reduceEq, Int.reduceLT, Int.reduceLE, Nat.reduceLT, Nat.lt_irrefl, Nat.reduceBEq, tys0, tys1, tys2, tys3, tys4, tys5, tys6, tys7, tys8, tys9, tys10, tys11, tys12, tys13, tys14, tys15, tys16, tys17, tys18, tys19, tys20, tys21, tys22, tys23, Try.ntmps115, Try.results115, lookR, hk, Option.getD_some]
      exact Fin.own hap rfl
    | none =>
      have hA : atM g (f + 1) s a b = ((((rights g b).foldl (fun (q : Bool × JS) y => if q.1 then (!(atM g f q.2 y.toNat a).1, (atM g f q.2 y.toNat a).2) else q) ((lefts g a).foldl (fun (q : Bool × JS) x => if q.1 then (!(atM g f q.2 b x.toNat).1, (atM g f q.2 b x.toNat).2) else q) (true, (s.1, s.2 ++ [keyO a b])))).1), (putM ((rights g b).foldl (fun (q : Bool × JS) y => if q.1 then (!(atM g f q.2 y.toNat a).1, (atM g f q.2 y.toNat a).2) else q) ((lefts g a).foldl (fun (q : Bool × JS) x => if q.1 then (!(atM g f q.2 b x.toNat).1, (atM g f q.2 b x.toNat).2) else q) (true, (s.1, s.2 ++ [keyO a b])))).2.1 ((a : Int), (b : Int)) ((rights g b).foldl (fun (q : Bool × JS) y => if q.1 then (!(atM g f q.2 y.toNat a).1, (atM g f q.2 y.toNat a).2) else q) ((lefts g a).foldl (fun (q : Bool × JS) x => if q.1 then (!(atM g f q.2 b x.toNat).1, (atM g f q.2 b x.toNat).2) else q) (true, (s.1, s.2 ++ [keyO a b])))).1, ((rights g b).foldl (fun (q : Bool × JS) y => if q.1 then (!(atM g f q.2 y.toNat a).1, (atM g f q.2 y.toNat a).2) else q) ((lefts g a).foldl (fun (q : Bool × JS) x => if q.1 then (!(atM g f q.2 b x.toNat).1, (atM g f q.2 b x.toNat).2) else q) (true, (s.1, s.2 ++ [keyO a b])))).2.2)) := by
        simp only [atM, hk]
      rw [hA]
      clear hA
      have hla := lefts_len hg ha
      have hlb := lefts_len hg hb
      have pa := pos_at ha
      have pb := pos_at hb
      have ha1 : (a : Int) < (g.length : Int) := by omega
      have hb1 : (b : Int) < (g.length : Int) := by omega
      have hq0 : ∃ q0 : Bool × JS, q0 = (true, (s.1, s.2 ++ [keyO a b])) := ⟨_, rfl⟩
      obtain ⟨q0, hq0⟩ := hq0
      rw [← hq0]
      simp only [run0, run1, run2, run3, run4, run5, run6, run7, run8, run9, run10, run11, run12, run13, run14, run15, run16, run17, run18, run19, run20, run21, run22, reduceCtorEq, Nat.reduceEqDiff, Nat.reduceAdd, Nat.reduceSub, Nat.reduceLeDiff, indexAddrA, indexRefA, appendA, strA, Nat.reduceMul, Nat.zero_mul, Nat.reduceMod, Int.reduceEq, Int.reduceLT, Int.reduceLE, Nat.reduceLT, Nat.lt_irrefl, Nat.reduceBEq, tys0, tys1, tys2, tys3, tys4, tys5, tys6, tys7, tys8, tys9, tys10, tys11, tys12, tys13, tys14, tys15, tys16, tys17, tys18, tys19, tys20, tys21, tys22, tys23, Try.ntmps115, Try.results115, lookR, hk, Option.getD_none, hj1, pa, ha1, List.length_map, Int.toNat_natCast, Int.natCast_nonneg, List.getElem?_append_right, Nat.sub_self]
      refine AWp.loop_inv (ι := AtS) (fun p => ⟨[.ptr jb 0, .int .i64 a, .int .i64 b, .junk, .junk, .junk, .bool false, .ptr (jsL L0 mb s).length 0, .junk, .junk, .bool p.q.1, .junk, .junk, .junk, .junk, .junk, .junk, .junk, .junk, .junk, .junk, .junk, .junk, .junk, .junk, .junk, .junk, .junk, .junk, .junk, .junk, .junk, .junk, .junk, .junk, .junk, .sl false (ints (lefts g a)), .int .i64 (lefts g a).length, .int .i64 p.d.length, .junk, .junk, .junk, .junk, .junk, .junk, .junk, .junk, .junk, .junk, .junk, .junk, .junk, .junk, .junk, .junk, .junk, .junk, .junk, .junk, .junk, .junk, .junk, .junk, .junk, .junk, .junk, .junk, .junk, .junk, .junk, .junk, .junk, .junk, .junk, .junk, .junk, .junk, .junk, .junk, .junk], jsL L0 mb p.q.2⟩)
        (fun p => lefts g a = p.d ++ p.r ∧ p.q = p.d.foldl (fun (q : Bool × JS) x => if q.1 then (!(atM g f q.2 b x.toNat).1, (atM g f q.2 b x.toNat).2) else q) q0 ∧ MemOk g p.q.2.1 ∧ ∃ Y, p.q.2.2 = s.2 ++ keyO a b :: Y) (fun p => p.r.length) ⟨[], lefts g a, q0⟩ ⟨rfl, rfl, by rw [hq0]; exact hmo, [], by rw [hq0]⟩
        ⟨by rw [hq0]; simp only [List.length_nil, Int.natCast_zero]; repeat constructor, by rw [hq0]; exact hap⟩ ?_
      rintro ⟨d, r, q⟩ ⟨h1, h2, h3, Y, h4⟩
      refine W.sound hmix (E := []) ?_
      simp only at h1 h2 h3 h4
      have hJ2 : (jsL L0 mb q.2)[jb]? = some (.box 126 [.sl false (g.map posE), .map mb]) := jsL_old hj hne
      cases r with
      | cons x r =>
        obtain ⟨e1, e2, e5⟩ := int_split h1 hla.1
        have hx := lefts_lt hg (a := a) (x := x) (by rw [h1]; simp)
        obtain ⟨k, rfl⟩ := Int.eq_ofNat_of_zero_le hx.1
        cases hb2 : q.1
        · simp only [run0, run1, run2, run3, run4, run5, run6, run7, run8, run9, run10, run11, run12, run13, run14, run15, run16, run17, run18, run19, run20, run21, run22, reduceCtorEq, Nat.reduceEqDiff, Nat.reduceAdd, Nat.reduceSub, Nat.reduceLeDiff, indexAddrA, indexRefA, appendA, strA, Nat.reduceMul, Nat.zero_mul, Nat.reduceMod, Int.reduceEq, Int.reduceLT, Int.reduceLE, Nat.reduceLT, Nat.lt_irrefl, Nat.reduceBEq, tys0, tys1, tys2, tys3, tys4, tys5, tys6, tys7, tys8, tys9, tys10, tys11, tys12, tys13, tys14, tys15, tys16, tys17, tys18, tys19, tys20, tys21, tys22, tys23, Try.ntmps115, Try.results115, List.length_map, e1, e2, e5, hb2, Int.toNat_natCast, Int.natCast_nonneg]
          exact ⟨⟨d ++ [(k : Int)], r, q⟩, ⟨by simp [h1], by rw [List.foldl_append, ← h2]; simp [hb2], h3, Y, h4⟩, by simp, by simp only [List.length_append, List.length_cons, List.length_nil, hb2]; repeat constructor, rfl⟩
        · obtain ⟨_, m2, Z, m3⟩ := atM_law hg f q.2 b k hb (by omega) (by omega) h3
          simp only [run0, run1, run2, run3, run4, run5, run6, run7, run8, run9, run10, run11, run12, run13, run14, run15, run16, run17, run18, run19, run20, run21, run22, reduceCtorEq, Nat.reduceEqDiff, Nat.reduceAdd, Nat.reduceSub, Nat.reduceLeDiff, indexAddrA, indexRefA, appendA, strA, Nat.reduceMul, Nat.zero_mul, Nat.reduceMod, Int.reduceEq, Int.reduceLT, Int.reduceLE, Nat.reduceLT, Nat.lt_irrefl, Nat.reduceBEq, tys0, tys1, tys2, tys3, tys4, tys5, tys6, tys7, tys8, tys9, tys10, tys11, tys12, tys13, tys14, tys15, tys16, tys17, tys18, tys19, tys20, tys21, tys22, tys23, Try.ntmps115, Try.results115, List.length_map, e1, e2, hb2, Int.toNat_natCast, Int.natCast_nonneg]
          refine RunL.call rfl rfl rfl ok_f115 rfl (.inl rfl) (atMost_ok g hg hl f b k hb (by omega) (by omega) L0 jb mb q.2 hj hm hne h3) ?_
          simp only [run0, run1, run2, run3, run4, run5, run6, run7, run8, run9, run10, run11, run12, run13, run14, run15, run16, run17, run18, run19, run20, run21, run22, reduceCtorEq, Nat.reduceEqDiff, Nat.reduceAdd, Nat.reduceSub, Nat.reduceLeDiff, indexAddrA, indexRefA, appendA, strA, Nat.reduceMul, Nat.zero_mul, Nat.reduceMod, Int.reduceEq, Int.reduceLT, Int.reduceLE, Nat.reduceLT, Nat.lt_irrefl, Nat.reduceBEq, tys0, tys1, tys2, tys3, tys4, tys5, tys6, tys7, tys8, tys9, tys10, tys11, tys12, tys13, tys14, tys15, tys16, tys17, tys18, tys19, tys20, tys21, tys22, tys23, Try.ntmps115, Try.results115, e5]
          exact ⟨⟨d ++ [(k : Int)], r, (!(atM g f q.2 b k).1, (atM g f q.2 b k).2)⟩, ⟨by simp [h1], by rw [List.foldl_append, ← h2]; simp [hb2], m2, Y ++ keyO b k :: Z, by simp only [m3, h4, List.append_assoc, List.cons_append]⟩, by simp, by simp only [List.length_append, List.length_cons, List.length_nil]; repeat constructor, rfl⟩
      | nil =>
        have e1 := int_end h1
        have hd : d = lefts g a := by rw [h1, List.append_nil]
        subst hd
        rw [← h2]
        clear h1 h2
        simp only [run0, run1, run2, run3, run4, run5, run6, run7, run8, run9, run10, run11, run12, run13, run14, run15, run16, run17, run18, run19, run20, run21, run22, reduceCtorEq, Nat.reduceEqDiff, Nat.reduceAdd, Nat.reduceSub, Nat.reduceLeDiff, indexAddrA, indexRefA, appendA, strA, Nat.reduceMul, Nat.zero_mul, Nat.reduceMod, Int.reduceEq, Int.reduceLT, Int.reduceLE, Nat.reduceLT, Nat.lt_irrefl, Nat.reduceBEq, tys0, tys1, tys2, tys3, tys4, tys5, tys6, tys7, tys8, tys9, tys10, tys11, tys12, tys13, tys14, tys15, tys16, tys17, tys18, tys19, tys20, tys21, tys22, tys23, Try.ntmps115, Try.results115, List.length_map, e1, hJ2, pb, hb1, Int.toNat_natCast, Int.natCast_nonneg]
        refine AWp.loop_inv (ι := AtS) (fun p => ⟨[.ptr jb 0, .int .i64 a, .int .i64 b, .junk, .junk, .junk, .bool false, .ptr (jsL L0 mb s).length 0, .junk, .junk, .bool p.q.1, .junk, .junk, .junk, .junk, .junk, .junk, .junk, .junk, .junk, .junk, .junk, .junk, .junk, .junk, .junk, .junk, .junk, .junk, .junk, .junk, .junk, .junk, .junk, .junk, .junk, .junk, .junk, .junk, .junk, .junk, .junk, .junk, .junk, .junk, .junk, .junk, .junk, .junk, .junk, .junk, .junk, .junk, .junk, .junk, .junk, .junk, .junk, .sl false (ints (rights g b)), .int .i64 (rights g b).length, .int .i64 p.d.length, .junk, .junk, .junk, .junk, .junk, .junk, .junk, .junk, .junk, .junk, .junk, .junk, .junk, .junk, .junk, .junk, .junk, .junk, .junk], jsL L0 mb p.q.2⟩)
          (fun p => rights g b = p.d ++ p.r ∧ p.q = p.d.foldl (fun (q : Bool × JS) y => if q.1 then (!(atM g f q.2 y.toNat a).1, (atM g f q.2 y.toNat a).2) else q) q ∧ MemOk g p.q.2.1 ∧ ∃ Y, p.q.2.2 = s.2 ++ keyO a b :: Y) (fun p => p.r.length) ⟨[], rights g b, q⟩ ⟨rfl, rfl, h3, Y, h4⟩
          ⟨by simp only [List.length_nil, Int.natCast_zero]; repeat constructor, rfl⟩ ?_
        rintro ⟨d, r, p⟩ ⟨h1, h2, k3, Y2, k4⟩
        refine W.sound hmix (E := []) ?_
        simp only at h1 h2 k3 k4
        have hJ3 : (jsL L0 mb p.2)[jb]? = some (.box 126 [.sl false (g.map posE), .map mb]) := jsL_old hj hne
        cases r with
        | cons x r =>
          obtain ⟨e1, e2, e5⟩ := int_split h1 hlb.2
          have hx := rights_lt hg (a := b) (x := x) (by rw [h1]; simp)
          obtain ⟨k, rfl⟩ := Int.eq_ofNat_of_zero_le hx.1
          cases hb2 : p.1
          · simp only [run0, run1, run2, run3, run4, run5, run6, run7, run8, run9, run10, run11, run12, run13, run14, run15, run16, run17, run18, run19, run20, run21, run22, reduceCtorEq, Nat.reduceEqDiff, Nat.reduceAdd, Nat.reduceSub, Nat.reduceLeDiff, indexAddrA, indexRefA, appendA, strA, Nat.reduceMul, Nat.zero_mul, Nat.reduceMod, Int.reduceEq, Int.reduceLT, Int.reduceLE, Nat.reduceLT, Nat.lt_irrefl, Nat.reduceBEq, tys0, tys1, tys2, tys3, tys4, tys5, tys6, tys7, tys8, tys9, tys10, tys11, tys12, tys13, tys14, tys15, tys16, tys17, tys18, tys19, tys20, tys21, tys22, tys23, Try.ntmps115, Try.results115, List.length_map, e1, e2, e5, hb2, Int.toNat_natCast, Int.natCast_nonneg]
            exact ⟨⟨d ++ [(k : Int)], r, p⟩, ⟨by simp [h1], by rw [List.foldl_append, ← h2]; simp [hb2], k3, Y2, k4⟩, by simp, by simp only [List.length_append, List.length_cons, List.length_nil, hb2]; repeat constructor, rfl⟩
          · obtain ⟨_, m2, Z, m3⟩ := atM_law hg f p.2 k a (by omega) ha (by omega) k3
            simp only [run0, run1, run2, run3, run4, run5, run6, run7, run8, run9, run10, run11, run12, run13, run14, run15, run16, run17, run18, run19, run20, run21, run22, reduceCtorEq, Nat.reduceEqDiff, Nat.reduceAdd, Nat.reduceSub, Nat.reduceLeDiff, indexAddrA, indexRefA, appendA, strA, Nat.reduceMul, Nat.zero_mul, Nat.reduceMod, Int.reduceEq, Int.reduceLT, Int.reduceLE, Nat.reduceLT, Nat.lt_irrefl, Nat.reduceBEq, tys0, tys1, tys2, tys3, tys4, tys5, tys6, tys7, tys8, tys9, tys10, tys11, tys12, tys13, tys14, tys15, tys16, tys17, tys18, tys19, tys20, tys21, tys22, tys23, Try.ntmps115, Try.results115, List.length_map, e1, e2, hb2, Int.toNat_natCast, Int.natCast_nonneg]
            refine RunL.call rfl rfl rfl ok_f115 rfl (.inl rfl) (atMost_ok g hg hl f k a (by omega) ha (by omega) L0 jb mb p.2 hj hm hne k3) ?_
            simp only [run0, run1, run2, run3, run4, run5, run6, run7, run8, run9, run10, run11, run12, run13, run14, run15, run16, run17, run18, run19, run20, run21, run22, reduceCtorEq, Nat.reduceEqDiff, Nat.reduceAdd, Nat.reduceSub, Nat.reduceLeDiff, indexAddrA, indexRefA, appendA, strA, Nat.reduceMul, Nat.zero_mul, Nat.reduceMod, Int.reduceEq, Int.reduceLT, Int.reduceLE, Nat.reduceLT, Nat.lt_irrefl, Nat.reduceBEq, tys0, tys1, tys2, tys3, tys4, tys5, tys6, tys7, tys8, tys9, tys10, tys11, tys12, tys13, tys14, tys15, tys16, tys17, tys18, tys19, tys20, tys21, tys22, tys23, Try.ntmps115, Try.results115, e5]
            exact ⟨⟨d ++ [(k : Int)], r, (!(atM g f p.2 k a).1, (atM g f p.2 k a).2)⟩, ⟨by simp [h1], by rw [List.foldl_append, ← h2]; simp [hb2], m2, Y2 ++ keyO k a :: Z, by simp only [m3, k4, List.append_assoc, List.cons_append]⟩, by simp, by simp only [List.length_append, List.length_cons, List.length_nil]; repeat constructor, rfl⟩
        | nil =>
          have e1 := int_end h1
          have hd : d = rights g b := by rw [h1, List.append_nil]
          subst hd
          rw [← h2]
          have hkb : (jsL L0 mb p.2)[(jsL L0 mb s).length]? = some (keyO a b) := by
            rw [hlen]
            unfold jsL
            rw [List.getElem?_append_right (by simp), k4]
            simp
          simp only [keyO] at hkb
          have hM3 : (jsL L0 mb p.2)[mb]? = some (memO p.2.1) := jsL_map hm
          simp only [run0, run1, run2, run3, run4, run5, run6, run7, run8, run9, run10, run11, run12, run13, run14, run15, run16, run17, run18, run19, run20, run21, run22, reduceCtorEq, Nat.reduceEqDiff, Nat.reduceAdd, Nat.reduceSub, Nat.reduceLeDiff, indexAddrA, indexRefA, appendA, strA, Nat.reduceMul, Nat.zero_mul, Nat.reduceMod, Int.reduceEq, Int.reduceLT, Int.reduceLE, Nat.reduceLT, Nat.lt_irrefl, Nat.reduceBEq, tys0, tys1, tys2, tys3, tys4, tys5, tys6, tys7, tys8, tys9, tys10, tys11, tys12, tys13, tys14, tys15, tys16, tys17, tys18, tys19, tys20, tys21, tys22, tys23, Try.ntmps115, Try.results115, List.length_map, e1, hJ3, hkb]
          refine ⟨by kernel_rfl, ?_⟩
          refine RunL.put jT p.2.1 ((a : Int), (b : Int)) p.1 rfl rfl rfl rfl rfl hM3 Try.underlying124 (k3.map hl) hky rfl ?_
          simp only [run0, run1, run2, run3, run4, run5, run6, run7, run8, run9, run10, run11, run12, run13, run14, run15, run16, run17, run18, run19, run20, run21, run22, reduceCtorEq, Nat.reduceEqDiff, Nat.reduceAdd, Nat.reduceSub, Nat.reduceLeDiff, indexAddrA, indexRefA, appendA, strA, Nat.reduceMul, Nat.zero_mul, Nat.reduceMod, Int.reduceEq, Int.reduceLT, Int.reduceLE, Nat.reduceLT, Nat.lt_irrefl, Nat.reduceBEq, tys0, tys1, tys2, tys3, tys4, tys5, tys6, tys7, tys8, tys9, tys10, tys11, tys12, tys13, tys14, tys15, tys16, tys17, tys18, tys19, tys20, tys21, tys22, tys23, Try.ntmps115, Try.results115]
          exact Fin.own (jsL_set hm _) rfl

end Go.Proofs.Ytllcljajlemmaaa
/-
  A logic of values for Go's functions (part 24): a call that is lent what the caller owns, and that only reads it: it may come before or behind other reading steps.
-/
namespace Go.Proofs.Ytllcljajlemmaaa.K
set_option linter.unusedVariables false
set_option linter.unusedSimpArgs false
open Go Go.RowKit

theorem RunL.lendB {P : Program} {k : Oper → Knd} {ops : Array Oper} {K : St → Prop} {o : Oper} {rest : List Oper} {s : St} {f : FuncId} {args : Array Operand} {ats : Array TypeId} {r : AV} {xs ys : List AV}
    (hg : guardA ops s o = some true) (ho : o.op = .call { callee := .value (.func f), args := args, argTypes := ats }) (hf : okFn P f = true) (hkd : Knd.le .B (k o) = true) (hW : ∀ i, isW k i = false ∧ rowsAt k i = false)
    (h : Ct P f ys [] r []) (hx : args.toList.map s.ev = xs) (hy : ∀ X, VwL (s.L ++ X) xs ys) (hr : flatB r = true) (hk : R P k ops rest (s.put o.dst r) K) : RunL P k ops (o :: rest) s K := by
  refine .op ⟨.B, r, []⟩ hkd ⟨⟨fun _ h => (nomatch h), fun h => (nomatch h)⟩, fun s1 ha hL => ⟨by rw [agree_guard ha]; exact hg, ?_⟩⟩ (R.sound hk)
  obtain ⟨L0, X, hX, hlen, hS⟩ := hL
  have e0 : L0 = s.L := by
    apply List.ext_getElem?
    intro i
    obtain ⟨w1, w2⟩ := hW i
    rcases hS i w1 with e | ⟨e, _⟩
    · exact e
    · rw [w2] at e; cases e
  subst e0
  have he : args.toList.map s1.ev = xs := by
    rw [← hx]
    exact map_congr_ev fun x hx => agree_ev ha (by rw [ho]; simp [Op.operands, Call.operands]; exact .inr (by simpa using hx))
  have hc : Ct P f (args.toList.map s1.ev) s1.L r s1.L := by
    rw [he, hX]
    exact Ct.lend h (hy X) hr
  have := call_sound (P := P) (s := s1) ho hf hc
  exact this

end Go.Proofs.Ytllcljajlemmaaa.K
/-
  Games: how two positions are ordered: the program; the reference's table.
-/
namespace Go.Proofs.Ytllcljajlemmaaa
open Go K
set_option linter.unusedSimpArgs false
set_option linter.unusedVariables false
set_option maxHeartbeats 3200000
set_option maxRecDepth 8000

theorem newJudge_ok (g : List GP) (L : List AObj) : Ct Try.prog 59 [.sl false (g.map posE)] L (.ptr (L.length + 1) 0) (L ++ [memO [], .box 126 [.sl false (g.map posE), .map L.length]]) := by
  refine Ct.by_ hmix [] Try.func59 rfl ?_
  simp only [run0, run1, run2, run3, run4, run5, run6, run7, run8, run9, run10, run11, run12, run13, run14, run15, run16, run17, run18, run19, run20, run21, run22, reduceCtorEq, Nat.reduceEqDiff, Nat.reduceAdd, Nat.reduceSub, Nat.reduceLeDiff, indexAddrA, indexRefA, appendA, strA, Nat.reduceMul, Nat.zero_mul, Nat.reduceMod, Int.reduceEq, Int.reduceLT, Int.reduceLE, Nat.reduceLT, Nat.lt_irrefl, Nat.reduceBEq, tys0, tys1, tys2, tys3, tys4, tys5, tys6, tys7, tys8, tys9, tys10, tys11, tys12, tys13, tys14, tys15, tys16, tys17, tys18, tys19, tys20, tys21, tys22, tys23, Try.ntmps59, Try.results59]
  refine RunL.newMap 164 4 rfl rfl rfl ?_
  simp only [run0, run1, run2, run3, run4, run5, run6, run7, run8, run9, run10, run11, run12, run13, run14, run15, run16, run17, run18, run19, run20, run21, run22, reduceCtorEq, Nat.reduceEqDiff, Nat.reduceAdd, Nat.reduceSub, Nat.reduceLeDiff, indexAddrA, indexRefA, appendA, strA, Nat.reduceMul, Nat.zero_mul, Nat.reduceMod, Int.reduceEq, Int.reduceLT, Int.reduceLE, Nat.reduceLT, Nat.lt_irrefl, Nat.reduceBEq, tys0, tys1, tys2, tys3, tys4, tys5, tys6, tys7, tys8, tys9, tys10, tys11, tys12, tys13, tys14, tys15, tys16, tys17, tys18, tys19, tys20, tys21, tys22, tys23, Try.ntmps59, Try.results59]
  exact Fin.own (by simp [memO, mapO]) rfl

def ordI (x y : Bool) : Int := if x && y then 0 else if x then -1 else if y then 1 else 2
def cmpG (g : List GP) (a b : Nat) : Int := ordI (leG g a b) (leG g b a)
def cmpJ (g : List GP) (s : JS) (a b : Nat) : JS := (atM g (b + a + 1) (atM g (a + b + 1) s a b).2 b a).2
theorem cmpJ_law {g : List GP} (hg : GameOk g) {s : JS} {a b : Nat} (ha : a < g.length) (hb : b < g.length) (hm : MemOk g s.1) : MemOk g (cmpJ g s a b).1 := by
  obtain ⟨h1, h2, _⟩ := atM_law hg (a + b + 1) s a b ha hb (by omega) hm
  exact (atM_law hg (b + a + 1) _ b a hb ha (by omega) h2).2.1
theorem compareJ_ok (g : List GP) (hg : GameOk g) (hl : g.length ≤ 1048576) (a b : Nat) (ha : a < g.length) (hb : b < g.length) (L0 : List AObj) (jb mb : Nat) (s : JS)
    (hj : L0[jb]? = some (.box 126 [.sl false (g.map posE), .map mb])) (hm : mb < L0.length) (hne : mb ≠ jb) (hmo : MemOk g s.1) :
    Ct Try.prog 67 [.ptr jb 0, .int .i64 a, .int .i64 b] (jsL L0 mb s) (.int .i64 (cmpG g a b)) (jsL L0 mb (cmpJ g s a b)) := by
  obtain ⟨h1, h2, _⟩ := atM_law hg (a + b + 1) s a b ha hb (by omega) hmo
  obtain ⟨h3, h4, _⟩ := atM_law hg (b + a + 1) _ b a hb ha (by omega) h2
  have c1 := atMost_ok g hg hl (a + b + 1) a b ha hb (by omega) L0 jb mb s hj hm hne hmo
  have c2 := atMost_ok g hg hl (b + a + 1) b a hb ha (by omega) L0 jb mb _ hj hm hne h2
  rw [h1] at c1
  rw [h3] at c2
  refine Ct.by_ hmix [] Try.func67 rfl ?_
  simp only [run0, run1, run2, run3, run4, run5, run6, run7, run8, run9, run10, run11, run12, run13, run14, run15, run16, run17, run18, run19, run20, run21, run22, reduceCtorEq, Nat.reduceEqDiff, Nat.reduceAdd, Nat.reduceSub, Nat.reduceLeDiff, indexAddrA, indexRefA, appendA, strA, Nat.reduceMul, Nat.zero_mul, Nat.reduceMod, Int.reduceEq, Int.reduceLT, Int.reduceLE, Nat.reduceLT, Nat.lt_irrefl, Nat.reduceBEq, tys0, tys1, tys2, tys3, tys4, tys5, tys6, tys7, tys8, tys9, tys10, tys11, tys12, tys13, tys14, tys15, tys16, tys17, tys18, tys19, tys20, tys21, tys22, tys23, Try.ntmps67, Try.results67]
  refine RunL.call rfl rfl rfl ok_f115 rfl (.inl rfl) c1 ?_
  simp only [run0, run1, run2, run3, run4, run5, run6, run7, run8, run9, run10, run11, run12, run13, run14, run15, run16, run17, run18, run19, run20, run21, run22, reduceCtorEq, Nat.reduceEqDiff, Nat.reduceAdd, Nat.reduceSub, Nat.reduceLeDiff, indexAddrA, indexRefA, appendA, strA, Nat.reduceMul, Nat.zero_mul, Nat.reduceMod, Int.reduceEq, Int.reduceLT, Int.reduceLE, Nat.reduceLT, Nat.lt_irrefl, Nat.reduceBEq, tys0, tys1, tys2, tys3, tys4, tys5, tys6, tys7, tys8, tys9, tys10, tys11, tys12, tys13, tys14, tys15, tys16, tys17, tys18, tys19, tys20, tys21, tys22, tys23, Try.ntmps67, Try.results67]
  refine RunL.call rfl rfl rfl ok_f115 rfl (.inl rfl) c2 ?_
  unfold cmpG
  cases leG g a b <;> cases leG g b a <;> simp only [run0, run1, run2, run3, run4, run5, run6, run7, run8, run9, run10, run11, run12, run13, run14, run15, run16, run17, run18, run19, run20, run21, run22, reduceCtorEq, Nat.reduceEqDiff, Nat.reduceAdd, Nat.reduceSub, Nat.reduceLeDiff, indexAddrA, indexRefA, appendA, strA, Nat.reduceMul, Nat.zero_mul, Nat.reduceMod, Int.reduceEq, Int.reduceLT, Int.reduceLE, Nat.reduceLT, Nat.lt_irrefl, Nat.reduceBEq, tys0, tys1, tys2, tys3, tys4, tys5, tys6, tys7, tys8, tys9, tys10, tys11, tys12, tys13, tys14, tys15, tys16, tys17, tys18, tys19, tys20, tys21, tys22, tys23, Try.ntmps67, Try.results67] <;> exact Fin.own rfl rfl

def cmpR (g : List GP) (a b : Int) : AV := .tup [.int .i64 (if hasB g a && hasB g b then cmpG g a.toNat b.toNat else 0), .bool (hasB g a && hasB g b)]
theorem hasB_ok {g : List GP} {a : Int} (h : hasB g a = true) : gameB g = true ∧ ∃ k : Nat, a = (k : Int) ∧ k < g.length := by
  simp only [hasB, Bool.and_eq_true, inB, decide_eq_true_eq] at h
  obtain ⟨k, rfl⟩ := Int.eq_ofNat_of_zero_le h.2.1
  exact ⟨h.1, k, rfl, by omega⟩
theorem implCompareG_ok (g : List GP) (a b : Int) (hl : g.length ≤ 1048576) (hs : ∀ p ∈ g, smallP p) : Ct Try.prog 23 [.sl false (g.map posE), .int .i64 a, .int .i64 b] [] (cmpR g a b) [] := by
  have pg := posL_pure g
  refine Ct.by_ hmix [] Try.func23 rfl ?_
  simp only [run0, run1, run2, run3, run4, run5, run6, run7, run8, run9, run10, run11, run12, run13, run14, run15, run16, run17, run18, run19, run20, run21, run22, reduceCtorEq, Nat.reduceEqDiff, Nat.reduceAdd, Nat.reduceSub, Nat.reduceLeDiff, indexAddrA, indexRefA, appendA, strA, Nat.reduceMul, Nat.zero_mul, Nat.reduceMod, Int.reduceEq, Int.reduceLT, Int.reduceLE, Nat.reduceLT, Nat.lt_irrefl, Nat.reduceBEq, tys0, tys1, tys2, tys3, tys4, tys5, tys6, tys7, tys8, tys9, tys10, tys11, tys12, tys13, tys14, tys15, tys16, tys17, tys18, tys19, tys20, tys21, tys22, tys23, Try.ntmps23, Try.results23]
  refine RunL.callp rfl rfl ok_f66 (hasPosition_ok g a hl hs) (by simp only [pureL, pureB, pg, Bool.and_self]) rfl ?_
  cases h1 : hasB g a
  · simp only [run0, run1, run2, run3, run4, run5, run6, run7, run8, run9, run10, run11, run12, run13, run14, run15, run16, run17, run18, run19, run20, run21, run22, reduceCtorEq, Nat.reduceEqDiff, Nat.reduceAdd, Nat.reduceSub, Nat.reduceLeDiff, indexAddrA, indexRefA, appendA, strA, Nat.reduceMul, Nat.zero_mul, Nat.reduceMod, Int.reduceEq, Int.reduceLT, Int.reduceLE, Nat.reduceLT, Nat.lt_irrefl, Nat.reduceBEq, tys0, tys1, tys2, tys3, tys4, tys5, tys6, tys7, tys8, tys9, tys10, tys11, tys12, tys13, tys14, tys15, tys16, tys17, tys18, tys19, tys20, tys21, tys22, tys23, Try.ntmps23, Try.results23]
    exact Fin.eq (by simp [cmpR, h1]) rfl
  simp only [run0, run1, run2, run3, run4, run5, run6, run7, run8, run9, run10, run11, run12, run13, run14, run15, run16, run17, run18, run19, run20, run21, run22, reduceCtorEq, Nat.reduceEqDiff, Nat.reduceAdd, Nat.reduceSub, Nat.reduceLeDiff, indexAddrA, indexRefA, appendA, strA, Nat.reduceMul, Nat.zero_mul, Nat.reduceMod, Int.reduceEq, Int.reduceLT, Int.reduceLE, Nat.reduceLT, Nat.lt_irrefl, Nat.reduceBEq, tys0, tys1, tys2, tys3, tys4, tys5, tys6, tys7, tys8, tys9, tys10, tys11, tys12, tys13, tys14, tys15, tys16, tys17, tys18, tys19, tys20, tys21, tys22, tys23, Try.ntmps23, Try.results23]
  refine RunL.callp rfl rfl ok_f66 (hasPosition_ok g b hl hs) (by simp only [pureL, pureB, pg, Bool.and_self]) rfl ?_
  cases h2 : hasB g b
  · simp only [run0, run1, run2, run3, run4, run5, run6, run7, run8, run9, run10, run11, run12, run13, run14, run15, run16, run17, run18, run19, run20, run21, run22, reduceCtorEq, Nat.reduceEqDiff, Nat.reduceAdd, Nat.reduceSub, Nat.reduceLeDiff, indexAddrA, indexRefA, appendA, strA, Nat.reduceMul, Nat.zero_mul, Nat.reduceMod, Int.reduceEq, Int.reduceLT, Int.reduceLE, Nat.reduceLT, Nat.lt_irrefl, Nat.reduceBEq, tys0, tys1, tys2, tys3, tys4, tys5, tys6, tys7, tys8, tys9, tys10, tys11, tys12, tys13, tys14, tys15, tys16, tys17, tys18, tys19, tys20, tys21, tys22, tys23, Try.ntmps23, Try.results23]
    exact Fin.eq (by simp [cmpR, h1, h2]) rfl
  obtain ⟨hgb, a, rfl, ha⟩ := hasB_ok h1
  obtain ⟨_, b, rfl, hb⟩ := hasB_ok h2
  have hg := (gameB_ok hgb).1
  simp only [run0, run1, run2, run3, run4, run5, run6, run7, run8, run9, run10, run11, run12, run13, run14, run15, run16, run17, run18, run19, run20, run21, run22, reduceCtorEq, Nat.reduceEqDiff, Nat.reduceAdd, Nat.reduceSub, Nat.reduceLeDiff, indexAddrA, indexRefA, appendA, strA, Nat.reduceMul, Nat.zero_mul, Nat.reduceMod, Int.reduceEq, Int.reduceLT, Int.reduceLE, Nat.reduceLT, Nat.lt_irrefl, Nat.reduceBEq, tys0, tys1, tys2, tys3, tys4, tys5, tys6, tys7, tys8, tys9, tys10, tys11, tys12, tys13, tys14, tys15, tys16, tys17, tys18, tys19, tys20, tys21, tys22, tys23, Try.ntmps23, Try.results23]
  refine RunL.call rfl rfl rfl ok_f59 rfl (.inl rfl) (newJudge_ok g []) ?_
  simp only [run0, run1, run2, run3, run4, run5, run6, run7, run8, run9, run10, run11, run12, run13, run14, run15, run16, run17, run18, run19, run20, run21, run22, reduceCtorEq, Nat.reduceEqDiff, Nat.reduceAdd, Nat.reduceSub, Nat.reduceLeDiff, indexAddrA, indexRefA, appendA, strA, Nat.reduceMul, Nat.zero_mul, Nat.reduceMod, Int.reduceEq, Int.reduceLT, Int.reduceLE, Nat.reduceLT, Nat.lt_irrefl, Nat.reduceBEq, tys0, tys1, tys2, tys3, tys4, tys5, tys6, tys7, tys8, tys9, tys10, tys11, tys12, tys13, tys14, tys15, tys16, tys17, tys18, tys19, tys20, tys21, tys22, tys23, Try.ntmps23, Try.results23]
  have hc := compareJ_ok g hg hl a b ha hb [memO [], .box 126 [.sl false (g.map posE), .map 0]] 1 0 ([], []) rfl (by simp) (by omega) (MemOk.nil g)
  refine RunL.call rfl rfl rfl ok_f67 rfl (.inl rfl) hc ?_
  simp only [run0, run1, run2, run3, run4, run5, run6, run7, run8, run9, run10, run11, run12, run13, run14, run15, run16, run17, run18, run19, run20, run21, run22, reduceCtorEq, Nat.reduceEqDiff, Nat.reduceAdd, Nat.reduceSub, Nat.reduceLeDiff, indexAddrA, indexRefA, appendA, strA, Nat.reduceMul, Nat.zero_mul, Nat.reduceMod, Int.reduceEq, Int.reduceLT, Int.reduceLE, Nat.reduceLT, Nat.lt_irrefl, Nat.reduceBEq, tys0, tys1, tys2, tys3, tys4, tys5, tys6, tys7, tys8, tys9, tys10, tys11, tys12, tys13, tys14, tys15, tys16, tys17, tys18, tys19, tys20, tys21, tys22, tys23, Try.ntmps23, Try.results23]
  exact Fin.eq (by simp [cmpR, h1, h2]) rfl

/-! ### the reference's table -/
abbrev bools (l : List Bool) : List AV := l.map AV.bool
def rowV (l : List Bool) : AV := .sl false (bools l)
theorem bools_pure : ∀ l : List Bool, pureL (bools l) = true
  | [] => rfl
  | x :: r => by
    have := bools_pure r
    simp only [bools, List.map_cons, pureL, pureB, Bool.true_and] at this ⊢
    exact this
theorem rows_pure : ∀ t : List (List Bool), pureL (t.map rowV) = true
  | [] => rfl
  | x :: r => by simp only [List.map_cons, rowV, pureL, pureB, bools_pure, rows_pure r, Bool.and_self]
/-- An entry of a table. -/
def tbl (t : List (List Bool)) (a b : Nat) : Bool := (t.getD a []).getD b false
/-- All rows are so long. -/
def sqr (n : Nat) (t : List (List Bool)) : Prop := t.length = n ∧ ∀ r ∈ t, r.length = n
theorem tbl_row {n : Nat} {t : List (List Bool)} (h : sqr n t) {a : Nat} (ha : a < n) : ∃ r, t[a]? = some r ∧ r.length = n ∧ ∀ b, b < n → (bools r)[b]? = some (.bool (tbl t a b)) := by
  have hlt : a < t.length := by rw [h.1]; exact ha
  refine ⟨t[a], List.getElem?_eq_getElem hlt, h.2 _ (List.getElem_mem hlt), fun b hb => ?_⟩
  have hr := h.2 _ (List.getElem_mem hlt)
  have e : t.getD a [] = t[a] := by simp [List.getD_eq_getElem?_getD, hlt]
  unfold tbl
  rw [e, List.getD_eq_getElem?_getD, List.getElem?_map, List.getElem?_eq_getElem (by omega)]
  rfl
def shownB (g : List GP) (t : List (List Bool)) (a b : Nat) : Bool := (lefts g a).all (fun x => !tbl t b x.toNat) && (rights g b).all (fun y => !tbl t y.toNat a)
theorem gaShown_ok (g : List GP) (hg : GameOk g) (hl : g.length ≤ 1048576) (t : List (List Bool)) (ht : sqr g.length t) (a b : Nat) (ha : a < g.length) (hb : b < g.length) :
    Ct Try.prog 98 [.sl false (g.map posE), .sl false (t.map rowV), .int .i64 a, .int .i64 b] [] (.bool (shownB g t a b)) [] := by
  have hla := lefts_len hg ha
  have hlb := lefts_len hg hb
  have pa := pos_at ha
  have pb := pos_at hb
  have ha1 : (a : Int) < (g.length : Int) := by omega
  have hb1 : (b : Int) < (g.length : Int) := by omega
  have htl : t.length = g.length := ht.1
  obtain ⟨rb, rb1, rb2, rb3⟩ := tbl_row ht hb
  have rb4 : (t.map rowV)[b]? = some (.sl false (bools rb)) := by simp [rb1, rowV]
  refine Ct.by_ hmix [] Try.func98 rfl ?_
  simp only [run0, run1, run2, run3, run4, run5, run6, run7, run8, run9, run10, run11, run12, run13, run14, run15, run16, run17, run18, run19, run20, run21, run22, reduceCtorEq, Nat.reduceEqDiff, Nat.reduceAdd, Nat.reduceSub, Nat.reduceLeDiff, indexAddrA, indexRefA, appendA, strA, Nat.reduceMul, Nat.zero_mul, Nat.reduceMod, Int.reduceEq, Int.reduceLT, Int.reduceLE, Nat.reduceLT, Nat.lt_irrefl, Nat.reduceBEq, tys0, tys1, tys2, tys3, tys4, tys5, tys6, tys7, tys8, tys9, tys10, tys11, tys12, tys13, tys14, tys15, tys16, tys17, tys18, tys19, tys20, tys21, tys22, tys23, Try.ntmps98, Try.results98, pa, ha1, List.length_map, Int.toNat_natCast, Int.natCast_nonneg]
  refine AWp.loop_inv (ι := List Int × List Int) (fun p => ⟨[.sl false (g.map posE), .sl false (t.map rowV), .int .i64 a, .int .i64 b, .junk, .junk, .junk, .junk, .bool false, .junk, .junk, .junk, .junk, .junk, .junk, .junk, .junk, .sl false (ints (lefts g a)), .int .i64 (lefts g a).length, .int .i64 p.1.length, .junk, .junk, .junk, .junk, .junk, .junk, .junk, .junk, .junk, .junk, .junk, .junk, .junk, .junk, .junk, .junk, .junk, .junk, .junk, .junk, .junk, .junk, .junk, .junk, .junk, .junk, .junk, .junk, .junk], []⟩)
    (fun p => lefts g a = p.1 ++ p.2 ∧ p.1.all (fun x => !tbl t b x.toNat) = true) (fun p => p.2.length) ([], lefts g a) ⟨rfl, rfl⟩ ⟨by simp only [List.length_nil, Int.natCast_zero]; repeat constructor, rfl⟩ ?_
  rintro ⟨d, r⟩ ⟨h1, h2⟩
  refine W.sound hmix (E := []) ?_
  simp only at h1 h2
  cases r with
  | cons x r =>
    obtain ⟨e1, e2, e5⟩ := int_split h1 hla.1
    have hx := lefts_lt hg (a := a) (x := x) (by rw [h1]; simp)
    obtain ⟨k, rfl⟩ := Int.eq_ofNat_of_zero_le hx.1
    have hk := rb3 k (by omega)
    have hk1 : (k : Int) < (rb.length : Int) := by omega
    cases hv : tbl t b k
    · rw [hv] at hk
      simp only [run0, run1, run2, run3, run4, run5, run6, run7, run8, run9, run10, run11, run12, run13, run14, run15, run16, run17, run18, run19, run20, run21, run22, reduceCtorEq, Nat.reduceEqDiff, Nat.reduceAdd, Nat.reduceSub, Nat.reduceLeDiff, indexAddrA, indexRefA, appendA, strA, Nat.reduceMul, Nat.zero_mul, Nat.reduceMod, Int.reduceEq, Int.reduceLT, Int.reduceLE, Nat.reduceLT, Nat.lt_irrefl, Nat.reduceBEq, tys0, tys1, tys2, tys3, tys4, tys5, tys6, tys7, tys8, tys9, tys10, tys11, tys12, tys13, tys14, tys15, tys16, tys17, tys18, tys19, tys20, tys21, tys22, tys23, Try.ntmps98, Try.results98, List.length_map, e1, e2, e5, hb1, htl, rb4, hk, hk1, Int.toNat_natCast, Int.natCast_nonneg]
      exact ⟨(d ++ [(k : Int)], r), ⟨by simp [h1], by simp [List.all_append, h2, hv]⟩, by simp, by simp only [List.length_append, List.length_cons, List.length_nil]; repeat constructor⟩
    · rw [hv] at hk
      simp only [run0, run1, run2, run3, run4, run5, run6, run7, run8, run9, run10, run11, run12, run13, run14, run15, run16, run17, run18, run19, run20, run21, run22, reduceCtorEq, Nat.reduceEqDiff, Nat.reduceAdd, Nat.reduceSub, Nat.reduceLeDiff, indexAddrA, indexRefA, appendA, strA, Nat.reduceMul, Nat.zero_mul, Nat.reduceMod, Int.reduceEq, Int.reduceLT, Int.reduceLE, Nat.reduceLT, Nat.lt_irrefl, Nat.reduceBEq, tys0, tys1, tys2, tys3, tys4, tys5, tys6, tys7, tys8, tys9, tys10, tys11, tys12, tys13, tys14, tys15, tys16, tys17, tys18, tys19, tys20, tys21, tys22, tys23, Try.ntmps98, Try.results98, List.length_map, e1, e2, hb1, htl, rb4, hk, hk1, Int.toNat_natCast, Int.natCast_nonneg]
      exact Fin.eq (by unfold shownB; rw [h1]; simp [hv]) rfl
  | nil =>
    have e1 := int_end h1
    have hd : d = lefts g a := by rw [h1, List.append_nil]
    subst hd
    simp only [run0, run1, run2, run3, run4, run5, run6, run7, run8, run9, run10, run11, run12, run13, run14, run15, run16, run17, run18, run19, run20, run21, run22, reduceCtorEq, Nat.reduceEqDiff, Nat.reduceAdd, Nat.reduceSub, Nat.reduceLeDiff, indexAddrA, indexRefA, appendA, strA, Nat.reduceMul, Nat.zero_mul, Nat.reduceMod, Int.reduceEq, Int.reduceLT, Int.reduceLE, Nat.reduceLT, Nat.lt_irrefl, Nat.reduceBEq, tys0, tys1, tys2, tys3, tys4, tys5, tys6, tys7, tys8, tys9, tys10, tys11, tys12, tys13, tys14, tys15, tys16, tys17, tys18, tys19, tys20, tys21, tys22, tys23, Try.ntmps98, Try.results98, e1, pb, hb1, List.length_map, Int.toNat_natCast, Int.natCast_nonneg]
    refine AWp.loop_inv (ι := List Int × List Int) (fun p => ⟨[.sl false (g.map posE), .sl false (t.map rowV), .int .i64 a, .int .i64 b, .junk, .junk, .junk, .junk, .bool false, .junk, .junk, .junk, .junk, .junk, .junk, .junk, .junk, .junk, .junk, .junk, .junk, .junk, .junk, .junk, .junk, .junk, .junk, .junk, .junk, .junk, .junk, .junk, .junk, .junk, .junk, .sl false (ints (rights g b)), .int .i64 (rights g b).length, .int .i64 p.1.length, .junk, .junk, .junk, .junk, .junk, .junk, .junk, .junk, .junk, .junk, .junk], []⟩)
      (fun p => rights g b = p.1 ++ p.2 ∧ p.1.all (fun y => !tbl t y.toNat a) = true) (fun p => p.2.length) ([], rights g b) ⟨rfl, rfl⟩ ⟨by simp only [List.length_nil, Int.natCast_zero]; repeat constructor, rfl⟩ ?_
    rintro ⟨d, r⟩ ⟨k1, k2⟩
    refine W.sound hmix (E := []) ?_
    simp only at k1 k2
    cases r with
    | cons x r =>
      obtain ⟨e1, e2, e5⟩ := int_split k1 hlb.2
      have hx := rights_lt hg (a := b) (x := x) (by rw [k1]; simp)
      obtain ⟨k, rfl⟩ := Int.eq_ofNat_of_zero_le hx.1
      have hkl : k < g.length := by omega
      obtain ⟨rk, rk1, rk2, rk3⟩ := tbl_row ht hkl
      have rk4 : (t.map rowV)[k]? = some (.sl false (bools rk)) := by simp [rk1, rowV]
      have hk := rk3 a (by omega)
      have hk1 : (a : Int) < (rk.length : Int) := by omega
      have hk2 : (k : Int) < (g.length : Int) := by omega
      cases hv : tbl t k a
      · rw [hv] at hk
        simp only [run0, run1, run2, run3, run4, run5, run6, run7, run8, run9, run10, run11, run12, run13, run14, run15, run16, run17, run18, run19, run20, run21, run22, reduceCtorEq, Nat.reduceEqDiff, Nat.reduceAdd, Nat.reduceSub, Nat.reduceLeDiff, indexAddrA, indexRefA, appendA, strA, Nat.reduceMul, Nat.zero_mul, Nat.reduceMod, Int.reduceEq, Int.reduceLT, Int.reduceLE, Nat.reduceLT, Nat.lt_irrefl, Nat.reduceBEq, tys0, tys1, tys2, tys3, tys4, tys5, tys6, tys7, tys8, tys9, tys10, tys11, tys12, tys13, tys14, tys15, tys16, tys17, tys18, tys19, tys20, tys21, tys22, tys23, Try.ntmps98, Try.results98, List.length_map, e1, e2, e5, htl, rk4, hk, hk1, hk2, Int.toNat_natCast, Int.natCast_nonneg]
        exact ⟨(d ++ [(k : Int)], r), ⟨by simp [k1], by simp [List.all_append, k2, hv]⟩, by simp, by simp only [List.length_append, List.length_cons, List.length_nil]; repeat constructor⟩
      · rw [hv] at hk
        simp only [run0, run1, run2, run3, run4, run5, run6, run7, run8, run9, run10, run11, run12, run13, run14, run15, run16, run17, run18, run19, run20, run21, run22, reduceCtorEq, Nat.reduceEqDiff, Nat.reduceAdd, Nat.reduceSub, Nat.reduceLeDiff, indexAddrA, indexRefA, appendA, strA, Nat.reduceMul, Nat.zero_mul, Nat.reduceMod, Int.reduceEq, Int.reduceLT, Int.reduceLE, Nat.reduceLT, Nat.lt_irrefl, Nat.reduceBEq, tys0, tys1, tys2, tys3, tys4, tys5, tys6, tys7, tys8, tys9, tys10, tys11, tys12, tys13, tys14, tys15, tys16, tys17, tys18, tys19, tys20, tys21, tys22, tys23, Try.ntmps98, Try.results98, List.length_map, e1, e2, htl, rk4, hk, hk1, hk2, Int.toNat_natCast, Int.natCast_nonneg]
        exact Fin.eq (by unfold shownB; rw [k1]; simp [hv]) rfl
    | nil =>
      have e1 := int_end k1
      have hd : d = rights g b := by rw [k1, List.append_nil]
      subst hd
      simp only [run0, run1, run2, run3, run4, run5, run6, run7, run8, run9, run10, run11, run12, run13, run14, run15, run16, run17, run18, run19, run20, run21, run22, reduceCtorEq, Nat.reduceEqDiff, Nat.reduceAdd, Nat.reduceSub, Nat.reduceLeDiff, indexAddrA, indexRefA, appendA, strA, Nat.reduceMul, Nat.zero_mul, Nat.reduceMod, Int.reduceEq, Int.reduceLT, Int.reduceLE, Nat.reduceLT, Nat.lt_irrefl, Nat.reduceBEq, tys0, tys1, tys2, tys3, tys4, tys5, tys6, tys7, tys8, tys9, tys10, tys11, tys12, tys13, tys14, tys15, tys16, tys17, tys18, tys19, tys20, tys21, tys22, tys23, Try.ntmps98, Try.results98, e1, List.length_map]
      exact Fin.eq (by unfold shownB; rw [h2, k2]; rfl) rfl
theorem gaOrder_ok (n : Nat) (t : List (List Bool)) (ht : sqr n t) (a b : Nat) (ha : a < n) (hb : b < n) :
    Ct Try.prog 65 [.sl false (t.map rowV), .int .i64 a, .int .i64 b] [] (.int .i64 (ordI (tbl t a b) (tbl t b a))) [] := by
  have htl : t.length = n := ht.1
  obtain ⟨ra, ra1, ra2, ra3⟩ := tbl_row ht ha
  obtain ⟨rb, rb1, rb2, rb3⟩ := tbl_row ht hb
  have ra4 : (t.map rowV)[a]? = some (.sl false (bools ra)) := by simp [ra1, rowV]
  have rb4 : (t.map rowV)[b]? = some (.sl false (bools rb)) := by simp [rb1, rowV]
  have k1 := ra3 b hb
  have k2 := rb3 a ha
  have ha1 : (a : Int) < (n : Int) := by omega
  have hb1 : (b : Int) < (n : Int) := by omega
  refine Ct.by_ hmix [] Try.func65 rfl ?_
  generalize tbl t a b = x at *
  generalize tbl t b a = y at *
  cases x <;> cases y <;> simp only [run0, run1, run2, run3, run4, run5, run6, run7, run8, run9, run10, run11, run12, run13, run14, run15, run16, run17, run18, run19, run20, run21, run22, reduceCtorEq, Nat.reduceEqDiff, Nat.reduceAdd, Nat.reduceSub, Nat.reduceLeDiff, indexAddrA, indexRefA, appendA, strA, Nat.reduceMul, Nat.zero_mul, Nat.reduceMod, Int.reduceEq, Int.reduceLT, Int.reduceLE, Nat.reduceLT, Nat.lt_irrefl, Nat.reduceBEq, tys0, tys1, tys2, tys3, tys4, tys5, tys6, tys7, tys8, tys9, tys10, tys11, tys12, tys13, tys14, tys15, tys16, tys17, tys18, tys19, tys20, tys21, tys22, tys23, Try.ntmps65, Try.results65, List.length_map, htl, ra2, rb2, ra4, rb4, k1, k2, ha1, hb1, Int.toNat_natCast, Int.natCast_nonneg] <;> exact Fin.eq rfl rfl

end Go.Proofs.Ytllcljajlemmaaa
