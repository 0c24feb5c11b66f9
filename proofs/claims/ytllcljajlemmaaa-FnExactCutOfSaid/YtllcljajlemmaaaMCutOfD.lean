/-
  Texts joined in one: GS4, GS5, GS6.
-/
import Derived.Test.YtllcljajlemmaaaMCutOfC
/-
  The simplest number of a cut: the reference's function.
-/
namespace Go.Proofs.Ytllcljajlemmaaa
open Go K
set_option linter.unusedSimpArgs false
set_option linter.unusedVariables false
set_option maxHeartbeats 3200000
set_option maxRecDepth 8000

theorem cmpQ_ok (p q : Fr) : Ct Try.prog 78 [fr p.1 p.2, fr q.1 q.2] [] (.int .i64 (cmpQ p q)) [] := shCmp_ok p.1 p.2 q.1 q.2
theorem shMost_ok (o : Fr) (l : List Fr) (hl : (o :: l).length ≤ 1048576) : Ct Try.prog 124 [.sl false (frE o :: l.map frE)] [] (frE (mostF o l)) [] := by
  have e0 : ((o :: l).map frE)[(0 : Int).toNat]? = some (.agg [.int .i64 o.1, .int .i64 o.2]) := rfl
  rw [show frE o :: l.map frE = (o :: l).map frE from rfl]
  have hm : mostF o (o :: l) = mostF o l := by rw [mostF_cons]; split <;> rfl
  rw [← hm]
  generalize o :: l = m at *
  refine Ct.by_ hmix [] Try.func124 rfl ?_
  simp only [run0, run1, run2, run3, run4, run5, run6, run7, run8, run9, run10, run11, run12, run13, run14, run15, run16, run17, run18, run19, run20, run21, run22, reduceCtorEq, Nat.reduceEqDiff, Nat.reduceAdd, Nat.reduceSub, Nat.reduceLeDiff, indexAddrA, indexRefA, appendA, strA, Nat.reduceMul, Nat.zero_mul, Nat.reduceMod, Int.reduceEq, Int.reduceLT, Int.reduceLE, Nat.reduceLT, Nat.lt_irrefl, Nat.reduceBEq, tys0, tys1, tys2, tys3, tys4, tys5, tys6, tys7, tys8, tys9, tys10, tys11, tys12, tys13, tys14, tys15, tys16, tys17, tys18, tys19, tys20, tys21, tys22, tys23, Try.ntmps124, Try.results124, e0, List.length_map, Int.le_refl]
  refine AWp.loop_inv (ι := FxS × Fr) (fun q => ⟨[.sl false (m.map frE), .junk, .ptr 0 0, .ptr 1 0, .junk, .junk, .junk, .junk, .junk, .sl false (m.map frE), .int .i64 m.length, .int .i64 q.1.d.length, .junk, .junk, .junk, .junk, .junk, .junk, .junk, .junk, .junk, .junk], .box 42 [.int .i64 0, .int .i64 0] :: .box 42 [.int .i64 q.2.1, .int .i64 q.2.2] :: q.1.X⟩)
    (fun q => m = q.1.d ++ q.1.r ∧ mostF q.2 q.1.r = mostF o m) (fun q => q.1.r.length) (⟨[], m, []⟩, o) ⟨rfl, rfl⟩ ⟨by simp only [List.length_nil, Int.natCast_zero]; repeat constructor, rfl⟩ ?_
  rintro ⟨⟨d, r, X⟩, p⟩ ⟨ha, h2⟩
  refine W.sound hmix (E := []) ?_
  simp only at ha h2
  cases r with
  | nil =>
    have e1 := frs_end ha
    simp only [run0, run1, run2, run3, run4, run5, run6, run7, run8, run9, run10, run11, run12, run13, run14, run15, run16, run17, run18, run19, run20, run21, run22, reduceCtorEq, Nat.reduceEqDiff, Nat.reduceAdd, Nat.reduceSub, Nat.reduceLeDiff, indexAddrA, indexRefA, appendA, strA, Nat.reduceMul, Nat.zero_mul, Nat.reduceMod, Int.reduceEq, Int.reduceLT, Int.reduceLE, Nat.reduceLT, Nat.lt_irrefl, Nat.reduceBEq, tys0, tys1, tys2, tys3, tys4, tys5, tys6, tys7, tys8, tys9, tys10, tys11, tys12, tys13, tys14, tys15, tys16, tys17, tys18, tys19, tys20, tys21, tys22, tys23, Try.ntmps124, Try.results124, List.length_map, e1]
    exact Fin.eq (by rw [← h2]; rfl) rfl
  | cons e r =>
    obtain ⟨e1, e2, e5⟩ := frs_split ha hl
    have hc := cmpQ_ok e p
    simp only [fr] at hc
    rw [mostF_cons] at h2
    simp only [run0, run1, run2, run3, run4, run5, run6, run7, run8, run9, run10, run11, run12, run13, run14, run15, run16, run17, run18, run19, run20, run21, run22, reduceCtorEq, Nat.reduceEqDiff, Nat.reduceAdd, Nat.reduceSub, Nat.reduceLeDiff, indexAddrA, indexRefA, appendA, strA, Nat.reduceMul, Nat.zero_mul, Nat.reduceMod, Int.reduceEq, Int.reduceLT, Int.reduceLE, Nat.reduceLT, Nat.lt_irrefl, Nat.reduceBEq, tys0, tys1, tys2, tys3, tys4, tys5, tys6, tys7, tys8, tys9, tys10, tys11, tys12, tys13, tys14, tys15, tys16, tys17, tys18, tys19, tys20, tys21, tys22, tys23, Try.ntmps124, Try.results124, List.length_map, e1, e2, Int.toNat_natCast, Int.natCast_nonneg, List.getElem?_append_right, Nat.sub_self]
    refine RunL.callp rfl rfl ok_f78 (hc) (by first | rfl | simp only [pureL, pureB, Bool.and_self, Bool.and_true, Bool.true_and]) rfl ?_
    by_cases hp : 0 < cmpQ e p
    · rw [if_pos hp] at h2
      simp only [run0, run1, run2, run3, run4, run5, run6, run7, run8, run9, run10, run11, run12, run13, run14, run15, run16, run17, run18, run19, run20, run21, run22, reduceCtorEq, Nat.reduceEqDiff, Nat.reduceAdd, Nat.reduceSub, Nat.reduceLeDiff, indexAddrA, indexRefA, appendA, strA, Nat.reduceMul, Nat.zero_mul, Nat.reduceMod, Int.reduceEq, Int.reduceLT, Int.reduceLE, Nat.reduceLT, Nat.lt_irrefl, Nat.reduceBEq, tys0, tys1, tys2, tys3, tys4, tys5, tys6, tys7, tys8, tys9, tys10, tys11, tys12, tys13, tys14, tys15, tys16, tys17, tys18, tys19, tys20, tys21, tys22, tys23, Try.ntmps124, Try.results124, hp, e5]
      exact ⟨(⟨d ++ [e], r, _⟩, e), ⟨by simp [ha], h2⟩, by simp, by simp only [List.length_append, List.length_cons, List.length_nil]; repeat constructor, rfl⟩
    · rw [if_neg hp] at h2
      simp only [run0, run1, run2, run3, run4, run5, run6, run7, run8, run9, run10, run11, run12, run13, run14, run15, run16, run17, run18, run19, run20, run21, run22, reduceCtorEq, Nat.reduceEqDiff, Nat.reduceAdd, Nat.reduceSub, Nat.reduceLeDiff, indexAddrA, indexRefA, appendA, strA, Nat.reduceMul, Nat.zero_mul, Nat.reduceMod, Int.reduceEq, Int.reduceLT, Int.reduceLE, Nat.reduceLT, Nat.lt_irrefl, Nat.reduceBEq, tys0, tys1, tys2, tys3, tys4, tys5, tys6, tys7, tys8, tys9, tys10, tys11, tys12, tys13, tys14, tys15, tys16, tys17, tys18, tys19, tys20, tys21, tys22, tys23, Try.ntmps124, Try.results124, hp, e5]
      exact ⟨(⟨d ++ [e], r, _⟩, p), ⟨by simp [ha], h2⟩, by simp, by simp only [List.length_append, List.length_cons, List.length_nil]; repeat constructor, rfl⟩
theorem Vw_frs {L : List AObj} {id g n : Nat} {T : TypeId} {es : List AV} {l : List Fr} {o : Bool} (hL : L[id]? = some (.vec T 2 g es)) (he : es = l.map frE) (hn : n = l.length) : Vw L (.ref id [] g n) (.sl o (l.map frE)) := by
  subst he hn
  have := Vw.refPur (L := L) (id := id) (g := g) (n := l.length) (o := o) hL (by simp) (fun e he c hc => by
    obtain ⟨e', _, rfl⟩ := List.mem_map.1 he
    simp only [frE, AV.cells, List.mem_cons, List.not_mem_nil, or_false] at hc
    rcases hc with rfl | rfl <;> exact ⟨.of rfl, fun xs h => by cases h⟩)
  rwa [List.take_of_length_le (by simp)] at this
theorem shNegAll_ok (l : List Fr) (hl : l.length ≤ 1048576) : Ct Try.prog 126 [.sl false (l.map frE)] [] (.sl false ((l.map negF).map frE)) [] := by
  refine Ct.by_ hmix [] Try.func126 rfl ?_
  simp only [run0, run1, run2, run3, run4, run5, run6, run7, run8, run9, run10, run11, run12, run13, run14, run15, run16, run17, run18, run19, run20, run21, run22, reduceCtorEq, Nat.reduceEqDiff, Nat.reduceAdd, Nat.reduceSub, Nat.reduceLeDiff, indexAddrA, indexRefA, appendA, strA, Nat.reduceMul, Nat.zero_mul, Nat.reduceMod, Int.reduceEq, Int.reduceLT, Int.reduceLE, Nat.reduceLT, Nat.lt_irrefl, Nat.reduceBEq, tys0, tys1, tys2, tys3, tys4, tys5, tys6, tys7, tys8, tys9, tys10, tys11, tys12, tys13, tys14, tys15, tys16, tys17, tys18, tys19, tys20, tys21, tys22, tys23, Try.ntmps126, Try.results126, List.length_map]
  refine AWp.nil 3 42 2 rfl ?_
  refine AWp.loop_inv (ι := FxS) (fun q => ⟨[.sl false (l.map frE), .junk, nilV, .ref 0 [] q.d.length q.d.length, .junk, .junk, .sl false (l.map frE), .int .i64 l.length, .int .i64 q.d.length, .junk, .junk, .junk, .junk, .junk, .junk, .junk, .junk, .junk, .junk], .vec 42 2 q.d.length ((q.d.map negF).map frE) :: q.X⟩)
    (fun q => l = q.d ++ q.r) (fun q => q.r.length) ⟨[], l, []⟩ rfl ⟨by simp only [List.length_nil, Int.natCast_zero]; repeat constructor, rfl⟩ ?_
  rintro ⟨d, r, X⟩ ha
  refine W.sound hmix (E := []) ?_
  simp only at ha
  cases r with
  | nil =>
    have e1 := frs_end ha
    rw [List.append_nil] at ha
    subst ha
    simp only [run0, run1, run2, run3, run4, run5, run6, run7, run8, run9, run10, run11, run12, run13, run14, run15, run16, run17, run18, run19, run20, run21, run22, reduceCtorEq, Nat.reduceEqDiff, Nat.reduceAdd, Nat.reduceSub, Nat.reduceLeDiff, indexAddrA, indexRefA, appendA, strA, Nat.reduceMul, Nat.zero_mul, Nat.reduceMod, Int.reduceEq, Int.reduceLT, Int.reduceLE, Nat.reduceLT, Nat.lt_irrefl, Nat.reduceBEq, tys0, tys1, tys2, tys3, tys4, tys5, tys6, tys7, tys8, tys9, tys10, tys11, tys12, tys13, tys14, tys15, tys16, tys17, tys18, tys19, tys20, tys21, tys22, tys23, Try.ntmps126, Try.results126, List.length_map, e1]
    exact Fin.value (Vw_frs rfl rfl (by simp))
  | cons e r =>
    obtain ⟨e1, e2, e5⟩ := frs_split ha hl
    have hda : l.length = d.length + (r.length + 1) := by rw [ha]; simp
    have hc := shNeg_ok e.1 e.2
    simp only [fr] at hc
    have f3 : d.length + 1 ≤ 137438953472 := by omega
    have f4 := frs_noOwn (d.map negF)
    simp only [run0, run1, run2, run3, run4, run5, run6, run7, run8, run9, run10, run11, run12, run13, run14, run15, run16, run17, run18, run19, run20, run21, run22, reduceCtorEq, Nat.reduceEqDiff, Nat.reduceAdd, Nat.reduceSub, Nat.reduceLeDiff, indexAddrA, indexRefA, appendA, strA, Nat.reduceMul, Nat.zero_mul, Nat.reduceMod, Int.reduceEq, Int.reduceLT, Int.reduceLE, Nat.reduceLT, Nat.lt_irrefl, Nat.reduceBEq, tys0, tys1, tys2, tys3, tys4, tys5, tys6, tys7, tys8, tys9, tys10, tys11, tys12, tys13, tys14, tys15, tys16, tys17, tys18, tys19, tys20, tys21, tys22, tys23, Try.ntmps126, Try.results126, List.length_map, e1, e2, Int.toNat_natCast, Int.natCast_nonneg, List.getElem?_append_right, Nat.sub_self]
    refine RunL.callp rfl rfl ok_f125 (hc) (by first | rfl | simp only [pureL, pureB, Bool.and_self, Bool.and_true, Bool.true_and]) rfl ?_
    simp only [run0, run1, run2, run3, run4, run5, run6, run7, run8, run9, run10, run11, run12, run13, run14, run15, run16, run17, run18, run19, run20, run21, run22, reduceCtorEq, Nat.reduceEqDiff, Nat.reduceAdd, Nat.reduceSub, Nat.reduceLeDiff, indexAddrA, indexRefA, appendA, strA, Nat.reduceMul, Nat.zero_mul, Nat.reduceMod, Int.reduceEq, Int.reduceLT, Int.reduceLE, Nat.reduceLT, Nat.lt_irrefl, Nat.reduceBEq, tys0, tys1, tys2, tys3, tys4, tys5, tys6, tys7, tys8, tys9, tys10, tys11, tys12, tys13, tys14, tys15, tys16, tys17, tys18, tys19, tys20, tys21, tys22, tys23, Try.ntmps126, Try.results126, List.length_map, e5, f3, f4]
    exact ⟨⟨d ++ [e], r, X ++ [.box 42 [.int .i64 e.1, .int .i64 e.2]]⟩, by simp [ha], by simp, by simp only [List.length_append, List.length_cons, List.length_nil]; repeat constructor, by simp [frE, negF]⟩

/-! ### what the loop comes to -/
theorem bad_both {l r : List Fr} {x : Int} (hl : ∀ a ∈ l, FB a) (hr : ∀ a ∈ r, FB a) (hx : x.natAbs ≤ 50000000) (h1 : l.any (leB x) = true) (h2 : r.any (geB x) = true) : cutBad l r = true := by
  obtain ⟨a, ha, k1⟩ := List.any_eq_true.1 h1
  obtain ⟨b, hb, k2⟩ := List.any_eq_true.1 h2
  rcases no_between hx (cut_small l r).1 (hl a ha) (hr b hb) k1 k2 with h | h
  · simp only [cutBad, List.any_eq_true.2 ⟨a, ha, h⟩, Bool.true_or]
  · simp only [cutBad, List.any_eq_true.2 ⟨b, hb, h⟩, Bool.or_true]
structure SiS where
  n : Nat
  i : Wk
  s : Sw
  X : List AObj
structure SiI (l r : List Fr) (p : SiS) : Prop where
  size : p.i.word.size = p.n
  rl : Rl p.i p.s
  wj : Wj p.i
  zero : p.n = 0 → p.i.low = [] ∧ p.i.high = []
  run : wkRun (cutS l r) (21 - p.n) p.i = wkRun (cutS l r) 21 wk0
theorem SiI.start (l r : List Fr) : SiI l r ⟨0, wk0, sw0, []⟩ := ⟨rfl, ⟨at_zero, by decide, ⟨0, rfl⟩, rfl, rfl⟩, wj0, fun _ => ⟨rfl, rfl⟩, rfl⟩
theorem SiI.small {l r : List Fr} {p : SiS} (h : SiI l r p) (hn : p.n ≤ 20) : p.i.x.natAbs ≤ 50000000 := by
  have := h.rl.size
  have := h.size
  omega
theorem wkRun_succ (f : Int → Int) (k : Nat) (i : Wk) : wkRun f (k + 1) i = if f i.x = 0 ∨ i.word.size = 20 then { i with nums := i.nums ++ [i.x] } else if 0 < f i.x then wkRun f k ⟨i.nums ++ [i.x], i.word ++ plusB, i.low ++ [i.x], i.high, betw i.x (f i.x) (i.low ++ [i.x]) i.high⟩ else wkRun f k ⟨i.nums ++ [i.x], i.word ++ minusB, i.low, i.high ++ [i.x], betw i.x (f i.x) i.low (i.high ++ [i.x])⟩ := rfl
theorem SiI.stop {l r : List Fr} {p : SiS} (h : SiI l r p) (hn : p.n ≤ 20) (hs : cutS l r p.i.x = 0 ∨ p.n = 20) : cutX l r = p.i.x := by
  have h1 := h.run
  rw [show 21 - p.n = (20 - p.n) + 1 by omega] at h1
  rw [wkRun_succ (cutS l r) (20 - p.n) p.i] at h1
  rw [if_pos (by rw [h.size]; exact hs)] at h1
  unfold cutX
  rw [← h1]; simp
theorem SiI.none_ {l r : List Fr} {p : SiS} (h : SiI l r p) (hn : p.n ≤ 20) (h1 : l.any (leB p.i.x) = false) (h2 : r.any (geB p.i.x) = false) : simR l r = .tup [fr p.s.an p.s.ad, .bool true] := by
  have hx := h.stop hn (.inl (by simp [cutS, h1, h2]))
  have hb : cutBad l r = false := by simp [cutBad, hx, h1, h2]
  have hok := h.wj.ok (by rw [h.size]; exact hn)
  have ha := h.rl.at_
  simp only [simR, hb, hx, Bool.false_eq_true, if_false, Bool.not_false, frE, fr]
  unfold frN frD
  rw [if_pos hok, if_pos hok, ← ha.1, ← ha.2]
theorem SiI.up {l r : List Fr} {p : SiS} (h : SiI l r p) (hn : p.n ≤ 20) (h1 : l.any (leB p.i.x) = true) (X : List AObj) : swOk p.s true ∧ ((p.n = 20 ∧ cutBad l r = true) ∨ (p.n + 1 ≤ 20 ∧ SiI l r ⟨p.n + 1, stepP p.i, swStep p.s true, X⟩)) := by
  refine ⟨last_ok h.rl (by rw [h.size]; exact hn) true, ?_⟩
  by_cases h20 : p.n = 20
  · have hx := h.stop hn (.inr h20)
    exact .inl ⟨h20, by simp [cutBad, hx, h1]⟩
  · refine .inr ⟨by omega, ?_⟩
    obtain ⟨k1, k2⟩ := plus_rl h.rl (by rw [h.size]; omega)
    have hc : cutS l r p.i.x = 1 := by simp [cutS, h1]
    have hrun := h.run
    rw [show 21 - p.n = (21 - (p.n + 1)) + 1 by omega] at hrun
    rw [wkRun_succ (cutS l r) (21 - (p.n + 1)) p.i] at hrun
    rw [if_neg (by rw [h.size, hc]; omega), if_pos (by rw [hc]; omega), hc] at hrun
    exact ⟨by simp only [stepP, size_plus, h.size], k2, h.wj.plus (by rw [h.size]; omega) (fun e => (h.zero (by rw [← h.size]; exact e)).2), fun e => by simp at e, hrun⟩
theorem SiI.down {l r : List Fr} {p : SiS} (h : SiI l r p) (hn : p.n ≤ 20) (h1 : l.any (leB p.i.x) = false) (h2 : r.any (geB p.i.x) = true) (X : List AObj) : swOk p.s false ∧ ((p.n = 20 ∧ cutBad l r = true) ∨ (p.n + 1 ≤ 20 ∧ SiI l r ⟨p.n + 1, stepM p.i, swStep p.s false, X⟩)) := by
  refine ⟨last_ok h.rl (by rw [h.size]; exact hn) false, ?_⟩
  by_cases h20 : p.n = 20
  · have hx := h.stop hn (.inr h20)
    exact .inl ⟨h20, by simp [cutBad, hx, h2]⟩
  · refine .inr ⟨by omega, ?_⟩
    obtain ⟨k1, k2⟩ := minus_rl h.rl (by rw [h.size]; omega)
    have hc : cutS l r p.i.x = -1 := by simp [cutS, h1, h2]
    have hrun := h.run
    rw [show 21 - p.n = (21 - (p.n + 1)) + 1 by omega] at hrun
    rw [wkRun_succ (cutS l r) (21 - (p.n + 1)) p.i] at hrun
    rw [if_neg (by rw [h.size, hc]; omega), if_neg (by rw [hc]; omega), hc] at hrun
    exact ⟨by simp only [stepM, size_minus, h.size], k2, h.wj.minus (by rw [h.size]; omega) (fun e => (h.zero (by rw [← h.size]; exact e)).1), fun e => by simp at e, hrun⟩
theorem SiI.ge {l r : List Fr} {p : SiS} (h : SiI l r p) (hn : p.n ≤ 20) {o : Fr} {l' : List Fr} (hl : ∀ a ∈ o :: l', FB a) : (0 ≤ cmpQ (mostF o l') (p.s.an, p.s.ad)) ↔ (o :: l').any (leB p.i.x) = true := by
  have hx := h.small hn
  obtain ⟨h1, _⟩ := mostF_spec l' o (hl o (by simp)) (fun a ha => hl a (by simp [ha]))
  obtain ⟨b1, b2, b3, b4⟩ := hl _ h1
  rw [← up_any hx hl, side_le, decide_eq_true_eq]
  have := at_cmp (n := (mostF o l').1) (d := (mostF o l').2) h.rl.at_ hx (by omega) (by omega) (by omega)
  unfold cmpQ
  rw [this]
theorem SiI.le {l r : List Fr} {p : SiS} (h : SiI l r p) (hn : p.n ≤ 20) {o : Fr} {l' : List Fr} (hl : ∀ a ∈ o :: l', FB a) : (cmpQ (leastF o l') (p.s.an, p.s.ad) ≤ 0) ↔ (o :: l').any (geB p.i.x) = true := by
  have hx := h.small hn
  obtain ⟨h1, _⟩ := leastF_spec o l' hl
  obtain ⟨b1, b2, b3, b4⟩ := hl _ h1
  rw [← down_any hx hl, side_ge, decide_eq_true_eq]
  have := at_cmp (n := (leastF o l').1) (d := (leastF o l').2) h.rl.at_ hx (by omega) (by omega) (by omega)
  unfold cmpQ
  rw [this]

def swC (s : Sw) : List AV := [.int .i64 s.an, .int .i64 s.ad, .int .i64 s.ln, .int .i64 s.ld, .int .i64 s.hn, .int .i64 s.hd, .bool s.hasL, .bool s.hasH]
theorem shSimplest_nn  (hll : ([] : List Fr).length ≤ 1048576) (hrl : ([] : List Fr).length ≤ 1048576) (hl : ∀ a ∈ ([] : List Fr), FB a) (hr : ∀ a ∈ ([] : List Fr), FB a) : Ct Try.prog 80 [.sl false [], .sl false []] [] (simR ([] : List Fr) ([] : List Fr)) [] := by
  refine Ct.by_ hmix [] Try.func80 rfl ?_
  simp only [run0, run1, run2, run3, run4, run5, run6, run7, run8, run9, run10, run11, run12, run13, run14, run15, run16, run17, run18, run19, run20, run21, run22, reduceCtorEq, Nat.reduceEqDiff, Nat.reduceAdd, Nat.reduceSub, Nat.reduceLeDiff, indexAddrA, indexRefA, appendA, strA, Nat.reduceMul, Nat.zero_mul, Nat.reduceMod, Int.reduceEq, Int.reduceLT, Int.reduceLE, Nat.reduceLT, Nat.lt_irrefl, Nat.reduceBEq, tys0, tys1, tys2, tys3, tys4, tys5, tys6, tys7, tys8, tys9, tys10, tys11, tys12, tys13, tys14, tys15, tys16, tys17, tys18, tys19, tys20, tys21, tys22, tys23, Try.ntmps80, Try.results80, swV]
  refine RunL.callp rfl rfl ok_f123 (shStart_ok) (by first | rfl | simp only [pureL, pureB, Bool.and_self, Bool.and_true, Bool.true_and]) rfl ?_
  simp only [run0, run1, run2, run3, run4, run5, run6, run7, run8, run9, run10, run11, run12, run13, run14, run15, run16, run17, run18, run19, run20, run21, run22, reduceCtorEq, Nat.reduceEqDiff, Nat.reduceAdd, Nat.reduceSub, Nat.reduceLeDiff, indexAddrA, indexRefA, appendA, strA, Nat.reduceMul, Nat.zero_mul, Nat.reduceMod, Int.reduceEq, Int.reduceLT, Int.reduceLE, Nat.reduceLT, Nat.lt_irrefl, Nat.reduceBEq, tys0, tys1, tys2, tys3, tys4, tys5, tys6, tys7, tys8, tys9, tys10, tys11, tys12, tys13, tys14, tys15, tys16, tys17, tys18, tys19, tys20, tys21, tys22, tys23, Try.ntmps80, Try.results80, swV]
  refine AWp.loop_inv (ι := SiS) (fun p => ⟨[.sl false [], .sl false [], .junk, .junk, .ptr 0 0, .bool false, .ptr 1 0, .int .i64 p.n, .junk, .junk, .junk, .junk, .junk, .junk, .junk, .junk, .junk, .junk, .junk, .junk, .junk, .junk, .junk, .junk, .junk, .junk, .junk, .junk, .junk, .junk, .junk, .junk, .junk, .junk, .junk, .junk, .junk, .junk, .junk, .junk, .junk, .junk, .junk, .junk, .junk, .junk, .junk, .junk, .junk, .junk, .junk, .junk, .junk, .junk, .junk, .junk], .box 42 [.int .i64 0, .int .i64 0] :: .box 144 (swC p.s) :: p.X⟩)
    (fun p => (p.n = 21 ∧ cutBad ([] : List Fr) ([] : List Fr) = true) ∨ (p.n ≤ 20 ∧ SiI ([] : List Fr) ([] : List Fr) p)) (fun p => 21 - p.n) ⟨0, wk0, sw0, []⟩ (.inr ⟨by decide, SiI.start _ _⟩) ⟨by simp only [Int.natCast_zero]; repeat constructor, rfl⟩ ?_
  rintro p hI
  refine W.sound hmix (E := []) ?_
  rcases hI with ⟨hn, hbad⟩ | ⟨hn, hI⟩
  · have e1 : ¬ ((p.n : Int) ≤ 20) := by omega
    simp only [run0, run1, run2, run3, run4, run5, run6, run7, run8, run9, run10, run11, run12, run13, run14, run15, run16, run17, run18, run19, run20, run21, run22, reduceCtorEq, Nat.reduceEqDiff, Nat.reduceAdd, Nat.reduceSub, Nat.reduceLeDiff, indexAddrA, indexRefA, appendA, strA, Nat.reduceMul, Nat.zero_mul, Nat.reduceMod, Int.reduceEq, Int.reduceLT, Int.reduceLE, Nat.reduceLT, Nat.lt_irrefl, Nat.reduceBEq, tys0, tys1, tys2, tys3, tys4, tys5, tys6, tys7, tys8, tys9, tys10, tys11, tys12, tys13, tys14, tys15, tys16, tys17, tys18, tys19, tys20, tys21, tys22, tys23, Try.ntmps80, Try.results80, e1]
    exact Fin.eq (by simp [simR, hbad, frE]) rfl
  have e1 : (p.n : Int) ≤ 20 := by omega
  have e5 : IntKind.i64.wrap ((p.n : Int) + 1) = ((p.n + 1 : Nat) : Int) := by rw [i64_id (by omega) (by omega)]; simp
  have hx := hI.small hn
  simp only [run0, run1, run2, run3, run4, run5, run6, run7, run8, run9, run10, run11, run12, run13, run14, run15, run16, run17, run18, run19, run20, run21, run22, reduceCtorEq, Nat.reduceEqDiff, Nat.reduceAdd, Nat.reduceSub, Nat.reduceLeDiff, indexAddrA, indexRefA, appendA, strA, Nat.reduceMul, Nat.zero_mul, Nat.reduceMod, Int.reduceEq, Int.reduceLT, Int.reduceLE, Nat.reduceLT, Nat.lt_irrefl, Nat.reduceBEq, tys0, tys1, tys2, tys3, tys4, tys5, tys6, tys7, tys8, tys9, tys10, tys11, tys12, tys13, tys14, tys15, tys16, tys17, tys18, tys19, tys20, tys21, tys22, tys23, Try.ntmps80, Try.results80, swC, e1, List.length_map, Int.natCast_zero, Int.lt_irrefl]
  refine ⟨by kernel_rfl, ?_⟩
  refine ⟨by kernel_rfl, ?_⟩
  exact Fin.eq (by rw [hI.none_ hn rfl rfl]; rfl) rfl
theorem shSimplest_cn (o : Fr) (l : List Fr) (hll : (o :: l).length ≤ 1048576) (hrl : ([] : List Fr).length ≤ 1048576) (hl : ∀ a ∈ (o :: l), FB a) (hr : ∀ a ∈ ([] : List Fr), FB a) : Ct Try.prog 80 [.sl false (frE o :: l.map frE), .sl false []] [] (simR (o :: l) ([] : List Fr)) [] := by
  have pl : pureL (l.map frE) = true := frs_pure l
  have hlen : ((0 : Int) < ((l.length + 1 : Nat) : Int)) := by omega
  refine Ct.by_ hmix [] Try.func80 rfl ?_
  simp only [run0, run1, run2, run3, run4, run5, run6, run7, run8, run9, run10, run11, run12, run13, run14, run15, run16, run17, run18, run19, run20, run21, run22, reduceCtorEq, Nat.reduceEqDiff, Nat.reduceAdd, Nat.reduceSub, Nat.reduceLeDiff, indexAddrA, indexRefA, appendA, strA, Nat.reduceMul, Nat.zero_mul, Nat.reduceMod, Int.reduceEq, Int.reduceLT, Int.reduceLE, Nat.reduceLT, Nat.lt_irrefl, Nat.reduceBEq, tys0, tys1, tys2, tys3, tys4, tys5, tys6, tys7, tys8, tys9, tys10, tys11, tys12, tys13, tys14, tys15, tys16, tys17, tys18, tys19, tys20, tys21, tys22, tys23, Try.ntmps80, Try.results80, swV]
  refine RunL.callp rfl rfl ok_f123 (shStart_ok) (by first | rfl | simp only [pureL, pureB, Bool.and_self, Bool.and_true, Bool.true_and]) rfl ?_
  simp only [run0, run1, run2, run3, run4, run5, run6, run7, run8, run9, run10, run11, run12, run13, run14, run15, run16, run17, run18, run19, run20, run21, run22, reduceCtorEq, Nat.reduceEqDiff, Nat.reduceAdd, Nat.reduceSub, Nat.reduceLeDiff, indexAddrA, indexRefA, appendA, strA, Nat.reduceMul, Nat.zero_mul, Nat.reduceMod, Int.reduceEq, Int.reduceLT, Int.reduceLE, Nat.reduceLT, Nat.lt_irrefl, Nat.reduceBEq, tys0, tys1, tys2, tys3, tys4, tys5, tys6, tys7, tys8, tys9, tys10, tys11, tys12, tys13, tys14, tys15, tys16, tys17, tys18, tys19, tys20, tys21, tys22, tys23, Try.ntmps80, Try.results80, swV]
  refine AWp.loop_inv (ι := SiS) (fun p => ⟨[.sl false (frE o :: l.map frE), .sl false [], .junk, .junk, .ptr 0 0, .bool false, .ptr 1 0, .int .i64 p.n, .junk, .junk, .junk, .junk, .junk, .junk, .junk, .junk, .junk, .junk, .junk, .junk, .junk, .junk, .junk, .junk, .junk, .junk, .junk, .junk, .junk, .junk, .junk, .junk, .junk, .junk, .junk, .junk, .junk, .junk, .junk, .junk, .junk, .junk, .junk, .junk, .junk, .junk, .junk, .junk, .junk, .junk, .junk, .junk, .junk, .junk, .junk, .junk], .box 42 [.int .i64 0, .int .i64 0] :: .box 144 (swC p.s) :: p.X⟩)
    (fun p => (p.n = 21 ∧ cutBad (o :: l) ([] : List Fr) = true) ∨ (p.n ≤ 20 ∧ SiI (o :: l) ([] : List Fr) p)) (fun p => 21 - p.n) ⟨0, wk0, sw0, []⟩ (.inr ⟨by decide, SiI.start _ _⟩) ⟨by simp only [Int.natCast_zero]; repeat constructor, rfl⟩ ?_
  rintro p hI
  refine W.sound hmix (E := []) ?_
  rcases hI with ⟨hn, hbad⟩ | ⟨hn, hI⟩
  · have e1 : ¬ ((p.n : Int) ≤ 20) := by omega
    simp only [run0, run1, run2, run3, run4, run5, run6, run7, run8, run9, run10, run11, run12, run13, run14, run15, run16, run17, run18, run19, run20, run21, run22, reduceCtorEq, Nat.reduceEqDiff, Nat.reduceAdd, Nat.reduceSub, Nat.reduceLeDiff, indexAddrA, indexRefA, appendA, strA, Nat.reduceMul, Nat.zero_mul, Nat.reduceMod, Int.reduceEq, Int.reduceLT, Int.reduceLE, Nat.reduceLT, Nat.lt_irrefl, Nat.reduceBEq, tys0, tys1, tys2, tys3, tys4, tys5, tys6, tys7, tys8, tys9, tys10, tys11, tys12, tys13, tys14, tys15, tys16, tys17, tys18, tys19, tys20, tys21, tys22, tys23, Try.ntmps80, Try.results80, e1]
    exact Fin.eq (by simp [simR, hbad, frE]) rfl
  have e1 : (p.n : Int) ≤ 20 := by omega
  have e5 : IntKind.i64.wrap ((p.n : Int) + 1) = ((p.n + 1 : Nat) : Int) := by rw [i64_id (by omega) (by omega)]; simp
  have hx := hI.small hn
  have hge := hI.ge hn hl
  have hc1 := cmpQ_ok (mostF o l) (p.s.an, p.s.ad)
  simp only [fr, frE] at hc1
  rcases hU : (o :: l).any (leB p.i.x) with _ | _
  · have u1 : ¬ (0 ≤ cmpQ (mostF o l) (p.s.an, p.s.ad)) := (fun e => by rw [hge.1 e] at hU; cases hU)
    simp only [run0, run1, run2, run3, run4, run5, run6, run7, run8, run9, run10, run11, run12, run13, run14, run15, run16, run17, run18, run19, run20, run21, run22, reduceCtorEq, Nat.reduceEqDiff, Nat.reduceAdd, Nat.reduceSub, Nat.reduceLeDiff, indexAddrA, indexRefA, appendA, strA, Nat.reduceMul, Nat.zero_mul, Nat.reduceMod, Int.reduceEq, Int.reduceLT, Int.reduceLE, Nat.reduceLT, Nat.lt_irrefl, Nat.reduceBEq, tys0, tys1, tys2, tys3, tys4, tys5, tys6, tys7, tys8, tys9, tys10, tys11, tys12, tys13, tys14, tys15, tys16, tys17, tys18, tys19, tys20, tys21, tys22, tys23, Try.ntmps80, Try.results80, swC, e1, List.length_map, Int.natCast_zero, Int.lt_irrefl, hlen, u1]
    refine ⟨by kernel_rfl, ?_⟩
    refine RunL.callp rfl rfl ok_f124 (shMost_ok o l hll) (by simp only [pureL, pureB, frE, pl, Bool.and_self, Bool.and_true, Bool.true_and]) rfl ?_
    simp only [run0, run1, run2, run3, run4, run5, run6, run7, run8, run9, run10, run11, run12, run13, run14, run15, run16, run17, run18, run19, run20, run21, run22, reduceCtorEq, Nat.reduceEqDiff, Nat.reduceAdd, Nat.reduceSub, Nat.reduceLeDiff, indexAddrA, indexRefA, appendA, strA, Nat.reduceMul, Nat.zero_mul, Nat.reduceMod, Int.reduceEq, Int.reduceLT, Int.reduceLE, Nat.reduceLT, Nat.lt_irrefl, Nat.reduceBEq, tys0, tys1, tys2, tys3, tys4, tys5, tys6, tys7, tys8, tys9, tys10, tys11, tys12, tys13, tys14, tys15, tys16, tys17, tys18, tys19, tys20, tys21, tys22, tys23, Try.ntmps80, Try.results80, swC, frE]
    refine RunL.callp rfl rfl ok_f78 (hc1) (by first | rfl | simp only [pureL, pureB, Bool.and_self, Bool.and_true, Bool.true_and]) rfl ?_
    simp only [run0, run1, run2, run3, run4, run5, run6, run7, run8, run9, run10, run11, run12, run13, run14, run15, run16, run17, run18, run19, run20, run21, run22, reduceCtorEq, Nat.reduceEqDiff, Nat.reduceAdd, Nat.reduceSub, Nat.reduceLeDiff, indexAddrA, indexRefA, appendA, strA, Nat.reduceMul, Nat.zero_mul, Nat.reduceMod, Int.reduceEq, Int.reduceLT, Int.reduceLE, Nat.reduceLT, Nat.lt_irrefl, Nat.reduceBEq, tys0, tys1, tys2, tys3, tys4, tys5, tys6, tys7, tys8, tys9, tys10, tys11, tys12, tys13, tys14, tys15, tys16, tys17, tys18, tys19, tys20, tys21, tys22, tys23, Try.ntmps80, Try.results80, swC, e1, List.length_map, Int.natCast_zero, Int.lt_irrefl, hlen, u1]
    refine ⟨by kernel_rfl, ?_⟩
    exact Fin.eq (by rw [hI.none_ hn hU rfl]; rfl) rfl
  · have u1 : (0 ≤ cmpQ (mostF o l) (p.s.an, p.s.ad)) := hge.2 hU
    simp only [run0, run1, run2, run3, run4, run5, run6, run7, run8, run9, run10, run11, run12, run13, run14, run15, run16, run17, run18, run19, run20, run21, run22, reduceCtorEq, Nat.reduceEqDiff, Nat.reduceAdd, Nat.reduceSub, Nat.reduceLeDiff, indexAddrA, indexRefA, appendA, strA, Nat.reduceMul, Nat.zero_mul, Nat.reduceMod, Int.reduceEq, Int.reduceLT, Int.reduceLE, Nat.reduceLT, Nat.lt_irrefl, Nat.reduceBEq, tys0, tys1, tys2, tys3, tys4, tys5, tys6, tys7, tys8, tys9, tys10, tys11, tys12, tys13, tys14, tys15, tys16, tys17, tys18, tys19, tys20, tys21, tys22, tys23, Try.ntmps80, Try.results80, swC, e1, List.length_map, Int.natCast_zero, Int.lt_irrefl, hlen, u1]
    refine ⟨by kernel_rfl, ?_⟩
    refine RunL.callp rfl rfl ok_f124 (shMost_ok o l hll) (by simp only [pureL, pureB, frE, pl, Bool.and_self, Bool.and_true, Bool.true_and]) rfl ?_
    simp only [run0, run1, run2, run3, run4, run5, run6, run7, run8, run9, run10, run11, run12, run13, run14, run15, run16, run17, run18, run19, run20, run21, run22, reduceCtorEq, Nat.reduceEqDiff, Nat.reduceAdd, Nat.reduceSub, Nat.reduceLeDiff, indexAddrA, indexRefA, appendA, strA, Nat.reduceMul, Nat.zero_mul, Nat.reduceMod, Int.reduceEq, Int.reduceLT, Int.reduceLE, Nat.reduceLT, Nat.lt_irrefl, Nat.reduceBEq, tys0, tys1, tys2, tys3, tys4, tys5, tys6, tys7, tys8, tys9, tys10, tys11, tys12, tys13, tys14, tys15, tys16, tys17, tys18, tys19, tys20, tys21, tys22, tys23, Try.ntmps80, Try.results80, swC, frE]
    refine RunL.callp rfl rfl ok_f78 (hc1) (by first | rfl | simp only [pureL, pureB, Bool.and_self, Bool.and_true, Bool.true_and]) rfl ?_
    simp only [run0, run1, run2, run3, run4, run5, run6, run7, run8, run9, run10, run11, run12, run13, run14, run15, run16, run17, run18, run19, run20, run21, run22, reduceCtorEq, Nat.reduceEqDiff, Nat.reduceAdd, Nat.reduceSub, Nat.reduceLeDiff, indexAddrA, indexRefA, appendA, strA, Nat.reduceMul, Nat.zero_mul, Nat.reduceMod, Int.reduceEq, Int.reduceLT, Int.reduceLE, Nat.reduceLT, Nat.lt_irrefl, Nat.reduceBEq, tys0, tys1, tys2, tys3, tys4, tys5, tys6, tys7, tys8, tys9, tys10, tys11, tys12, tys13, tys14, tys15, tys16, tys17, tys18, tys19, tys20, tys21, tys22, tys23, Try.ntmps80, Try.results80, swC, e1, List.length_map, Int.natCast_zero, Int.lt_irrefl, hlen, u1]
    refine ⟨by kernel_rfl, ?_⟩
    obtain ⟨hok, hnx⟩ := hI.up hn hU p.X
    have hst := step_ok p.s true hok
    simp only [swV] at hst
    refine RunL.callp rfl rfl ok_f127 (hst) (by first | rfl | simp only [pureL, pureB, Bool.and_self, Bool.and_true, Bool.true_and]) rfl ?_
    simp only [run0, run1, run2, run3, run4, run5, run6, run7, run8, run9, run10, run11, run12, run13, run14, run15, run16, run17, run18, run19, run20, run21, run22, reduceCtorEq, Nat.reduceEqDiff, Nat.reduceAdd, Nat.reduceSub, Nat.reduceLeDiff, indexAddrA, indexRefA, appendA, strA, Nat.reduceMul, Nat.zero_mul, Nat.reduceMod, Int.reduceEq, Int.reduceLT, Int.reduceLE, Nat.reduceLT, Nat.lt_irrefl, Nat.reduceBEq, tys0, tys1, tys2, tys3, tys4, tys5, tys6, tys7, tys8, tys9, tys10, tys11, tys12, tys13, tys14, tys15, tys16, tys17, tys18, tys19, tys20, tys21, tys22, tys23, Try.ntmps80, Try.results80, swC, e5]
    rcases hnx with ⟨g1, g2⟩ | ⟨g1, g2⟩
    · exact ⟨⟨p.n + 1, p.i, swStep p.s true, p.X⟩, .inl ⟨by simp [g1], g2⟩, by simp only; omega, by repeat constructor, rfl⟩
    · exact ⟨⟨p.n + 1, stepP p.i, swStep p.s true, p.X⟩, .inr ⟨g1, g2⟩, by simp only; omega, by repeat constructor, rfl⟩
theorem shSimplest_nc (q : Fr) (r : List Fr) (hll : ([] : List Fr).length ≤ 1048576) (hrl : (q :: r).length ≤ 1048576) (hl : ∀ a ∈ ([] : List Fr), FB a) (hr : ∀ a ∈ (q :: r), FB a) : Ct Try.prog 80 [.sl false [], .sl false (frE q :: r.map frE)] [] (simR ([] : List Fr) (q :: r)) [] := by
  have pr : pureL (r.map frE) = true := frs_pure r
  have prn : pureL ((r.map negF).map frE) = true := frs_pure (r.map negF)
  have hlenr : ((0 : Int) < ((r.length + 1 : Nat) : Int)) := by omega
  refine Ct.by_ hmix [] Try.func80 rfl ?_
  simp only [run0, run1, run2, run3, run4, run5, run6, run7, run8, run9, run10, run11, run12, run13, run14, run15, run16, run17, run18, run19, run20, run21, run22, reduceCtorEq, Nat.reduceEqDiff, Nat.reduceAdd, Nat.reduceSub, Nat.reduceLeDiff, indexAddrA, indexRefA, appendA, strA, Nat.reduceMul, Nat.zero_mul, Nat.reduceMod, Int.reduceEq, Int.reduceLT, Int.reduceLE, Nat.reduceLT, Nat.lt_irrefl, Nat.reduceBEq, tys0, tys1, tys2, tys3, tys4, tys5, tys6, tys7, tys8, tys9, tys10, tys11, tys12, tys13, tys14, tys15, tys16, tys17, tys18, tys19, tys20, tys21, tys22, tys23, Try.ntmps80, Try.results80, swV]
  refine RunL.callp rfl rfl ok_f123 (shStart_ok) (by first | rfl | simp only [pureL, pureB, Bool.and_self, Bool.and_true, Bool.true_and]) rfl ?_
  simp only [run0, run1, run2, run3, run4, run5, run6, run7, run8, run9, run10, run11, run12, run13, run14, run15, run16, run17, run18, run19, run20, run21, run22, reduceCtorEq, Nat.reduceEqDiff, Nat.reduceAdd, Nat.reduceSub, Nat.reduceLeDiff, indexAddrA, indexRefA, appendA, strA, Nat.reduceMul, Nat.zero_mul, Nat.reduceMod, Int.reduceEq, Int.reduceLT, Int.reduceLE, Nat.reduceLT, Nat.lt_irrefl, Nat.reduceBEq, tys0, tys1, tys2, tys3, tys4, tys5, tys6, tys7, tys8, tys9, tys10, tys11, tys12, tys13, tys14, tys15, tys16, tys17, tys18, tys19, tys20, tys21, tys22, tys23, Try.ntmps80, Try.results80, swV]
  refine AWp.loop_inv (ι := SiS) (fun p => ⟨[.sl false [], .sl false (frE q :: r.map frE), .junk, .junk, .ptr 0 0, .bool false, .ptr 1 0, .int .i64 p.n, .junk, .junk, .junk, .junk, .junk, .junk, .junk, .junk, .junk, .junk, .junk, .junk, .junk, .junk, .junk, .junk, .junk, .junk, .junk, .junk, .junk, .junk, .junk, .junk, .junk, .junk, .junk, .junk, .junk, .junk, .junk, .junk, .junk, .junk, .junk, .junk, .junk, .junk, .junk, .junk, .junk, .junk, .junk, .junk, .junk, .junk, .junk, .junk], .box 42 [.int .i64 0, .int .i64 0] :: .box 144 (swC p.s) :: p.X⟩)
    (fun p => (p.n = 21 ∧ cutBad ([] : List Fr) (q :: r) = true) ∨ (p.n ≤ 20 ∧ SiI ([] : List Fr) (q :: r) p)) (fun p => 21 - p.n) ⟨0, wk0, sw0, []⟩ (.inr ⟨by decide, SiI.start _ _⟩) ⟨by simp only [Int.natCast_zero]; repeat constructor, rfl⟩ ?_
  rintro p hI
  refine W.sound hmix (E := []) ?_
  rcases hI with ⟨hn, hbad⟩ | ⟨hn, hI⟩
  · have e1 : ¬ ((p.n : Int) ≤ 20) := by omega
    simp only [run0, run1, run2, run3, run4, run5, run6, run7, run8, run9, run10, run11, run12, run13, run14, run15, run16, run17, run18, run19, run20, run21, run22, reduceCtorEq, Nat.reduceEqDiff, Nat.reduceAdd, Nat.reduceSub, Nat.reduceLeDiff, indexAddrA, indexRefA, appendA, strA, Nat.reduceMul, Nat.zero_mul, Nat.reduceMod, Int.reduceEq, Int.reduceLT, Int.reduceLE, Nat.reduceLT, Nat.lt_irrefl, Nat.reduceBEq, tys0, tys1, tys2, tys3, tys4, tys5, tys6, tys7, tys8, tys9, tys10, tys11, tys12, tys13, tys14, tys15, tys16, tys17, tys18, tys19, tys20, tys21, tys22, tys23, Try.ntmps80, Try.results80, e1]
    exact Fin.eq (by simp [simR, hbad, frE]) rfl
  have e1 : (p.n : Int) ≤ 20 := by omega
  have e5 : IntKind.i64.wrap ((p.n : Int) + 1) = ((p.n + 1 : Nat) : Int) := by rw [i64_id (by omega) (by omega)]; simp
  have hx := hI.small hn
  have hle := hI.le hn hr
  have hc2 := cmpQ_ok (leastF q r) (p.s.an, p.s.ad)
  have hng := shNeg_ok (mostF (negF q) (r.map negF)).1 (mostF (negF q) (r.map negF)).2
  have hmm := shMost_ok (negF q) (r.map negF) (by simpa using hrl)
  simp only [fr, frE] at hc2 hng hmm
  rcases hD : (q :: r).any (geB p.i.x) with _ | _
  · have d1 : ¬ (cmpQ (leastF q r) (p.s.an, p.s.ad) ≤ 0) := (fun e => by rw [hle.1 e] at hD; cases hD)
    simp only [run0, run1, run2, run3, run4, run5, run6, run7, run8, run9, run10, run11, run12, run13, run14, run15, run16, run17, run18, run19, run20, run21, run22, reduceCtorEq, Nat.reduceEqDiff, Nat.reduceAdd, Nat.reduceSub, Nat.reduceLeDiff, indexAddrA, indexRefA, appendA, strA, Nat.reduceMul, Nat.zero_mul, Nat.reduceMod, Int.reduceEq, Int.reduceLT, Int.reduceLE, Nat.reduceLT, Nat.lt_irrefl, Nat.reduceBEq, tys0, tys1, tys2, tys3, tys4, tys5, tys6, tys7, tys8, tys9, tys10, tys11, tys12, tys13, tys14, tys15, tys16, tys17, tys18, tys19, tys20, tys21, tys22, tys23, Try.ntmps80, Try.results80, swC, e1, List.length_map, Int.natCast_zero, Int.lt_irrefl, hlenr, d1]
    refine ⟨by kernel_rfl, ?_⟩
    refine ⟨by kernel_rfl, ?_⟩
    refine RunL.callp rfl rfl ok_f126 (shNegAll_ok (q :: r) hrl) (by simp only [List.map_cons, pureL, pureB, frE, pr, Bool.and_self, Bool.and_true, Bool.true_and]) rfl ?_
    simp only [run0, run1, run2, run3, run4, run5, run6, run7, run8, run9, run10, run11, run12, run13, run14, run15, run16, run17, run18, run19, run20, run21, run22, reduceCtorEq, Nat.reduceEqDiff, Nat.reduceAdd, Nat.reduceSub, Nat.reduceLeDiff, indexAddrA, indexRefA, appendA, strA, Nat.reduceMul, Nat.zero_mul, Nat.reduceMod, Int.reduceEq, Int.reduceLT, Int.reduceLE, Nat.reduceLT, Nat.lt_irrefl, Nat.reduceBEq, tys0, tys1, tys2, tys3, tys4, tys5, tys6, tys7, tys8, tys9, tys10, tys11, tys12, tys13, tys14, tys15, tys16, tys17, tys18, tys19, tys20, tys21, tys22, tys23, Try.ntmps80, Try.results80, swC, frE]
    refine RunL.callp rfl rfl ok_f124 hmm (by simp only [pureL, pureB, prn, Bool.and_self, Bool.and_true, Bool.true_and]) rfl ?_
    simp only [run0, run1, run2, run3, run4, run5, run6, run7, run8, run9, run10, run11, run12, run13, run14, run15, run16, run17, run18, run19, run20, run21, run22, reduceCtorEq, Nat.reduceEqDiff, Nat.reduceAdd, Nat.reduceSub, Nat.reduceLeDiff, indexAddrA, indexRefA, appendA, strA, Nat.reduceMul, Nat.zero_mul, Nat.reduceMod, Int.reduceEq, Int.reduceLT, Int.reduceLE, Nat.reduceLT, Nat.lt_irrefl, Nat.reduceBEq, tys0, tys1, tys2, tys3, tys4, tys5, tys6, tys7, tys8, tys9, tys10, tys11, tys12, tys13, tys14, tys15, tys16, tys17, tys18, tys19, tys20, tys21, tys22, tys23, Try.ntmps80, Try.results80, swC, frE]
    refine RunL.callp rfl rfl ok_f125 (hng) (by first | rfl | simp only [pureL, pureB, Bool.and_self, Bool.and_true, Bool.true_and]) rfl ?_
    simp only [run0, run1, run2, run3, run4, run5, run6, run7, run8, run9, run10, run11, run12, run13, run14, run15, run16, run17, run18, run19, run20, run21, run22, reduceCtorEq, Nat.reduceEqDiff, Nat.reduceAdd, Nat.reduceSub, Nat.reduceLeDiff, indexAddrA, indexRefA, appendA, strA, Nat.reduceMul, Nat.zero_mul, Nat.reduceMod, Int.reduceEq, Int.reduceLT, Int.reduceLE, Nat.reduceLT, Nat.lt_irrefl, Nat.reduceBEq, tys0, tys1, tys2, tys3, tys4, tys5, tys6, tys7, tys8, tys9, tys10, tys11, tys12, tys13, tys14, tys15, tys16, tys17, tys18, tys19, tys20, tys21, tys22, tys23, Try.ntmps80, Try.results80, swC]
    refine RunL.callp rfl rfl ok_f78 (hc2) (by first | rfl | simp only [pureL, pureB, Bool.and_self, Bool.and_true, Bool.true_and]) rfl ?_
    simp only [run0, run1, run2, run3, run4, run5, run6, run7, run8, run9, run10, run11, run12, run13, run14, run15, run16, run17, run18, run19, run20, run21, run22, reduceCtorEq, Nat.reduceEqDiff, Nat.reduceAdd, Nat.reduceSub, Nat.reduceLeDiff, indexAddrA, indexRefA, appendA, strA, Nat.reduceMul, Nat.zero_mul, Nat.reduceMod, Int.reduceEq, Int.reduceLT, Int.reduceLE, Nat.reduceLT, Nat.lt_irrefl, Nat.reduceBEq, tys0, tys1, tys2, tys3, tys4, tys5, tys6, tys7, tys8, tys9, tys10, tys11, tys12, tys13, tys14, tys15, tys16, tys17, tys18, tys19, tys20, tys21, tys22, tys23, Try.ntmps80, Try.results80, swC, e1, List.length_map, Int.natCast_zero, Int.lt_irrefl, hlenr, d1]
    exact Fin.eq (by rw [hI.none_ hn rfl hD]; rfl) rfl
  · have d1 : (cmpQ (leastF q r) (p.s.an, p.s.ad) ≤ 0) := hle.2 hD
    simp only [run0, run1, run2, run3, run4, run5, run6, run7, run8, run9, run10, run11, run12, run13, run14, run15, run16, run17, run18, run19, run20, run21, run22, reduceCtorEq, Nat.reduceEqDiff, Nat.reduceAdd, Nat.reduceSub, Nat.reduceLeDiff, indexAddrA, indexRefA, appendA, strA, Nat.reduceMul, Nat.zero_mul, Nat.reduceMod, Int.reduceEq, Int.reduceLT, Int.reduceLE, Nat.reduceLT, Nat.lt_irrefl, Nat.reduceBEq, tys0, tys1, tys2, tys3, tys4, tys5, tys6, tys7, tys8, tys9, tys10, tys11, tys12, tys13, tys14, tys15, tys16, tys17, tys18, tys19, tys20, tys21, tys22, tys23, Try.ntmps80, Try.results80, swC, e1, List.length_map, Int.natCast_zero, Int.lt_irrefl, hlenr, d1]
    refine ⟨by kernel_rfl, ?_⟩
    refine ⟨by kernel_rfl, ?_⟩
    refine RunL.callp rfl rfl ok_f126 (shNegAll_ok (q :: r) hrl) (by simp only [List.map_cons, pureL, pureB, frE, pr, Bool.and_self, Bool.and_true, Bool.true_and]) rfl ?_
    simp only [run0, run1, run2, run3, run4, run5, run6, run7, run8, run9, run10, run11, run12, run13, run14, run15, run16, run17, run18, run19, run20, run21, run22, reduceCtorEq, Nat.reduceEqDiff, Nat.reduceAdd, Nat.reduceSub, Nat.reduceLeDiff, indexAddrA, indexRefA, appendA, strA, Nat.reduceMul, Nat.zero_mul, Nat.reduceMod, Int.reduceEq, Int.reduceLT, Int.reduceLE, Nat.reduceLT, Nat.lt_irrefl, Nat.reduceBEq, tys0, tys1, tys2, tys3, tys4, tys5, tys6, tys7, tys8, tys9, tys10, tys11, tys12, tys13, tys14, tys15, tys16, tys17, tys18, tys19, tys20, tys21, tys22, tys23, Try.ntmps80, Try.results80, swC, frE]
    refine RunL.callp rfl rfl ok_f124 hmm (by simp only [pureL, pureB, prn, Bool.and_self, Bool.and_true, Bool.true_and]) rfl ?_
    simp only [run0, run1, run2, run3, run4, run5, run6, run7, run8, run9, run10, run11, run12, run13, run14, run15, run16, run17, run18, run19, run20, run21, run22, reduceCtorEq, Nat.reduceEqDiff, Nat.reduceAdd, Nat.reduceSub, Nat.reduceLeDiff, indexAddrA, indexRefA, appendA, strA, Nat.reduceMul, Nat.zero_mul, Nat.reduceMod, Int.reduceEq, Int.reduceLT, Int.reduceLE, Nat.reduceLT, Nat.lt_irrefl, Nat.reduceBEq, tys0, tys1, tys2, tys3, tys4, tys5, tys6, tys7, tys8, tys9, tys10, tys11, tys12, tys13, tys14, tys15, tys16, tys17, tys18, tys19, tys20, tys21, tys22, tys23, Try.ntmps80, Try.results80, swC, frE]
    refine RunL.callp rfl rfl ok_f125 (hng) (by first | rfl | simp only [pureL, pureB, Bool.and_self, Bool.and_true, Bool.true_and]) rfl ?_
    simp only [run0, run1, run2, run3, run4, run5, run6, run7, run8, run9, run10, run11, run12, run13, run14, run15, run16, run17, run18, run19, run20, run21, run22, reduceCtorEq, Nat.reduceEqDiff, Nat.reduceAdd, Nat.reduceSub, Nat.reduceLeDiff, indexAddrA, indexRefA, appendA, strA, Nat.reduceMul, Nat.zero_mul, Nat.reduceMod, Int.reduceEq, Int.reduceLT, Int.reduceLE, Nat.reduceLT, Nat.lt_irrefl, Nat.reduceBEq, tys0, tys1, tys2, tys3, tys4, tys5, tys6, tys7, tys8, tys9, tys10, tys11, tys12, tys13, tys14, tys15, tys16, tys17, tys18, tys19, tys20, tys21, tys22, tys23, Try.ntmps80, Try.results80, swC]
    refine RunL.callp rfl rfl ok_f78 (hc2) (by first | rfl | simp only [pureL, pureB, Bool.and_self, Bool.and_true, Bool.true_and]) rfl ?_
    simp only [run0, run1, run2, run3, run4, run5, run6, run7, run8, run9, run10, run11, run12, run13, run14, run15, run16, run17, run18, run19, run20, run21, run22, reduceCtorEq, Nat.reduceEqDiff, Nat.reduceAdd, Nat.reduceSub, Nat.reduceLeDiff, indexAddrA, indexRefA, appendA, strA, Nat.reduceMul, Nat.zero_mul, Nat.reduceMod, Int.reduceEq, Int.reduceLT, Int.reduceLE, Nat.reduceLT, Nat.lt_irrefl, Nat.reduceBEq, tys0, tys1, tys2, tys3, tys4, tys5, tys6, tys7, tys8, tys9, tys10, tys11, tys12, tys13, tys14, tys15, tys16, tys17, tys18, tys19, tys20, tys21, tys22, tys23, Try.ntmps80, Try.results80, swC, e1, List.length_map, Int.natCast_zero, Int.lt_irrefl, hlenr, d1]
    obtain ⟨hok, hnx⟩ := hI.down hn rfl hD p.X
    have hst := step_ok p.s false hok
    simp only [swV] at hst
    refine RunL.callp rfl rfl ok_f127 (hst) (by first | rfl | simp only [pureL, pureB, Bool.and_self, Bool.and_true, Bool.true_and]) rfl ?_
    simp only [run0, run1, run2, run3, run4, run5, run6, run7, run8, run9, run10, run11, run12, run13, run14, run15, run16, run17, run18, run19, run20, run21, run22, reduceCtorEq, Nat.reduceEqDiff, Nat.reduceAdd, Nat.reduceSub, Nat.reduceLeDiff, indexAddrA, indexRefA, appendA, strA, Nat.reduceMul, Nat.zero_mul, Nat.reduceMod, Int.reduceEq, Int.reduceLT, Int.reduceLE, Nat.reduceLT, Nat.lt_irrefl, Nat.reduceBEq, tys0, tys1, tys2, tys3, tys4, tys5, tys6, tys7, tys8, tys9, tys10, tys11, tys12, tys13, tys14, tys15, tys16, tys17, tys18, tys19, tys20, tys21, tys22, tys23, Try.ntmps80, Try.results80, swC, e5]
    rcases hnx with ⟨g1, g2⟩ | ⟨g1, g2⟩
    · exact ⟨⟨p.n + 1, p.i, swStep p.s false, p.X⟩, .inl ⟨by simp [g1], g2⟩, by simp only; omega, by repeat constructor, rfl⟩
    · exact ⟨⟨p.n + 1, stepM p.i, swStep p.s false, p.X⟩, .inr ⟨g1, g2⟩, by simp only; omega, by repeat constructor, rfl⟩
theorem shSimplest_cc (o : Fr) (l : List Fr) (q : Fr) (r : List Fr) (hll : (o :: l).length ≤ 1048576) (hrl : (q :: r).length ≤ 1048576) (hl : ∀ a ∈ (o :: l), FB a) (hr : ∀ a ∈ (q :: r), FB a) : Ct Try.prog 80 [.sl false (frE o :: l.map frE), .sl false (frE q :: r.map frE)] [] (simR (o :: l) (q :: r)) [] := by
  have pl : pureL (l.map frE) = true := frs_pure l
  have hlen : ((0 : Int) < ((l.length + 1 : Nat) : Int)) := by omega
  have pr : pureL (r.map frE) = true := frs_pure r
  have prn : pureL ((r.map negF).map frE) = true := frs_pure (r.map negF)
  have hlenr : ((0 : Int) < ((r.length + 1 : Nat) : Int)) := by omega
  refine Ct.by_ hmix [] Try.func80 rfl ?_
  simp only [run0, run1, run2, run3, run4, run5, run6, run7, run8, run9, run10, run11, run12, run13, run14, run15, run16, run17, run18, run19, run20, run21, run22, reduceCtorEq, Nat.reduceEqDiff, Nat.reduceAdd, Nat.reduceSub, Nat.reduceLeDiff, indexAddrA, indexRefA, appendA, strA, Nat.reduceMul, Nat.zero_mul, Nat.reduceMod, Int.reduceEq, Int.reduceLT, Int.reduceLE, Nat.reduceLT, Nat.lt_irrefl, Nat.reduceBEq, tys0, tys1, tys2, tys3, tys4, tys5, tys6, tys7, tys8, tys9, tys10, tys11, tys12, tys13, tys14, tys15, tys16, tys17, tys18, tys19, tys20, tys21, tys22, tys23, Try.ntmps80, Try.results80, swV]
  refine RunL.callp rfl rfl ok_f123 (shStart_ok) (by first | rfl | simp only [pureL, pureB, Bool.and_self, Bool.and_true, Bool.true_and]) rfl ?_
  simp only [run0, run1, run2, run3, run4, run5, run6, run7, run8, run9, run10, run11, run12, run13, run14, run15, run16, run17, run18, run19, run20, run21, run22, reduceCtorEq, Nat.reduceEqDiff, Nat.reduceAdd, Nat.reduceSub, Nat.reduceLeDiff, indexAddrA, indexRefA, appendA, strA, Nat.reduceMul, Nat.zero_mul, Nat.reduceMod, Int.reduceEq, Int.reduceLT, Int.reduceLE, Nat.reduceLT, Nat.lt_irrefl, Nat.reduceBEq, tys0, tys1, tys2, tys3, tys4, tys5, tys6, tys7, tys8, tys9, tys10, tys11, tys12, tys13, tys14, tys15, tys16, tys17, tys18, tys19, tys20, tys21, tys22, tys23, Try.ntmps80, Try.results80, swV]
  refine AWp.loop_inv (ι := SiS) (fun p => ⟨[.sl false (frE o :: l.map frE), .sl false (frE q :: r.map frE), .junk, .junk, .ptr 0 0, .bool false, .ptr 1 0, .int .i64 p.n, .junk, .junk, .junk, .junk, .junk, .junk, .junk, .junk, .junk, .junk, .junk, .junk, .junk, .junk, .junk, .junk, .junk, .junk, .junk, .junk, .junk, .junk, .junk, .junk, .junk, .junk, .junk, .junk, .junk, .junk, .junk, .junk, .junk, .junk, .junk, .junk, .junk, .junk, .junk, .junk, .junk, .junk, .junk, .junk, .junk, .junk, .junk, .junk], .box 42 [.int .i64 0, .int .i64 0] :: .box 144 (swC p.s) :: p.X⟩)
    (fun p => (p.n = 21 ∧ cutBad (o :: l) (q :: r) = true) ∨ (p.n ≤ 20 ∧ SiI (o :: l) (q :: r) p)) (fun p => 21 - p.n) ⟨0, wk0, sw0, []⟩ (.inr ⟨by decide, SiI.start _ _⟩) ⟨by simp only [Int.natCast_zero]; repeat constructor, rfl⟩ ?_
  rintro p hI
  refine W.sound hmix (E := []) ?_
  rcases hI with ⟨hn, hbad⟩ | ⟨hn, hI⟩
  · have e1 : ¬ ((p.n : Int) ≤ 20) := by omega
    simp only [run0, run1, run2, run3, run4, run5, run6, run7, run8, run9, run10, run11, run12, run13, run14, run15, run16, run17, run18, run19, run20, run21, run22, reduceCtorEq, Nat.reduceEqDiff, Nat.reduceAdd, Nat.reduceSub, Nat.reduceLeDiff, indexAddrA, indexRefA, appendA, strA, Nat.reduceMul, Nat.zero_mul, Nat.reduceMod, Int.reduceEq, Int.reduceLT, Int.reduceLE, Nat.reduceLT, Nat.lt_irrefl, Nat.reduceBEq, tys0, tys1, tys2, tys3, tys4, tys5, tys6, tys7, tys8, tys9, tys10, tys11, tys12, tys13, tys14, tys15, tys16, tys17, tys18, tys19, tys20, tys21, tys22, tys23, Try.ntmps80, Try.results80, e1]
    exact Fin.eq (by simp [simR, hbad, frE]) rfl
  have e1 : (p.n : Int) ≤ 20 := by omega
  have e5 : IntKind.i64.wrap ((p.n : Int) + 1) = ((p.n + 1 : Nat) : Int) := by rw [i64_id (by omega) (by omega)]; simp
  have hx := hI.small hn
  have hge := hI.ge hn hl
  have hc1 := cmpQ_ok (mostF o l) (p.s.an, p.s.ad)
  have hle := hI.le hn hr
  have hc2 := cmpQ_ok (leastF q r) (p.s.an, p.s.ad)
  have hng := shNeg_ok (mostF (negF q) (r.map negF)).1 (mostF (negF q) (r.map negF)).2
  have hmm := shMost_ok (negF q) (r.map negF) (by simpa using hrl)
  simp only [fr, frE] at hc1 hc2 hng hmm
  rcases hU : (o :: l).any (leB p.i.x) with _ | _
  · rcases hD : (q :: r).any (geB p.i.x) with _ | _
    · have u1 : ¬ (0 ≤ cmpQ (mostF o l) (p.s.an, p.s.ad)) := (fun e => by rw [hge.1 e] at hU; cases hU)
      have d1 : ¬ (cmpQ (leastF q r) (p.s.an, p.s.ad) ≤ 0) := (fun e => by rw [hle.1 e] at hD; cases hD)
      simp only [run0, run1, run2, run3, run4, run5, run6, run7, run8, run9, run10, run11, run12, run13, run14, run15, run16, run17, run18, run19, run20, run21, run22, reduceCtorEq, Nat.reduceEqDiff, Nat.reduceAdd, Nat.reduceSub, Nat.reduceLeDiff, indexAddrA, indexRefA, appendA, strA, Nat.reduceMul, Nat.zero_mul, Nat.reduceMod, Int.reduceEq, Int.reduceLT, Int.reduceLE, Nat.reduceLT, Nat.lt_irrefl, Nat.reduceBEq, tys0, tys1, tys2, tys3, tys4, tys5, tys6, tys7, tys8, tys9, tys10, tys11, tys12, tys13, tys14, tys15, tys16, tys17, tys18, tys19, tys20, tys21, tys22, tys23, Try.ntmps80, Try.results80, swC, e1, List.length_map, Int.natCast_zero, Int.lt_irrefl, hlen, hlenr, u1, d1]
      refine ⟨by kernel_rfl, ?_⟩
      refine RunL.callp rfl rfl ok_f124 (shMost_ok o l hll) (by simp only [pureL, pureB, frE, pl, Bool.and_self, Bool.and_true, Bool.true_and]) rfl ?_
      simp only [run0, run1, run2, run3, run4, run5, run6, run7, run8, run9, run10, run11, run12, run13, run14, run15, run16, run17, run18, run19, run20, run21, run22, reduceCtorEq, Nat.reduceEqDiff, Nat.reduceAdd, Nat.reduceSub, Nat.reduceLeDiff, indexAddrA, indexRefA, appendA, strA, Nat.reduceMul, Nat.zero_mul, Nat.reduceMod, Int.reduceEq, Int.reduceLT, Int.reduceLE, Nat.reduceLT, Nat.lt_irrefl, Nat.reduceBEq, tys0, tys1, tys2, tys3, tys4, tys5, tys6, tys7, tys8, tys9, tys10, tys11, tys12, tys13, tys14, tys15, tys16, tys17, tys18, tys19, tys20, tys21, tys22, tys23, Try.ntmps80, Try.results80, swC, frE]
      refine RunL.callp rfl rfl ok_f78 (hc1) (by first | rfl | simp only [pureL, pureB, Bool.and_self, Bool.and_true, Bool.true_and]) rfl ?_
      simp only [run0, run1, run2, run3, run4, run5, run6, run7, run8, run9, run10, run11, run12, run13, run14, run15, run16, run17, run18, run19, run20, run21, run22, reduceCtorEq, Nat.reduceEqDiff, Nat.reduceAdd, Nat.reduceSub, Nat.reduceLeDiff, indexAddrA, indexRefA, appendA, strA, Nat.reduceMul, Nat.zero_mul, Nat.reduceMod, Int.reduceEq, Int.reduceLT, Int.reduceLE, Nat.reduceLT, Nat.lt_irrefl, Nat.reduceBEq, tys0, tys1, tys2, tys3, tys4, tys5, tys6, tys7, tys8, tys9, tys10, tys11, tys12, tys13, tys14, tys15, tys16, tys17, tys18, tys19, tys20, tys21, tys22, tys23, Try.ntmps80, Try.results80, swC, e1, List.length_map, Int.natCast_zero, Int.lt_irrefl, hlen, hlenr, u1, d1]
      refine ⟨by kernel_rfl, ?_⟩
      refine RunL.callp rfl rfl ok_f126 (shNegAll_ok (q :: r) hrl) (by simp only [List.map_cons, pureL, pureB, frE, pr, Bool.and_self, Bool.and_true, Bool.true_and]) rfl ?_
      simp only [run0, run1, run2, run3, run4, run5, run6, run7, run8, run9, run10, run11, run12, run13, run14, run15, run16, run17, run18, run19, run20, run21, run22, reduceCtorEq, Nat.reduceEqDiff, Nat.reduceAdd, Nat.reduceSub, Nat.reduceLeDiff, indexAddrA, indexRefA, appendA, strA, Nat.reduceMul, Nat.zero_mul, Nat.reduceMod, Int.reduceEq, Int.reduceLT, Int.reduceLE, Nat.reduceLT, Nat.lt_irrefl, Nat.reduceBEq, tys0, tys1, tys2, tys3, tys4, tys5, tys6, tys7, tys8, tys9, tys10, tys11, tys12, tys13, tys14, tys15, tys16, tys17, tys18, tys19, tys20, tys21, tys22, tys23, Try.ntmps80, Try.results80, swC, frE]
      refine RunL.callp rfl rfl ok_f124 hmm (by simp only [pureL, pureB, prn, Bool.and_self, Bool.and_true, Bool.true_and]) rfl ?_
      simp only [run0, run1, run2, run3, run4, run5, run6, run7, run8, run9, run10, run11, run12, run13, run14, run15, run16, run17, run18, run19, run20, run21, run22, reduceCtorEq, Nat.reduceEqDiff, Nat.reduceAdd, Nat.reduceSub, Nat.reduceLeDiff, indexAddrA, indexRefA, appendA, strA, Nat.reduceMul, Nat.zero_mul, Nat.reduceMod, Int.reduceEq, Int.reduceLT, Int.reduceLE, Nat.reduceLT, Nat.lt_irrefl, Nat.reduceBEq, tys0, tys1, tys2, tys3, tys4, tys5, tys6, tys7, tys8, tys9, tys10, tys11, tys12, tys13, tys14, tys15, tys16, tys17, tys18, tys19, tys20, tys21, tys22, tys23, Try.ntmps80, Try.results80, swC, frE]
      refine RunL.callp rfl rfl ok_f125 (hng) (by first | rfl | simp only [pureL, pureB, Bool.and_self, Bool.and_true, Bool.true_and]) rfl ?_
      simp only [run0, run1, run2, run3, run4, run5, run6, run7, run8, run9, run10, run11, run12, run13, run14, run15, run16, run17, run18, run19, run20, run21, run22, reduceCtorEq, Nat.reduceEqDiff, Nat.reduceAdd, Nat.reduceSub, Nat.reduceLeDiff, indexAddrA, indexRefA, appendA, strA, Nat.reduceMul, Nat.zero_mul, Nat.reduceMod, Int.reduceEq, Int.reduceLT, Int.reduceLE, Nat.reduceLT, Nat.lt_irrefl, Nat.reduceBEq, tys0, tys1, tys2, tys3, tys4, tys5, tys6, tys7, tys8, tys9, tys10, tys11, tys12, tys13, tys14, tys15, tys16, tys17, tys18, tys19, tys20, tys21, tys22, tys23, Try.ntmps80, Try.results80, swC]
      refine RunL.callp rfl rfl ok_f78 (hc2) (by first | rfl | simp only [pureL, pureB, Bool.and_self, Bool.and_true, Bool.true_and]) rfl ?_
      simp only [run0, run1, run2, run3, run4, run5, run6, run7, run8, run9, run10, run11, run12, run13, run14, run15, run16, run17, run18, run19, run20, run21, run22, reduceCtorEq, Nat.reduceEqDiff, Nat.reduceAdd, Nat.reduceSub, Nat.reduceLeDiff, indexAddrA, indexRefA, appendA, strA, Nat.reduceMul, Nat.zero_mul, Nat.reduceMod, Int.reduceEq, Int.reduceLT, Int.reduceLE, Nat.reduceLT, Nat.lt_irrefl, Nat.reduceBEq, tys0, tys1, tys2, tys3, tys4, tys5, tys6, tys7, tys8, tys9, tys10, tys11, tys12, tys13, tys14, tys15, tys16, tys17, tys18, tys19, tys20, tys21, tys22, tys23, Try.ntmps80, Try.results80, swC, e1, List.length_map, Int.natCast_zero, Int.lt_irrefl, hlen, hlenr, u1, d1]
      exact Fin.eq (by rw [hI.none_ hn hU hD]; rfl) rfl
    · have u1 : ¬ (0 ≤ cmpQ (mostF o l) (p.s.an, p.s.ad)) := (fun e => by rw [hge.1 e] at hU; cases hU)
      have d1 : (cmpQ (leastF q r) (p.s.an, p.s.ad) ≤ 0) := hle.2 hD
      simp only [run0, run1, run2, run3, run4, run5, run6, run7, run8, run9, run10, run11, run12, run13, run14, run15, run16, run17, run18, run19, run20, run21, run22, reduceCtorEq, Nat.reduceEqDiff, Nat.reduceAdd, Nat.reduceSub, Nat.reduceLeDiff, indexAddrA, indexRefA, appendA, strA, Nat.reduceMul, Nat.zero_mul, Nat.reduceMod, Int.reduceEq, Int.reduceLT, Int.reduceLE, Nat.reduceLT, Nat.lt_irrefl, Nat.reduceBEq, tys0, tys1, tys2, tys3, tys4, tys5, tys6, tys7, tys8, tys9, tys10, tys11, tys12, tys13, tys14, tys15, tys16, tys17, tys18, tys19, tys20, tys21, tys22, tys23, Try.ntmps80, Try.results80, swC, e1, List.length_map, Int.natCast_zero, Int.lt_irrefl, hlen, hlenr, u1, d1]
      refine ⟨by kernel_rfl, ?_⟩
      refine RunL.callp rfl rfl ok_f124 (shMost_ok o l hll) (by simp only [pureL, pureB, frE, pl, Bool.and_self, Bool.and_true, Bool.true_and]) rfl ?_
      simp only [run0, run1, run2, run3, run4, run5, run6, run7, run8, run9, run10, run11, run12, run13, run14, run15, run16, run17, run18, run19, run20, run21, run22, reduceCtorEq, Nat.reduceEqDiff, Nat.reduceAdd, Nat.reduceSub, Nat.reduceLeDiff, indexAddrA, indexRefA, appendA, strA, Nat.reduceMul, Nat.zero_mul, Nat.reduceMod, Int.reduceEq, Int.reduceLT, Int.reduceLE, Nat.reduceLT, Nat.lt_irrefl, Nat.reduceBEq, tys0, tys1, tys2, tys3, tys4, tys5, tys6, tys7, tys8, tys9, tys10, tys11, tys12, tys13, tys14, tys15, tys16, tys17, tys18, tys19, tys20, tys21, tys22, tys23, Try.ntmps80, Try.results80, swC, frE]
      refine RunL.callp rfl rfl ok_f78 (hc1) (by first | rfl | simp only [pureL, pureB, Bool.and_self, Bool.and_true, Bool.true_and]) rfl ?_
      simp only [run0, run1, run2, run3, run4, run5, run6, run7, run8, run9, run10, run11, run12, run13, run14, run15, run16, run17, run18, run19, run20, run21, run22, reduceCtorEq, Nat.reduceEqDiff, Nat.reduceAdd, Nat.reduceSub, Nat.reduceLeDiff, indexAddrA, indexRefA, appendA, strA, Nat.reduceMul, Nat.zero_mul, Nat.reduceMod, Int.reduceEq, Int.reduceLT, Int.reduceLE, Nat.reduceLT, Nat.lt_irrefl, Nat.reduceBEq, tys0, tys1, tys2, tys3, tys4, tys5, tys6, tys7, tys8, tys9, tys10, tys11, tys12, tys13, tys14, tys15, tys16, tys17, tys18, tys19, tys20, tys21, tys22, tys23, Try.ntmps80, Try.results80, swC, e1, List.length_map, Int.natCast_zero, Int.lt_irrefl, hlen, hlenr, u1, d1]
      refine ⟨by kernel_rfl, ?_⟩
      refine RunL.callp rfl rfl ok_f126 (shNegAll_ok (q :: r) hrl) (by simp only [List.map_cons, pureL, pureB, frE, pr, Bool.and_self, Bool.and_true, Bool.true_and]) rfl ?_
      simp only [run0, run1, run2, run3, run4, run5, run6, run7, run8, run9, run10, run11, run12, run13, run14, run15, run16, run17, run18, run19, run20, run21, run22, reduceCtorEq, Nat.reduceEqDiff, Nat.reduceAdd, Nat.reduceSub, Nat.reduceLeDiff, indexAddrA, indexRefA, appendA, strA, Nat.reduceMul, Nat.zero_mul, Nat.reduceMod, Int.reduceEq, Int.reduceLT, Int.reduceLE, Nat.reduceLT, Nat.lt_irrefl, Nat.reduceBEq, tys0, tys1, tys2, tys3, tys4, tys5, tys6, tys7, tys8, tys9, tys10, tys11, tys12, tys13, tys14, tys15, tys16, tys17, tys18, tys19, tys20, tys21, tys22, tys23, Try.ntmps80, Try.results80, swC, frE]
      refine RunL.callp rfl rfl ok_f124 hmm (by simp only [pureL, pureB, prn, Bool.and_self, Bool.and_true, Bool.true_and]) rfl ?_
      simp only [run0, run1, run2, run3, run4, run5, run6, run7, run8, run9, run10, run11, run12, run13, run14, run15, run16, run17, run18, run19, run20, run21, run22, reduceCtorEq, Nat.reduceEqDiff, Nat.reduceAdd, Nat.reduceSub, Nat.reduceLeDiff, indexAddrA, indexRefA, appendA, strA, Nat.reduceMul, Nat.zero_mul, Nat.reduceMod, Int.reduceEq, Int.reduceLT, Int.reduceLE, Nat.reduceLT, Nat.lt_irrefl, Nat.reduceBEq, tys0, tys1, tys2, tys3, tys4, tys5, tys6, tys7, tys8, tys9, tys10, tys11, tys12, tys13, tys14, tys15, tys16, tys17, tys18, tys19, tys20, tys21, tys22, tys23, Try.ntmps80, Try.results80, swC, frE]
      refine RunL.callp rfl rfl ok_f125 (hng) (by first | rfl | simp only [pureL, pureB, Bool.and_self, Bool.and_true, Bool.true_and]) rfl ?_
      simp only [run0, run1, run2, run3, run4, run5, run6, run7, run8, run9, run10, run11, run12, run13, run14, run15, run16, run17, run18, run19, run20, run21, run22, reduceCtorEq, Nat.reduceEqDiff, Nat.reduceAdd, Nat.reduceSub, Nat.reduceLeDiff, indexAddrA, indexRefA, appendA, strA, Nat.reduceMul, Nat.zero_mul, Nat.reduceMod, Int.reduceEq, Int.reduceLT, Int.reduceLE, Nat.reduceLT, Nat.lt_irrefl, Nat.reduceBEq, tys0, tys1, tys2, tys3, tys4, tys5, tys6, tys7, tys8, tys9, tys10, tys11, tys12, tys13, tys14, tys15, tys16, tys17, tys18, tys19, tys20, tys21, tys22, tys23, Try.ntmps80, Try.results80, swC]
      refine RunL.callp rfl rfl ok_f78 (hc2) (by first | rfl | simp only [pureL, pureB, Bool.and_self, Bool.and_true, Bool.true_and]) rfl ?_
      simp only [run0, run1, run2, run3, run4, run5, run6, run7, run8, run9, run10, run11, run12, run13, run14, run15, run16, run17, run18, run19, run20, run21, run22, reduceCtorEq, Nat.reduceEqDiff, Nat.reduceAdd, Nat.reduceSub, Nat.reduceLeDiff, indexAddrA, indexRefA, appendA, strA, Nat.reduceMul, Nat.zero_mul, Nat.reduceMod, Int.reduceEq, Int.reduceLT, Int.reduceLE, Nat.reduceLT, Nat.lt_irrefl, Nat.reduceBEq, tys0, tys1, tys2, tys3, tys4, tys5, tys6, tys7, tys8, tys9, tys10, tys11, tys12, tys13, tys14, tys15, tys16, tys17, tys18, tys19, tys20, tys21, tys22, tys23, Try.ntmps80, Try.results80, swC, e1, List.length_map, Int.natCast_zero, Int.lt_irrefl, hlen, hlenr, u1, d1]
      obtain ⟨hok, hnx⟩ := hI.down hn hU hD p.X
      have hst := step_ok p.s false hok
      simp only [swV] at hst
      refine RunL.callp rfl rfl ok_f127 (hst) (by first | rfl | simp only [pureL, pureB, Bool.and_self, Bool.and_true, Bool.true_and]) rfl ?_
      simp only [run0, run1, run2, run3, run4, run5, run6, run7, run8, run9, run10, run11, run12, run13, run14, run15, run16, run17, run18, run19, run20, run21, run22, reduceCtorEq, Nat.reduceEqDiff, Nat.reduceAdd, Nat.reduceSub, Nat.reduceLeDiff, indexAddrA, indexRefA, appendA, strA, Nat.reduceMul, Nat.zero_mul, Nat.reduceMod, Int.reduceEq, Int.reduceLT, Int.reduceLE, Nat.reduceLT, Nat.lt_irrefl, Nat.reduceBEq, tys0, tys1, tys2, tys3, tys4, tys5, tys6, tys7, tys8, tys9, tys10, tys11, tys12, tys13, tys14, tys15, tys16, tys17, tys18, tys19, tys20, tys21, tys22, tys23, Try.ntmps80, Try.results80, swC, e5]
      rcases hnx with ⟨g1, g2⟩ | ⟨g1, g2⟩
      · exact ⟨⟨p.n + 1, p.i, swStep p.s false, p.X⟩, .inl ⟨by simp [g1], g2⟩, by simp only; omega, by repeat constructor, rfl⟩
      · exact ⟨⟨p.n + 1, stepM p.i, swStep p.s false, p.X⟩, .inr ⟨g1, g2⟩, by simp only; omega, by repeat constructor, rfl⟩
  · rcases hD : (q :: r).any (geB p.i.x) with _ | _
    · have u1 : (0 ≤ cmpQ (mostF o l) (p.s.an, p.s.ad)) := hge.2 hU
      have d1 : ¬ (cmpQ (leastF q r) (p.s.an, p.s.ad) ≤ 0) := (fun e => by rw [hle.1 e] at hD; cases hD)
      simp only [run0, run1, run2, run3, run4, run5, run6, run7, run8, run9, run10, run11, run12, run13, run14, run15, run16, run17, run18, run19, run20, run21, run22, reduceCtorEq, Nat.reduceEqDiff, Nat.reduceAdd, Nat.reduceSub, Nat.reduceLeDiff, indexAddrA, indexRefA, appendA, strA, Nat.reduceMul, Nat.zero_mul, Nat.reduceMod, Int.reduceEq, Int.reduceLT, Int.reduceLE, Nat.reduceLT, Nat.lt_irrefl, Nat.reduceBEq, tys0, tys1, tys2, tys3, tys4, tys5, tys6, tys7, tys8, tys9, tys10, tys11, tys12, tys13, tys14, tys15, tys16, tys17, tys18, tys19, tys20, tys21, tys22, tys23, Try.ntmps80, Try.results80, swC, e1, List.length_map, Int.natCast_zero, Int.lt_irrefl, hlen, hlenr, u1, d1]
      refine ⟨by kernel_rfl, ?_⟩
      refine RunL.callp rfl rfl ok_f124 (shMost_ok o l hll) (by simp only [pureL, pureB, frE, pl, Bool.and_self, Bool.and_true, Bool.true_and]) rfl ?_
      simp only [run0, run1, run2, run3, run4, run5, run6, run7, run8, run9, run10, run11, run12, run13, run14, run15, run16, run17, run18, run19, run20, run21, run22, reduceCtorEq, Nat.reduceEqDiff, Nat.reduceAdd, Nat.reduceSub, Nat.reduceLeDiff, indexAddrA, indexRefA, appendA, strA, Nat.reduceMul, Nat.zero_mul, Nat.reduceMod, Int.reduceEq, Int.reduceLT, Int.reduceLE, Nat.reduceLT, Nat.lt_irrefl, Nat.reduceBEq, tys0, tys1, tys2, tys3, tys4, tys5, tys6, tys7, tys8, tys9, tys10, tys11, tys12, tys13, tys14, tys15, tys16, tys17, tys18, tys19, tys20, tys21, tys22, tys23, Try.ntmps80, Try.results80, swC, frE]
      refine RunL.callp rfl rfl ok_f78 (hc1) (by first | rfl | simp only [pureL, pureB, Bool.and_self, Bool.and_true, Bool.true_and]) rfl ?_
      simp only [run0, run1, run2, run3, run4, run5, run6, run7, run8, run9, run10, run11, run12, run13, run14, run15, run16, run17, run18, run19, run20, run21, run22, reduceCtorEq, Nat.reduceEqDiff, Nat.reduceAdd, Nat.reduceSub, Nat.reduceLeDiff, indexAddrA, indexRefA, appendA, strA, Nat.reduceMul, Nat.zero_mul, Nat.reduceMod, Int.reduceEq, Int.reduceLT, Int.reduceLE, Nat.reduceLT, Nat.lt_irrefl, Nat.reduceBEq, tys0, tys1, tys2, tys3, tys4, tys5, tys6, tys7, tys8, tys9, tys10, tys11, tys12, tys13, tys14, tys15, tys16, tys17, tys18, tys19, tys20, tys21, tys22, tys23, Try.ntmps80, Try.results80, swC, e1, List.length_map, Int.natCast_zero, Int.lt_irrefl, hlen, hlenr, u1, d1]
      refine ⟨by kernel_rfl, ?_⟩
      refine RunL.callp rfl rfl ok_f126 (shNegAll_ok (q :: r) hrl) (by simp only [List.map_cons, pureL, pureB, frE, pr, Bool.and_self, Bool.and_true, Bool.true_and]) rfl ?_
      simp only [run0, run1, run2, run3, run4, run5, run6, run7, run8, run9, run10, run11, run12, run13, run14, run15, run16, run17, run18, run19, run20, run21, run22, reduceCtorEq, Nat.reduceEqDiff, Nat.reduceAdd, Nat.reduceSub, Nat.reduceLeDiff, indexAddrA, indexRefA, appendA, strA, Nat.reduceMul, Nat.zero_mul, Nat.reduceMod, Int.reduceEq, Int.reduceLT, Int.reduceLE, Nat.reduceLT, Nat.lt_irrefl, Nat.reduceBEq, tys0, tys1, tys2, tys3, tys4, tys5, tys6, tys7, tys8, tys9, tys10, tys11, tys12, tys13, tys14, tys15, tys16, tys17, tys18, tys19, tys20, tys21, tys22, tys23, Try.ntmps80, Try.results80, swC, frE]
      refine RunL.callp rfl rfl ok_f124 hmm (by simp only [pureL, pureB, prn, Bool.and_self, Bool.and_true, Bool.true_and]) rfl ?_
      simp only [run0, run1, run2, run3, run4, run5, run6, run7, run8, run9, run10, run11, run12, run13, run14, run15, run16, run17, run18, run19, run20, run21, run22, reduceCtorEq, Nat.reduceEqDiff, Nat.reduceAdd, Nat.reduceSub, Nat.reduceLeDiff, indexAddrA, indexRefA, appendA, strA, Nat.reduceMul, Nat.zero_mul, Nat.reduceMod, Int.reduceEq, Int.reduceLT, Int.reduceLE, Nat.reduceLT, Nat.lt_irrefl, Nat.reduceBEq, tys0, tys1, tys2, tys3, tys4, tys5, tys6, tys7, tys8, tys9, tys10, tys11, tys12, tys13, tys14, tys15, tys16, tys17, tys18, tys19, tys20, tys21, tys22, tys23, Try.ntmps80, Try.results80, swC, frE]
      refine RunL.callp rfl rfl ok_f125 (hng) (by first | rfl | simp only [pureL, pureB, Bool.and_self, Bool.and_true, Bool.true_and]) rfl ?_
      simp only [run0, run1, run2, run3, run4, run5, run6, run7, run8, run9, run10, run11, run12, run13, run14, run15, run16, run17, run18, run19, run20, run21, run22, reduceCtorEq, Nat.reduceEqDiff, Nat.reduceAdd, Nat.reduceSub, Nat.reduceLeDiff, indexAddrA, indexRefA, appendA, strA, Nat.reduceMul, Nat.zero_mul, Nat.reduceMod, Int.reduceEq, Int.reduceLT, Int.reduceLE, Nat.reduceLT, Nat.lt_irrefl, Nat.reduceBEq, tys0, tys1, tys2, tys3, tys4, tys5, tys6, tys7, tys8, tys9, tys10, tys11, tys12, tys13, tys14, tys15, tys16, tys17, tys18, tys19, tys20, tys21, tys22, tys23, Try.ntmps80, Try.results80, swC]
      refine RunL.callp rfl rfl ok_f78 (hc2) (by first | rfl | simp only [pureL, pureB, Bool.and_self, Bool.and_true, Bool.true_and]) rfl ?_
      simp only [run0, run1, run2, run3, run4, run5, run6, run7, run8, run9, run10, run11, run12, run13, run14, run15, run16, run17, run18, run19, run20, run21, run22, reduceCtorEq, Nat.reduceEqDiff, Nat.reduceAdd, Nat.reduceSub, Nat.reduceLeDiff, indexAddrA, indexRefA, appendA, strA, Nat.reduceMul, Nat.zero_mul, Nat.reduceMod, Int.reduceEq, Int.reduceLT, Int.reduceLE, Nat.reduceLT, Nat.lt_irrefl, Nat.reduceBEq, tys0, tys1, tys2, tys3, tys4, tys5, tys6, tys7, tys8, tys9, tys10, tys11, tys12, tys13, tys14, tys15, tys16, tys17, tys18, tys19, tys20, tys21, tys22, tys23, Try.ntmps80, Try.results80, swC, e1, List.length_map, Int.natCast_zero, Int.lt_irrefl, hlen, hlenr, u1, d1]
      obtain ⟨hok, hnx⟩ := hI.up hn hU p.X
      have hst := step_ok p.s true hok
      simp only [swV] at hst
      refine RunL.callp rfl rfl ok_f127 (hst) (by first | rfl | simp only [pureL, pureB, Bool.and_self, Bool.and_true, Bool.true_and]) rfl ?_
      simp only [run0, run1, run2, run3, run4, run5, run6, run7, run8, run9, run10, run11, run12, run13, run14, run15, run16, run17, run18, run19, run20, run21, run22, reduceCtorEq, Nat.reduceEqDiff, Nat.reduceAdd, Nat.reduceSub, Nat.reduceLeDiff, indexAddrA, indexRefA, appendA, strA, Nat.reduceMul, Nat.zero_mul, Nat.reduceMod, Int.reduceEq, Int.reduceLT, Int.reduceLE, Nat.reduceLT, Nat.lt_irrefl, Nat.reduceBEq, tys0, tys1, tys2, tys3, tys4, tys5, tys6, tys7, tys8, tys9, tys10, tys11, tys12, tys13, tys14, tys15, tys16, tys17, tys18, tys19, tys20, tys21, tys22, tys23, Try.ntmps80, Try.results80, swC, e5]
      rcases hnx with ⟨g1, g2⟩ | ⟨g1, g2⟩
      · exact ⟨⟨p.n + 1, p.i, swStep p.s true, p.X⟩, .inl ⟨by simp [g1], g2⟩, by simp only; omega, by repeat constructor, rfl⟩
      · exact ⟨⟨p.n + 1, stepP p.i, swStep p.s true, p.X⟩, .inr ⟨g1, g2⟩, by simp only; omega, by repeat constructor, rfl⟩
    · have u1 : (0 ≤ cmpQ (mostF o l) (p.s.an, p.s.ad)) := hge.2 hU
      have d1 : (cmpQ (leastF q r) (p.s.an, p.s.ad) ≤ 0) := hle.2 hD
      simp only [run0, run1, run2, run3, run4, run5, run6, run7, run8, run9, run10, run11, run12, run13, run14, run15, run16, run17, run18, run19, run20, run21, run22, reduceCtorEq, Nat.reduceEqDiff, Nat.reduceAdd, Nat.reduceSub, Nat.reduceLeDiff, indexAddrA, indexRefA, appendA, strA, Nat.reduceMul, Nat.zero_mul, Nat.reduceMod, Int.reduceEq, Int.reduceLT, Int.reduceLE, Nat.reduceLT, Nat.lt_irrefl, Nat.reduceBEq, tys0, tys1, tys2, tys3, tys4, tys5, tys6, tys7, tys8, tys9, tys10, tys11, tys12, tys13, tys14, tys15, tys16, tys17, tys18, tys19, tys20, tys21, tys22, tys23, Try.ntmps80, Try.results80, swC, e1, List.length_map, Int.natCast_zero, Int.lt_irrefl, hlen, hlenr, u1, d1]
      refine ⟨by kernel_rfl, ?_⟩
      refine RunL.callp rfl rfl ok_f124 (shMost_ok o l hll) (by simp only [pureL, pureB, frE, pl, Bool.and_self, Bool.and_true, Bool.true_and]) rfl ?_
      simp only [run0, run1, run2, run3, run4, run5, run6, run7, run8, run9, run10, run11, run12, run13, run14, run15, run16, run17, run18, run19, run20, run21, run22, reduceCtorEq, Nat.reduceEqDiff, Nat.reduceAdd, Nat.reduceSub, Nat.reduceLeDiff, indexAddrA, indexRefA, appendA, strA, Nat.reduceMul, Nat.zero_mul, Nat.reduceMod, Int.reduceEq, Int.reduceLT, Int.reduceLE, Nat.reduceLT, Nat.lt_irrefl, Nat.reduceBEq, tys0, tys1, tys2, tys3, tys4, tys5, tys6, tys7, tys8, tys9, tys10, tys11, tys12, tys13, tys14, tys15, tys16, tys17, tys18, tys19, tys20, tys21, tys22, tys23, Try.ntmps80, Try.results80, swC, frE]
      refine RunL.callp rfl rfl ok_f78 (hc1) (by first | rfl | simp only [pureL, pureB, Bool.and_self, Bool.and_true, Bool.true_and]) rfl ?_
      simp only [run0, run1, run2, run3, run4, run5, run6, run7, run8, run9, run10, run11, run12, run13, run14, run15, run16, run17, run18, run19, run20, run21, run22, reduceCtorEq, Nat.reduceEqDiff, Nat.reduceAdd, Nat.reduceSub, Nat.reduceLeDiff, indexAddrA, indexRefA, appendA, strA, Nat.reduceMul, Nat.zero_mul, Nat.reduceMod, Int.reduceEq, Int.reduceLT, Int.reduceLE, Nat.reduceLT, Nat.lt_irrefl, Nat.reduceBEq, tys0, tys1, tys2, tys3, tys4, tys5, tys6, tys7, tys8, tys9, tys10, tys11, tys12, tys13, tys14, tys15, tys16, tys17, tys18, tys19, tys20, tys21, tys22, tys23, Try.ntmps80, Try.results80, swC, e1, List.length_map, Int.natCast_zero, Int.lt_irrefl, hlen, hlenr, u1, d1]
      refine ⟨by kernel_rfl, ?_⟩
      refine RunL.callp rfl rfl ok_f126 (shNegAll_ok (q :: r) hrl) (by simp only [List.map_cons, pureL, pureB, frE, pr, Bool.and_self, Bool.and_true, Bool.true_and]) rfl ?_
      simp only [run0, run1, run2, run3, run4, run5, run6, run7, run8, run9, run10, run11, run12, run13, run14, run15, run16, run17, run18, run19, run20, run21, run22, reduceCtorEq, Nat.reduceEqDiff, Nat.reduceAdd, Nat.reduceSub, Nat.reduceLeDiff, indexAddrA, indexRefA, appendA, strA, Nat.reduceMul, Nat.zero_mul, Nat.reduceMod, Int.reduceEq, Int.reduceLT, Int.reduceLE, Nat.reduceLT, Nat.lt_irrefl, Nat.reduceBEq, tys0, tys1, tys2, tys3, tys4, tys5, tys6, tys7, tys8, tys9, tys10, tys11, tys12, tys13, tys14, tys15, tys16, tys17, tys18, tys19, tys20, tys21, tys22, tys23, Try.ntmps80, Try.results80, swC, frE]
      refine RunL.callp rfl rfl ok_f124 hmm (by simp only [pureL, pureB, prn, Bool.and_self, Bool.and_true, Bool.true_and]) rfl ?_
      simp only [run0, run1, run2, run3, run4, run5, run6, run7, run8, run9, run10, run11, run12, run13, run14, run15, run16, run17, run18, run19, run20, run21, run22, reduceCtorEq, Nat.reduceEqDiff, Nat.reduceAdd, Nat.reduceSub, Nat.reduceLeDiff, indexAddrA, indexRefA, appendA, strA, Nat.reduceMul, Nat.zero_mul, Nat.reduceMod, Int.reduceEq, Int.reduceLT, Int.reduceLE, Nat.reduceLT, Nat.lt_irrefl, Nat.reduceBEq, tys0, tys1, tys2, tys3, tys4, tys5, tys6, tys7, tys8, tys9, tys10, tys11, tys12, tys13, tys14, tys15, tys16, tys17, tys18, tys19, tys20, tys21, tys22, tys23, Try.ntmps80, Try.results80, swC, frE]
      refine RunL.callp rfl rfl ok_f125 (hng) (by first | rfl | simp only [pureL, pureB, Bool.and_self, Bool.and_true, Bool.true_and]) rfl ?_
      simp only [run0, run1, run2, run3, run4, run5, run6, run7, run8, run9, run10, run11, run12, run13, run14, run15, run16, run17, run18, run19, run20, run21, run22, reduceCtorEq, Nat.reduceEqDiff, Nat.reduceAdd, Nat.reduceSub, Nat.reduceLeDiff, indexAddrA, indexRefA, appendA, strA, Nat.reduceMul, Nat.zero_mul, Nat.reduceMod, Int.reduceEq, Int.reduceLT, Int.reduceLE, Nat.reduceLT, Nat.lt_irrefl, Nat.reduceBEq, tys0, tys1, tys2, tys3, tys4, tys5, tys6, tys7, tys8, tys9, tys10, tys11, tys12, tys13, tys14, tys15, tys16, tys17, tys18, tys19, tys20, tys21, tys22, tys23, Try.ntmps80, Try.results80, swC]
      refine RunL.callp rfl rfl ok_f78 (hc2) (by first | rfl | simp only [pureL, pureB, Bool.and_self, Bool.and_true, Bool.true_and]) rfl ?_
      simp only [run0, run1, run2, run3, run4, run5, run6, run7, run8, run9, run10, run11, run12, run13, run14, run15, run16, run17, run18, run19, run20, run21, run22, reduceCtorEq, Nat.reduceEqDiff, Nat.reduceAdd, Nat.reduceSub, Nat.reduceLeDiff, indexAddrA, indexRefA, appendA, strA, Nat.reduceMul, Nat.zero_mul, Nat.reduceMod, Int.reduceEq, Int.reduceLT, Int.reduceLE, Nat.reduceLT, Nat.lt_irrefl, Nat.reduceBEq, tys0, tys1, tys2, tys3, tys4, tys5, tys6, tys7, tys8, tys9, tys10, tys11, tys12, tys13, tys14, tys15, tys16, tys17, tys18, tys19, tys20, tys21, tys22, tys23, Try.ntmps80, Try.results80, swC, e1, List.length_map, Int.natCast_zero, Int.lt_irrefl, hlen, hlenr, u1, d1]
      exact Fin.eq (by simp [simR, bad_both hl hr hx hU hD, frE]) rfl

theorem shSimplest_ok (l r : List Fr) (hll : l.length ≤ 1048576) (hrl : r.length ≤ 1048576) (hl : ∀ a ∈ l, FB a) (hr : ∀ a ∈ r, FB a) : Ct Try.prog 80 [.sl false (l.map frE), .sl false (r.map frE)] [] (simR l r) [] := by
  cases l with
  | nil => cases r with
    | nil => exact shSimplest_nn hll hrl hl hr
    | cons q r => exact shSimplest_nc q r hll hrl hl hr
  | cons o l => cases r with
    | nil => exact shSimplest_cn o l hll hrl hl hr
    | cons q r => exact shSimplest_cc o l q r hll hrl hl hr

end Go.Proofs.Ytllcljajlemmaaa
/-
  Cuts: which two fractions are next to each other, or the simplest number between: both, and the law.
-/
namespace Go.Proofs.Ytllcljajlemmaaa
open Go K
set_option linter.unusedSimpArgs false
set_option linter.unusedVariables false
set_option maxHeartbeats 1600000
set_option maxRecDepth 8000

/-- How the program compares. -/
def cmpP (p q : Fr) : Int := cmpI (w64 (p.1 * q.2)) (w64 (q.1 * p.2))
theorem cmpPQ {p q : Fr} (hp : goodF p = true) (hq : goodF q = true) : cmpQ p q = cmpP p q := cmp_same hp hq
theorem cmpP_ok (p q : Fr) : Ct Try.prog 82 [fr p.1 p.2, fr q.1 q.2] [] (.int .i64 (cmpP p q)) [] := cmpFr_ok p.1 p.2 q.1 q.2
/-- The first best one's index. -/
def bestI (s : Int) (l : List Fr) : Nat → List Fr → Nat → Nat
  | b, [], _ => b
  | b, a :: r, k => bestI s l (if cmpQ a (l.getD b (0, 1)) = s then k else b) r (k + 1)
theorem bestI_cons (s : Int) (l : List Fr) (a : Fr) (r : List Fr) (b k : Nat) : bestI s l b (a :: r) k = bestI s l (if cmpQ a (l.getD b (0, 1)) = s then k else b) r (k + 1) := rfl
theorem bestI_lt (s : Int) (l : List Fr) : ∀ (r : List Fr) (b k : Nat), b < l.length → k + r.length ≤ l.length → bestI s l b r k < l.length
  | [], b, k, hb, _ => hb
  | a :: r, b, k, hb, hk => by
    simp only [List.length_cons] at hk
    unfold bestI
    exact bestI_lt s l r _ _ (by split <;> omega) (by omega)
theorem goodL_all {l : List Fr} (h : goodL l = true) : l.length ≤ 20 ∧ ∀ a ∈ l, goodF a = true := by
  simp only [goodL, Bool.and_eq_true, decide_eq_true_eq, List.all_eq_true] at h
  exact h
theorem goodL_FB {l : List Fr} (h : goodL l = true) : ∀ a ∈ l, FB a := fun a ha => goodF_FB ((goodL_all h).2 a ha)
theorem frs_at {l : List Fr} {b : Nat} (h : b < l.length) : (l.map frE)[b]? = some (.agg [.int .i64 (l.getD b (0, 1)).1, .int .i64 (l.getD b (0, 1)).2]) := by
  simp [List.getD_eq_getElem?_getD, h, frE]
structure BeS where
  d : List Fr
  r : List Fr
  b : Nat
  X : List AObj
theorem gaBest_ok (s : Int) (l : List Fr) (hl : l.length ≤ 1048576) : Ct Try.prog 77 [.sl false (l.map frE), .int .i64 s] [] (.int .i64 (bestI s l 0 l 0)) [] := by
  refine Ct.by_ hmix [] Try.func77 rfl ?_
  simp only [run0, run1, run2, run3, run4, run5, run6, run7, run8, run9, run10, run11, run12, run13, run14, run15, run16, run17, run18, run19, run20, run21, run22, reduceCtorEq, Nat.reduceEqDiff, Nat.reduceAdd, Nat.reduceSub, Nat.reduceLeDiff, indexAddrA, indexRefA, appendA, strA, Nat.reduceMul, Nat.zero_mul, Nat.reduceMod, Int.reduceEq, Int.reduceLT, Int.reduceLE, Nat.reduceLT, Nat.lt_irrefl, Nat.reduceBEq, tys0, tys1, tys2, tys3, tys4, tys5, tys6, tys7, tys8, tys9, tys10, tys11, tys12, tys13, tys14, tys15, tys16, tys17, tys18, tys19, tys20, tys21, tys22, tys23, Try.ntmps77, Try.results77, List.length_map]
  refine AWp.loop_inv (ι := BeS) (fun q => ⟨[.sl false (l.map frE), .int .i64 s, .junk, .junk, .int .i64 0, .int .i64 q.b, .junk, .junk, .sl false (l.map frE), .int .i64 l.length, .int .i64 q.d.length, .junk, .junk, .junk, .junk, .junk, .junk, .junk, .junk, .junk, .junk, .junk, .junk, .junk, .junk, .junk], q.X⟩)
    (fun q => l = q.d ++ q.r ∧ q.b ≤ q.d.length ∧ bestI s l q.b q.r q.d.length = bestI s l 0 l 0) (fun q => q.r.length) ⟨[], l, 0, []⟩ ⟨rfl, Nat.le_refl _, rfl⟩ ⟨by simp only [List.length_nil, Int.natCast_zero]; repeat constructor, rfl⟩ ?_
  rintro ⟨d, r, b, X⟩ ⟨ha, h2, h3⟩
  refine W.sound hmix (E := []) ?_
  simp only at ha h2 h3
  cases r with
  | nil =>
    have e1 := frs_end ha
    simp only [run0, run1, run2, run3, run4, run5, run6, run7, run8, run9, run10, run11, run12, run13, run14, run15, run16, run17, run18, run19, run20, run21, run22, reduceCtorEq, Nat.reduceEqDiff, Nat.reduceAdd, Nat.reduceSub, Nat.reduceLeDiff, indexAddrA, indexRefA, appendA, strA, Nat.reduceMul, Nat.zero_mul, Nat.reduceMod, Int.reduceEq, Int.reduceLT, Int.reduceLE, Nat.reduceLT, Nat.lt_irrefl, Nat.reduceBEq, tys0, tys1, tys2, tys3, tys4, tys5, tys6, tys7, tys8, tys9, tys10, tys11, tys12, tys13, tys14, tys15, tys16, tys17, tys18, tys19, tys20, tys21, tys22, tys23, Try.ntmps77, Try.results77, List.length_map, e1]
    exact Fin.eq (by rw [← h3]; rfl) rfl
  | cons e r =>
    obtain ⟨e1, e2, e5⟩ := frs_split ha hl
    have hb : b < l.length := by omega
    have e3 := frs_at hb
    have hc := cmpQ_ok e (l.getD b (0, 1))
    simp only [fr] at hc
    have hb2 : (b : Int) < (l.length : Int) := by omega
    simp only [run0, run1, run2, run3, run4, run5, run6, run7, run8, run9, run10, run11, run12, run13, run14, run15, run16, run17, run18, run19, run20, run21, run22, reduceCtorEq, Nat.reduceEqDiff, Nat.reduceAdd, Nat.reduceSub, Nat.reduceLeDiff, indexAddrA, indexRefA, appendA, strA, Nat.reduceMul, Nat.zero_mul, Nat.reduceMod, Int.reduceEq, Int.reduceLT, Int.reduceLE, Nat.reduceLT, Nat.lt_irrefl, Nat.reduceBEq, tys0, tys1, tys2, tys3, tys4, tys5, tys6, tys7, tys8, tys9, tys10, tys11, tys12, tys13, tys14, tys15, tys16, tys17, tys18, tys19, tys20, tys21, tys22, tys23, Try.ntmps77, Try.results77, List.length_map, e1, e2, e3, hb2, Int.toNat_natCast, Int.natCast_nonneg, List.getElem?_append_right, Nat.sub_self]
    refine ⟨by kernel_rfl, ?_⟩
    refine RunL.callp rfl rfl ok_f78 (hc) (by first | rfl | simp only [pureL, pureB, Bool.and_self, Bool.and_true, Bool.true_and]) rfl ?_
    rw [bestI_cons s l e r b d.length] at h3
    by_cases hp : cmpQ e (l.getD b (0, 1)) = s
    · have hp2 : (cmpQ e (l.getD b (0, 1)) == s) = true := beq_iff_eq.2 hp
      rw [if_pos hp] at h3
      simp only [run0, run1, run2, run3, run4, run5, run6, run7, run8, run9, run10, run11, run12, run13, run14, run15, run16, run17, run18, run19, run20, run21, run22, reduceCtorEq, Nat.reduceEqDiff, Nat.reduceAdd, Nat.reduceSub, Nat.reduceLeDiff, indexAddrA, indexRefA, appendA, strA, Nat.reduceMul, Nat.zero_mul, Nat.reduceMod, Int.reduceEq, Int.reduceLT, Int.reduceLE, Nat.reduceLT, Nat.lt_irrefl, Nat.reduceBEq, tys0, tys1, tys2, tys3, tys4, tys5, tys6, tys7, tys8, tys9, tys10, tys11, tys12, tys13, tys14, tys15, tys16, tys17, tys18, tys19, tys20, tys21, tys22, tys23, Try.ntmps77, Try.results77, hp2, e5]
      exact ⟨⟨d ++ [e], r, d.length, _⟩, ⟨by simp [ha], by simp, by simp only [List.length_append, List.length_cons, List.length_nil]; exact h3⟩, by simp, by simp only [List.length_append, List.length_cons, List.length_nil]; repeat constructor, rfl⟩
    · have hp2 : (cmpQ e (l.getD b (0, 1)) == s) = false := beq_eq_false_iff_ne.2 hp
      rw [if_neg hp] at h3
      simp only [run0, run1, run2, run3, run4, run5, run6, run7, run8, run9, run10, run11, run12, run13, run14, run15, run16, run17, run18, run19, run20, run21, run22, reduceCtorEq, Nat.reduceEqDiff, Nat.reduceAdd, Nat.reduceSub, Nat.reduceLeDiff, indexAddrA, indexRefA, appendA, strA, Nat.reduceMul, Nat.zero_mul, Nat.reduceMod, Int.reduceEq, Int.reduceLT, Int.reduceLE, Nat.reduceLT, Nat.lt_irrefl, Nat.reduceBEq, tys0, tys1, tys2, tys3, tys4, tys5, tys6, tys7, tys8, tys9, tys10, tys11, tys12, tys13, tys14, tys15, tys16, tys17, tys18, tys19, tys20, tys21, tys22, tys23, Try.ntmps77, Try.results77, hp2, e5]
      exact ⟨⟨d ++ [e], r, b, _⟩, ⟨by simp [ha], by simp; omega, by simp only [List.length_append, List.length_cons, List.length_nil]; exact h3⟩, by simp, by simp only [List.length_append, List.length_cons, List.length_nil]; repeat constructor, rfl⟩

def cutM (l : List Fr) : Nat := bestI 1 l 0 l 0
def cutL (r : List Fr) : Nat := bestI (-1) r 0 r 0
def overB (l r : List Fr) : Bool := !l.isEmpty && !r.isEmpty && decide (0 ≤ cmpQ (l.getD (cutM l) (0, 1)) (r.getD (cutL r) (0, 1)))
def cutR (l r : List Fr) : AV :=
  if goodL l && goodL r then
    if overB l r then .tup [frE (0, 1), .int .i64 (cutM l), .int .i64 (cutL r), .bool true]
    else if cutBad l r then .tup [frE (0, 0), .int .i64 0, .int .i64 0, .bool false]
    else .tup [frE (frN (cutX l r), frD (cutX l r)), .int .i64 (-1), .int .i64 (-1), .bool true]
  else .tup [frE (0, 0), .int .i64 0, .int .i64 0, .bool false]
theorem whole_ok (n : Int) : Ct Try.prog 83 [.int .i64 n] [] (frE (n, 1)) [] := by
  refine Ct.by_ hmix [] Try.func83 rfl ?_
  simp only [run0, run1, run2, run3, run4, run5, run6, run7, run8, run9, run10, run11, run12, run13, run14, run15, run16, run17, run18, run19, run20, run21, run22, reduceCtorEq, Nat.reduceEqDiff, Nat.reduceAdd, Nat.reduceSub, Nat.reduceLeDiff, indexAddrA, indexRefA, appendA, strA, Nat.reduceMul, Nat.zero_mul, Nat.reduceMod, Int.reduceEq, Int.reduceLT, Int.reduceLE, Nat.reduceLT, Nat.lt_irrefl, Nat.reduceBEq, tys0, tys1, tys2, tys3, tys4, tys5, tys6, tys7, tys8, tys9, tys10, tys11, tys12, tys13, tys14, tys15, tys16, tys17, tys18, tys19, tys20, tys21, tys22, tys23, Try.ntmps83, Try.results83]
  exact Fin.eq rfl rfl
theorem isE_length {l : List Fr} : l.isEmpty = false → (0 : Int) < (l.length : Int) := by
  cases l with
  | nil => simp
  | cons a l => intro _; simp only [List.length_cons]; omega
theorem isE_not {l : List Fr} : l.isEmpty = true → ¬ (0 : Int) < (l.length : Int) := by
  cases l with
  | nil => simp
  | cons a l => simp

theorem specCut_ok (l r : List Fr) (hl : l.length ≤ 1048576) (hr : r.length ≤ 1048576) : Ct Try.prog 32 [.sl false (l.map frE), .sl false (r.map frE)] [] (cutR l r) [] := by
  have pl := frs_pure l
  have pr := frs_pure r
  refine Ct.by_ hmix [] Try.func32 rfl ?_
  simp only [run0, run1, run2, run3, run4, run5, run6, run7, run8, run9, run10, run11, run12, run13, run14, run15, run16, run17, run18, run19, run20, run21, run22, reduceCtorEq, Nat.reduceEqDiff, Nat.reduceAdd, Nat.reduceSub, Nat.reduceLeDiff, indexAddrA, indexRefA, appendA, strA, Nat.reduceMul, Nat.zero_mul, Nat.reduceMod, Int.reduceEq, Int.reduceLT, Int.reduceLE, Nat.reduceLT, Nat.lt_irrefl, Nat.reduceBEq, tys0, tys1, tys2, tys3, tys4, tys5, tys6, tys7, tys8, tys9, tys10, tys11, tys12, tys13, tys14, tys15, tys16, tys17, tys18, tys19, tys20, tys21, tys22, tys23, Try.ntmps32, Try.results32]
  refine RunL.callp rfl rfl ok_f76 (shList_ok l hl) (by simp only [pureL, pureB, pl, Bool.and_self]) rfl ?_
  cases g1 : goodL l
  · simp only [run0, run1, run2, run3, run4, run5, run6, run7, run8, run9, run10, run11, run12, run13, run14, run15, run16, run17, run18, run19, run20, run21, run22, reduceCtorEq, Nat.reduceEqDiff, Nat.reduceAdd, Nat.reduceSub, Nat.reduceLeDiff, indexAddrA, indexRefA, appendA, strA, Nat.reduceMul, Nat.zero_mul, Nat.reduceMod, Int.reduceEq, Int.reduceLT, Int.reduceLE, Nat.reduceLT, Nat.lt_irrefl, Nat.reduceBEq, tys0, tys1, tys2, tys3, tys4, tys5, tys6, tys7, tys8, tys9, tys10, tys11, tys12, tys13, tys14, tys15, tys16, tys17, tys18, tys19, tys20, tys21, tys22, tys23, Try.ntmps32, Try.results32]
    exact Fin.eq (by simp [cutR, g1, frE]) rfl
  simp only [run0, run1, run2, run3, run4, run5, run6, run7, run8, run9, run10, run11, run12, run13, run14, run15, run16, run17, run18, run19, run20, run21, run22, reduceCtorEq, Nat.reduceEqDiff, Nat.reduceAdd, Nat.reduceSub, Nat.reduceLeDiff, indexAddrA, indexRefA, appendA, strA, Nat.reduceMul, Nat.zero_mul, Nat.reduceMod, Int.reduceEq, Int.reduceLT, Int.reduceLE, Nat.reduceLT, Nat.lt_irrefl, Nat.reduceBEq, tys0, tys1, tys2, tys3, tys4, tys5, tys6, tys7, tys8, tys9, tys10, tys11, tys12, tys13, tys14, tys15, tys16, tys17, tys18, tys19, tys20, tys21, tys22, tys23, Try.ntmps32, Try.results32]
  refine RunL.callp rfl rfl ok_f76 (shList_ok r hr) (by simp only [pureL, pureB, pr, Bool.and_self]) rfl ?_
  cases g2 : goodL r
  · simp only [run0, run1, run2, run3, run4, run5, run6, run7, run8, run9, run10, run11, run12, run13, run14, run15, run16, run17, run18, run19, run20, run21, run22, reduceCtorEq, Nat.reduceEqDiff, Nat.reduceAdd, Nat.reduceSub, Nat.reduceLeDiff, indexAddrA, indexRefA, appendA, strA, Nat.reduceMul, Nat.zero_mul, Nat.reduceMod, Int.reduceEq, Int.reduceLT, Int.reduceLE, Nat.reduceLT, Nat.lt_irrefl, Nat.reduceBEq, tys0, tys1, tys2, tys3, tys4, tys5, tys6, tys7, tys8, tys9, tys10, tys11, tys12, tys13, tys14, tys15, tys16, tys17, tys18, tys19, tys20, tys21, tys22, tys23, Try.ntmps32, Try.results32]
    exact Fin.eq (by simp [cutR, g1, g2, frE]) rfl
  have hss := shSimplest_ok l r hl hr (goodL_FB g1) (goodL_FB g2)
  have key : ∀ {P : Prop}, overB l r = false → (simR l r = if cutBad l r then .tup [frE (0, 0), .bool false] else .tup [frE (frN (cutX l r), frD (cutX l r)), .bool true]) := fun _ => by
    unfold simR; cases cutBad l r <;> rfl
  cases m1 : l.isEmpty
  case true =>
    have k1 := isE_not m1
    have ho : overB l r = false := by simp [overB, m1]
    have hk := key (P := True) ho
    simp only [run0, run1, run2, run3, run4, run5, run6, run7, run8, run9, run10, run11, run12, run13, run14, run15, run16, run17, run18, run19, run20, run21, run22, reduceCtorEq, Nat.reduceEqDiff, Nat.reduceAdd, Nat.reduceSub, Nat.reduceLeDiff, indexAddrA, indexRefA, appendA, strA, Nat.reduceMul, Nat.zero_mul, Nat.reduceMod, Int.reduceEq, Int.reduceLT, Int.reduceLE, Nat.reduceLT, Nat.lt_irrefl, Nat.reduceBEq, tys0, tys1, tys2, tys3, tys4, tys5, tys6, tys7, tys8, tys9, tys10, tys11, tys12, tys13, tys14, tys15, tys16, tys17, tys18, tys19, tys20, tys21, tys22, tys23, Try.ntmps32, Try.results32, List.length_map, k1]
    refine RunL.callp rfl rfl ok_f80 hss (by simp only [pureL, pureB, pl, pr, Bool.and_self]) rfl ?_
    rw [hk]
    cases hb : cutBad l r
    · simp only [run0, run1, run2, run3, run4, run5, run6, run7, run8, run9, run10, run11, run12, run13, run14, run15, run16, run17, run18, run19, run20, run21, run22, reduceCtorEq, Nat.reduceEqDiff, Nat.reduceAdd, Nat.reduceSub, Nat.reduceLeDiff, indexAddrA, indexRefA, appendA, strA, Nat.reduceMul, Nat.zero_mul, Nat.reduceMod, Int.reduceEq, Int.reduceLT, Int.reduceLE, Nat.reduceLT, Nat.lt_irrefl, Nat.reduceBEq, tys0, tys1, tys2, tys3, tys4, tys5, tys6, tys7, tys8, tys9, tys10, tys11, tys12, tys13, tys14, tys15, tys16, tys17, tys18, tys19, tys20, tys21, tys22, tys23, Try.ntmps32, Try.results32, frE]
      exact Fin.eq (by simp [cutR, g1, g2, ho, hb, frE]) rfl
    · simp only [run0, run1, run2, run3, run4, run5, run6, run7, run8, run9, run10, run11, run12, run13, run14, run15, run16, run17, run18, run19, run20, run21, run22, reduceCtorEq, Nat.reduceEqDiff, Nat.reduceAdd, Nat.reduceSub, Nat.reduceLeDiff, indexAddrA, indexRefA, appendA, strA, Nat.reduceMul, Nat.zero_mul, Nat.reduceMod, Int.reduceEq, Int.reduceLT, Int.reduceLE, Nat.reduceLT, Nat.lt_irrefl, Nat.reduceBEq, tys0, tys1, tys2, tys3, tys4, tys5, tys6, tys7, tys8, tys9, tys10, tys11, tys12, tys13, tys14, tys15, tys16, tys17, tys18, tys19, tys20, tys21, tys22, tys23, Try.ntmps32, Try.results32, frE]
      exact Fin.eq (by simp [cutR, g1, g2, ho, hb, frE]) rfl
  case false =>
    have k1 := isE_length m1
    cases m2 : r.isEmpty
    case true =>
      have k2 := isE_not m2
      have ho : overB l r = false := by simp [overB, m2]
      have hk := key (P := True) ho
      simp only [run0, run1, run2, run3, run4, run5, run6, run7, run8, run9, run10, run11, run12, run13, run14, run15, run16, run17, run18, run19, run20, run21, run22, reduceCtorEq, Nat.reduceEqDiff, Nat.reduceAdd, Nat.reduceSub, Nat.reduceLeDiff, indexAddrA, indexRefA, appendA, strA, Nat.reduceMul, Nat.zero_mul, Nat.reduceMod, Int.reduceEq, Int.reduceLT, Int.reduceLE, Nat.reduceLT, Nat.lt_irrefl, Nat.reduceBEq, tys0, tys1, tys2, tys3, tys4, tys5, tys6, tys7, tys8, tys9, tys10, tys11, tys12, tys13, tys14, tys15, tys16, tys17, tys18, tys19, tys20, tys21, tys22, tys23, Try.ntmps32, Try.results32, List.length_map, k1, k2]
      refine RunL.callp rfl rfl ok_f80 hss (by simp only [pureL, pureB, pl, pr, Bool.and_self]) rfl ?_
      rw [hk]
      cases hb : cutBad l r
      · simp only [run0, run1, run2, run3, run4, run5, run6, run7, run8, run9, run10, run11, run12, run13, run14, run15, run16, run17, run18, run19, run20, run21, run22, reduceCtorEq, Nat.reduceEqDiff, Nat.reduceAdd, Nat.reduceSub, Nat.reduceLeDiff, indexAddrA, indexRefA, appendA, strA, Nat.reduceMul, Nat.zero_mul, Nat.reduceMod, Int.reduceEq, Int.reduceLT, Int.reduceLE, Nat.reduceLT, Nat.lt_irrefl, Nat.reduceBEq, tys0, tys1, tys2, tys3, tys4, tys5, tys6, tys7, tys8, tys9, tys10, tys11, tys12, tys13, tys14, tys15, tys16, tys17, tys18, tys19, tys20, tys21, tys22, tys23, Try.ntmps32, Try.results32, frE]
        exact Fin.eq (by simp [cutR, g1, g2, ho, hb, frE]) rfl
      · simp only [run0, run1, run2, run3, run4, run5, run6, run7, run8, run9, run10, run11, run12, run13, run14, run15, run16, run17, run18, run19, run20, run21, run22, reduceCtorEq, Nat.reduceEqDiff, Nat.reduceAdd, Nat.reduceSub, Nat.reduceLeDiff, indexAddrA, indexRefA, appendA, strA, Nat.reduceMul, Nat.zero_mul, Nat.reduceMod, Int.reduceEq, Int.reduceLT, Int.reduceLE, Nat.reduceLT, Nat.lt_irrefl, Nat.reduceBEq, tys0, tys1, tys2, tys3, tys4, tys5, tys6, tys7, tys8, tys9, tys10, tys11, tys12, tys13, tys14, tys15, tys16, tys17, tys18, tys19, tys20, tys21, tys22, tys23, Try.ntmps32, Try.results32, frE]
        exact Fin.eq (by simp [cutR, g1, g2, ho, hb, frE]) rfl
    case false =>
      have k2 := isE_length m2
      have b1 : cutM l < l.length := bestI_lt _ _ _ _ _ (by omega) (by omega)
      have b2 : cutL r < r.length := bestI_lt _ _ _ _ _ (by omega) (by omega)
      have c1 := frs_at b1
      have c2 := frs_at b2
      have b3 : (cutM l : Int) < (l.length : Int) := by omega
      have b4 : (cutL r : Int) < (r.length : Int) := by omega
      have hc := cmpQ_ok (l.getD (cutM l) (0, 1)) (r.getD (cutL r) (0, 1))
      simp only [fr] at hc
      have hgm : Ct Try.prog 77 [.sl false (l.map frE), .int .i64 1] [] (.int .i64 (cutM l)) [] := gaBest_ok 1 l hl
      have hgl : Ct Try.prog 77 [.sl false (r.map frE), .int .i64 (-1)] [] (.int .i64 (cutL r)) [] := gaBest_ok (-1) r hr
      simp only [run0, run1, run2, run3, run4, run5, run6, run7, run8, run9, run10, run11, run12, run13, run14, run15, run16, run17, run18, run19, run20, run21, run22, reduceCtorEq, Nat.reduceEqDiff, Nat.reduceAdd, Nat.reduceSub, Nat.reduceLeDiff, indexAddrA, indexRefA, appendA, strA, Nat.reduceMul, Nat.zero_mul, Nat.reduceMod, Int.reduceEq, Int.reduceLT, Int.reduceLE, Nat.reduceLT, Nat.lt_irrefl, Nat.reduceBEq, tys0, tys1, tys2, tys3, tys4, tys5, tys6, tys7, tys8, tys9, tys10, tys11, tys12, tys13, tys14, tys15, tys16, tys17, tys18, tys19, tys20, tys21, tys22, tys23, Try.ntmps32, Try.results32, List.length_map, k1, k2]
      refine RunL.callp rfl rfl ok_f77 hgm (by simp only [pureL, pureB, pl, Bool.and_self]) rfl ?_
      simp only [run0, run1, run2, run3, run4, run5, run6, run7, run8, run9, run10, run11, run12, run13, run14, run15, run16, run17, run18, run19, run20, run21, run22, reduceCtorEq, Nat.reduceEqDiff, Nat.reduceAdd, Nat.reduceSub, Nat.reduceLeDiff, indexAddrA, indexRefA, appendA, strA, Nat.reduceMul, Nat.zero_mul, Nat.reduceMod, Int.reduceEq, Int.reduceLT, Int.reduceLE, Nat.reduceLT, Nat.lt_irrefl, Nat.reduceBEq, tys0, tys1, tys2, tys3, tys4, tys5, tys6, tys7, tys8, tys9, tys10, tys11, tys12, tys13, tys14, tys15, tys16, tys17, tys18, tys19, tys20, tys21, tys22, tys23, Try.ntmps32, Try.results32]
      refine RunL.callp rfl rfl ok_f77 hgl (by simp only [pureL, pureB, pr, Bool.and_self]) rfl ?_
      simp only [run0, run1, run2, run3, run4, run5, run6, run7, run8, run9, run10, run11, run12, run13, run14, run15, run16, run17, run18, run19, run20, run21, run22, reduceCtorEq, Nat.reduceEqDiff, Nat.reduceAdd, Nat.reduceSub, Nat.reduceLeDiff, indexAddrA, indexRefA, appendA, strA, Nat.reduceMul, Nat.zero_mul, Nat.reduceMod, Int.reduceEq, Int.reduceLT, Int.reduceLE, Nat.reduceLT, Nat.lt_irrefl, Nat.reduceBEq, tys0, tys1, tys2, tys3, tys4, tys5, tys6, tys7, tys8, tys9, tys10, tys11, tys12, tys13, tys14, tys15, tys16, tys17, tys18, tys19, tys20, tys21, tys22, tys23, Try.ntmps32, Try.results32, List.length_map, c1, c2, b3, b4, Int.toNat_natCast, Int.natCast_nonneg]
      refine ⟨by kernel_rfl, ?_⟩
      refine RunL.callp rfl rfl ok_f78 (hc) (by first | rfl | simp only [pureL, pureB, Bool.and_self, Bool.and_true, Bool.true_and]) rfl ?_
      by_cases ho : 0 ≤ cmpQ (l.getD (cutM l) (0, 1)) (r.getD (cutL r) (0, 1))
      · have ho2 : overB l r = true := by simp only [overB, m1, m2, ho]; rfl
        simp only [run0, run1, run2, run3, run4, run5, run6, run7, run8, run9, run10, run11, run12, run13, run14, run15, run16, run17, run18, run19, run20, run21, run22, reduceCtorEq, Nat.reduceEqDiff, Nat.reduceAdd, Nat.reduceSub, Nat.reduceLeDiff, indexAddrA, indexRefA, appendA, strA, Nat.reduceMul, Nat.zero_mul, Nat.reduceMod, Int.reduceEq, Int.reduceLT, Int.reduceLE, Nat.reduceLT, Nat.lt_irrefl, Nat.reduceBEq, tys0, tys1, tys2, tys3, tys4, tys5, tys6, tys7, tys8, tys9, tys10, tys11, tys12, tys13, tys14, tys15, tys16, tys17, tys18, tys19, tys20, tys21, tys22, tys23, Try.ntmps32, Try.results32, ho]
        refine RunL.callp rfl rfl ok_f79 (shInt_ok 0) (by first | rfl | simp only [pureL, pureB, Bool.and_self, Bool.and_true, Bool.true_and]) rfl ?_
        simp only [run0, run1, run2, run3, run4, run5, run6, run7, run8, run9, run10, run11, run12, run13, run14, run15, run16, run17, run18, run19, run20, run21, run22, reduceCtorEq, Nat.reduceEqDiff, Nat.reduceAdd, Nat.reduceSub, Nat.reduceLeDiff, indexAddrA, indexRefA, appendA, strA, Nat.reduceMul, Nat.zero_mul, Nat.reduceMod, Int.reduceEq, Int.reduceLT, Int.reduceLE, Nat.reduceLT, Nat.lt_irrefl, Nat.reduceBEq, tys0, tys1, tys2, tys3, tys4, tys5, tys6, tys7, tys8, tys9, tys10, tys11, tys12, tys13, tys14, tys15, tys16, tys17, tys18, tys19, tys20, tys21, tys22, tys23, Try.ntmps32, Try.results32, fr]
        exact Fin.eq (by simp [cutR, g1, g2, ho2, frE]) rfl
      · have ho2 : overB l r = false := by simp only [overB, m1, m2, ho]; rfl
        have hk := key (P := True) ho2
        simp only [run0, run1, run2, run3, run4, run5, run6, run7, run8, run9, run10, run11, run12, run13, run14, run15, run16, run17, run18, run19, run20, run21, run22, reduceCtorEq, Nat.reduceEqDiff, Nat.reduceAdd, Nat.reduceSub, Nat.reduceLeDiff, indexAddrA, indexRefA, appendA, strA, Nat.reduceMul, Nat.zero_mul, Nat.reduceMod, Int.reduceEq, Int.reduceLT, Int.reduceLE, Nat.reduceLT, Nat.lt_irrefl, Nat.reduceBEq, tys0, tys1, tys2, tys3, tys4, tys5, tys6, tys7, tys8, tys9, tys10, tys11, tys12, tys13, tys14, tys15, tys16, tys17, tys18, tys19, tys20, tys21, tys22, tys23, Try.ntmps32, Try.results32, ho]
        refine RunL.callp rfl rfl ok_f80 hss (by simp only [pureL, pureB, pl, pr, Bool.and_self]) rfl ?_
        rw [hk]
        cases hb : cutBad l r
        · simp only [run0, run1, run2, run3, run4, run5, run6, run7, run8, run9, run10, run11, run12, run13, run14, run15, run16, run17, run18, run19, run20, run21, run22, reduceCtorEq, Nat.reduceEqDiff, Nat.reduceAdd, Nat.reduceSub, Nat.reduceLeDiff, indexAddrA, indexRefA, appendA, strA, Nat.reduceMul, Nat.zero_mul, Nat.reduceMod, Int.reduceEq, Int.reduceLT, Int.reduceLE, Nat.reduceLT, Nat.lt_irrefl, Nat.reduceBEq, tys0, tys1, tys2, tys3, tys4, tys5, tys6, tys7, tys8, tys9, tys10, tys11, tys12, tys13, tys14, tys15, tys16, tys17, tys18, tys19, tys20, tys21, tys22, tys23, Try.ntmps32, Try.results32, frE]
          exact Fin.eq (by simp [cutR, g1, g2, ho2, hb, frE]) rfl
        · simp only [run0, run1, run2, run3, run4, run5, run6, run7, run8, run9, run10, run11, run12, run13, run14, run15, run16, run17, run18, run19, run20, run21, run22, reduceCtorEq, Nat.reduceEqDiff, Nat.reduceAdd, Nat.reduceSub, Nat.reduceLeDiff, indexAddrA, indexRefA, appendA, strA, Nat.reduceMul, Nat.zero_mul, Nat.reduceMod, Int.reduceEq, Int.reduceLT, Int.reduceLE, Nat.reduceLT, Nat.lt_irrefl, Nat.reduceBEq, tys0, tys1, tys2, tys3, tys4, tys5, tys6, tys7, tys8, tys9, tys10, tys11, tys12, tys13, tys14, tys15, tys16, tys17, tys18, tys19, tys20, tys21, tys22, tys23, Try.ntmps32, Try.results32, frE]
          exact Fin.eq (by simp [cutR, g1, g2, ho2, hb, frE]) rfl

/-! ### the program -/
theorem cmpQ_one {p q : Fr} : cmpQ p q = 1 ↔ 0 < cmpQ p q := by rcases cmpQ_val p q with h | h | h <;> omega
theorem cmpQ_minus {p q : Fr} : cmpQ p q = -1 ↔ cmpQ p q < 0 := by rcases cmpQ_val p q with h | h | h <;> omega
theorem goodF_at {l : List Fr} {b : Nat} (h : goodL l = true) (hb : b < l.length) : goodF (l.getD b (0, 1)) = true := by
  rw [List.getD_eq_getElem?_getD, List.getElem?_eq_getElem hb]
  exact (goodL_all h).2 _ (List.getElem_mem hb)

theorem implCut_ok (l r : List Fr) (hl : l.length ≤ 1048576) (hr : r.length ≤ 1048576) : Ct Try.prog 34 [.sl false (l.map frE), .sl false (r.map frE)] [] (cutR l r) [] := by
  have pl := frs_pure l
  have pr := frs_pure r
  refine Ct.by_ hmix [] Try.func34 rfl ?_
  simp only [run0, run1, run2, run3, run4, run5, run6, run7, run8, run9, run10, run11, run12, run13, run14, run15, run16, run17, run18, run19, run20, run21, run22, reduceCtorEq, Nat.reduceEqDiff, Nat.reduceAdd, Nat.reduceSub, Nat.reduceLeDiff, indexAddrA, indexRefA, appendA, strA, Nat.reduceMul, Nat.zero_mul, Nat.reduceMod, Int.reduceEq, Int.reduceLT, Int.reduceLE, Nat.reduceLT, Nat.lt_irrefl, Nat.reduceBEq, tys0, tys1, tys2, tys3, tys4, tys5, tys6, tys7, tys8, tys9, tys10, tys11, tys12, tys13, tys14, tys15, tys16, tys17, tys18, tys19, tys20, tys21, tys22, tys23, Try.ntmps34, Try.results34]
  refine RunL.callp rfl rfl ok_f81 (fractionsOk_ok l hl) (by simp only [pureL, pureB, pl, Bool.and_self]) rfl ?_
  cases g1 : goodL l
  · simp only [run0, run1, run2, run3, run4, run5, run6, run7, run8, run9, run10, run11, run12, run13, run14, run15, run16, run17, run18, run19, run20, run21, run22, reduceCtorEq, Nat.reduceEqDiff, Nat.reduceAdd, Nat.reduceSub, Nat.reduceLeDiff, indexAddrA, indexRefA, appendA, strA, Nat.reduceMul, Nat.zero_mul, Nat.reduceMod, Int.reduceEq, Int.reduceLT, Int.reduceLE, Nat.reduceLT, Nat.lt_irrefl, Nat.reduceBEq, tys0, tys1, tys2, tys3, tys4, tys5, tys6, tys7, tys8, tys9, tys10, tys11, tys12, tys13, tys14, tys15, tys16, tys17, tys18, tys19, tys20, tys21, tys22, tys23, Try.ntmps34, Try.results34]
    exact Fin.eq (by simp [cutR, g1, frE]) rfl
  simp only [run0, run1, run2, run3, run4, run5, run6, run7, run8, run9, run10, run11, run12, run13, run14, run15, run16, run17, run18, run19, run20, run21, run22, reduceCtorEq, Nat.reduceEqDiff, Nat.reduceAdd, Nat.reduceSub, Nat.reduceLeDiff, indexAddrA, indexRefA, appendA, strA, Nat.reduceMul, Nat.zero_mul, Nat.reduceMod, Int.reduceEq, Int.reduceLT, Int.reduceLE, Nat.reduceLT, Nat.lt_irrefl, Nat.reduceBEq, tys0, tys1, tys2, tys3, tys4, tys5, tys6, tys7, tys8, tys9, tys10, tys11, tys12, tys13, tys14, tys15, tys16, tys17, tys18, tys19, tys20, tys21, tys22, tys23, Try.ntmps34, Try.results34]
  refine RunL.callp rfl rfl ok_f81 (fractionsOk_ok r hr) (by simp only [pureL, pureB, pr, Bool.and_self]) rfl ?_
  cases g2 : goodL r
  · simp only [run0, run1, run2, run3, run4, run5, run6, run7, run8, run9, run10, run11, run12, run13, run14, run15, run16, run17, run18, run19, run20, run21, run22, reduceCtorEq, Nat.reduceEqDiff, Nat.reduceAdd, Nat.reduceSub, Nat.reduceLeDiff, indexAddrA, indexRefA, appendA, strA, Nat.reduceMul, Nat.zero_mul, Nat.reduceMod, Int.reduceEq, Int.reduceLT, Int.reduceLE, Nat.reduceLT, Nat.lt_irrefl, Nat.reduceBEq, tys0, tys1, tys2, tys3, tys4, tys5, tys6, tys7, tys8, tys9, tys10, tys11, tys12, tys13, tys14, tys15, tys16, tys17, tys18, tys19, tys20, tys21, tys22, tys23, Try.ntmps34, Try.results34]
    exact Fin.eq (by simp [cutR, g1, g2, frE]) rfl
  simp only [run0, run1, run2, run3, run4, run5, run6, run7, run8, run9, run10, run11, run12, run13, run14, run15, run16, run17, run18, run19, run20, run21, run22, reduceCtorEq, Nat.reduceEqDiff, Nat.reduceAdd, Nat.reduceSub, Nat.reduceLeDiff, indexAddrA, indexRefA, appendA, strA, Nat.reduceMul, Nat.zero_mul, Nat.reduceMod, Int.reduceEq, Int.reduceLT, Int.reduceLE, Nat.reduceLT, Nat.lt_irrefl, Nat.reduceBEq, tys0, tys1, tys2, tys3, tys4, tys5, tys6, tys7, tys8, tys9, tys10, tys11, tys12, tys13, tys14, tys15, tys16, tys17, tys18, tys19, tys20, tys21, tys22, tys23, Try.ntmps34, Try.results34, List.length_map]
  refine AWp.loop_inv (ι := BeS) (fun q => ⟨[.sl false (l.map frE), .sl false (r.map frE), .junk, .junk, .ptr 0 0, .int .i64 0, .int .i64 0, .bool false, .int .i64 q.b, .int .i64 0, .junk, .junk, .junk, .junk, .junk, .junk, .junk, .junk, .junk, .junk, .junk, .junk, .junk, .junk, .junk, .sl false (l.map frE), .int .i64 l.length, .int .i64 q.d.length, .junk, .junk, .junk, .junk, .junk, .junk, .junk, .junk, .junk, .junk, .junk, .junk, .junk, .junk, .junk, .junk, .junk, .junk, .junk, .junk, .junk, .junk, .junk, .junk, .junk, .junk, .junk, .junk, .junk, .junk, .junk, .junk, .junk, .junk, .junk, .junk, .junk, .junk, .junk, .junk, .junk, .junk, .junk, .junk, .junk, .junk, .junk, .junk, .junk, .junk, .junk, .junk, .junk, .junk, .junk, .junk, .junk, .junk, .junk, .junk, .junk, .junk], .box 42 [.int .i64 0, .int .i64 0] :: q.X⟩)
    (fun q => l = q.d ++ q.r ∧ q.b ≤ q.d.length ∧ bestI 1 l q.b q.r q.d.length = bestI 1 l 0 l 0) (fun q => q.r.length) ⟨[], l, 0, []⟩ ⟨rfl, Nat.le_refl _, rfl⟩ ⟨by simp only [List.length_nil, Int.natCast_zero]; repeat constructor, rfl⟩ ?_
  rintro ⟨d, q, b, X⟩ ⟨ha, h2, h3⟩
  refine W.sound hmix (E := []) ?_
  simp only at ha h2 h3
  cases q with
  | cons e q =>
    obtain ⟨e1, e2, e5⟩ := frs_split ha hl
    have hb : b < l.length := by omega
    have e3 := frs_at hb
    have hc := cmpP_ok e (l.getD b (0, 1))
    rw [← cmpPQ ((goodL_all g1).2 e (by rw [ha]; simp)) (goodF_at g1 hb)] at hc
    simp only [fr] at hc
    have hb2 : (b : Int) < (l.length : Int) := by omega
    simp only [run0, run1, run2, run3, run4, run5, run6, run7, run8, run9, run10, run11, run12, run13, run14, run15, run16, run17, run18, run19, run20, run21, run22, reduceCtorEq, Nat.reduceEqDiff, Nat.reduceAdd, Nat.reduceSub, Nat.reduceLeDiff, indexAddrA, indexRefA, appendA, strA, Nat.reduceMul, Nat.zero_mul, Nat.reduceMod, Int.reduceEq, Int.reduceLT, Int.reduceLE, Nat.reduceLT, Nat.lt_irrefl, Nat.reduceBEq, tys0, tys1, tys2, tys3, tys4, tys5, tys6, tys7, tys8, tys9, tys10, tys11, tys12, tys13, tys14, tys15, tys16, tys17, tys18, tys19, tys20, tys21, tys22, tys23, Try.ntmps34, Try.results34, List.length_map, e1, e2, e3, hb2, Int.toNat_natCast, Int.natCast_nonneg, List.getElem?_append_right, Nat.sub_self]
    refine ⟨by kernel_rfl, ?_⟩
    refine RunL.callp rfl rfl ok_f82 (hc) (by first | rfl | simp only [pureL, pureB, Bool.and_self, Bool.and_true, Bool.true_and]) rfl ?_
    rw [bestI_cons 1 l e q b d.length] at h3
    by_cases hp : 0 < cmpQ e (l.getD b (0, 1))
    · rw [if_pos (cmpQ_one.2 hp)] at h3
      simp only [run0, run1, run2, run3, run4, run5, run6, run7, run8, run9, run10, run11, run12, run13, run14, run15, run16, run17, run18, run19, run20, run21, run22, reduceCtorEq, Nat.reduceEqDiff, Nat.reduceAdd, Nat.reduceSub, Nat.reduceLeDiff, indexAddrA, indexRefA, appendA, strA, Nat.reduceMul, Nat.zero_mul, Nat.reduceMod, Int.reduceEq, Int.reduceLT, Int.reduceLE, Nat.reduceLT, Nat.lt_irrefl, Nat.reduceBEq, tys0, tys1, tys2, tys3, tys4, tys5, tys6, tys7, tys8, tys9, tys10, tys11, tys12, tys13, tys14, tys15, tys16, tys17, tys18, tys19, tys20, tys21, tys22, tys23, Try.ntmps34, Try.results34, hp, e5]
      exact ⟨⟨d ++ [e], q, d.length, _⟩, ⟨by simp [ha], by simp, by simp only [List.length_append, List.length_cons, List.length_nil]; exact h3⟩, by simp, by simp only [List.length_append, List.length_cons, List.length_nil]; repeat constructor, rfl⟩
    · rw [if_neg (fun e => hp (cmpQ_one.1 e))] at h3
      simp only [run0, run1, run2, run3, run4, run5, run6, run7, run8, run9, run10, run11, run12, run13, run14, run15, run16, run17, run18, run19, run20, run21, run22, reduceCtorEq, Nat.reduceEqDiff, Nat.reduceAdd, Nat.reduceSub, Nat.reduceLeDiff, indexAddrA, indexRefA, appendA, strA, Nat.reduceMul, Nat.zero_mul, Nat.reduceMod, Int.reduceEq, Int.reduceLT, Int.reduceLE, Nat.reduceLT, Nat.lt_irrefl, Nat.reduceBEq, tys0, tys1, tys2, tys3, tys4, tys5, tys6, tys7, tys8, tys9, tys10, tys11, tys12, tys13, tys14, tys15, tys16, tys17, tys18, tys19, tys20, tys21, tys22, tys23, Try.ntmps34, Try.results34, hp, e5]
      exact ⟨⟨d ++ [e], q, b, _⟩, ⟨by simp [ha], by simp; omega, by simp only [List.length_append, List.length_cons, List.length_nil]; exact h3⟩, by simp, by simp only [List.length_append, List.length_cons, List.length_nil]; repeat constructor, rfl⟩
  | nil =>
  have e1 := frs_end ha
  have hbm : b = cutM l := h3
  clear h2 h3 ha
  subst hbm
  simp only [run0, run1, run2, run3, run4, run5, run6, run7, run8, run9, run10, run11, run12, run13, run14, run15, run16, run17, run18, run19, run20, run21, run22, reduceCtorEq, Nat.reduceEqDiff, Nat.reduceAdd, Nat.reduceSub, Nat.reduceLeDiff, indexAddrA, indexRefA, appendA, strA, Nat.reduceMul, Nat.zero_mul, Nat.reduceMod, Int.reduceEq, Int.reduceLT, Int.reduceLE, Nat.reduceLT, Nat.lt_irrefl, Nat.reduceBEq, tys0, tys1, tys2, tys3, tys4, tys5, tys6, tys7, tys8, tys9, tys10, tys11, tys12, tys13, tys14, tys15, tys16, tys17, tys18, tys19, tys20, tys21, tys22, tys23, Try.ntmps34, Try.results34, List.length_map, e1]
  refine AWp.loop_inv (ι := BeS) (fun q => ⟨[.sl false (l.map frE), .sl false (r.map frE), .junk, .junk, .ptr 0 0, .int .i64 0, .int .i64 0, .bool false, .int .i64 (cutM l), .int .i64 q.b, .junk, .junk, .junk, .junk, .junk, .junk, .junk, .junk, .junk, .junk, .junk, .junk, .junk, .junk, .junk, .junk, .junk, .junk, .junk, .junk, .junk, .junk, .junk, .junk, .junk, .junk, .junk, .junk, .junk, .junk, .junk, .sl false (r.map frE), .int .i64 r.length, .int .i64 q.d.length, .junk, .junk, .junk, .junk, .junk, .junk, .junk, .junk, .junk, .junk, .junk, .junk, .junk, .junk, .junk, .junk, .junk, .junk, .junk, .junk, .junk, .junk, .junk, .junk, .junk, .junk, .junk, .junk, .junk, .junk, .junk, .junk, .junk, .junk, .junk, .junk, .junk, .junk, .junk, .junk, .junk, .junk, .junk, .junk, .junk, .junk], .box 42 [.int .i64 0, .int .i64 0] :: q.X⟩)
    (fun q => r = q.d ++ q.r ∧ q.b ≤ q.d.length ∧ bestI (-1) r q.b q.r q.d.length = bestI (-1) r 0 r 0) (fun q => q.r.length) ⟨[], r, 0, X⟩ ⟨rfl, Nat.le_refl _, rfl⟩ ⟨by simp only [List.length_nil, Int.natCast_zero]; repeat constructor, rfl⟩ ?_
  rintro ⟨d, q, b, X⟩ ⟨ha, h2, h3⟩
  refine W.sound hmix (E := []) ?_
  simp only at ha h2 h3
  cases q with
  | cons e q =>
    obtain ⟨e1, e2, e5⟩ := frs_split ha hr
    have hb : b < r.length := by omega
    have e3 := frs_at hb
    have hc := cmpP_ok e (r.getD b (0, 1))
    rw [← cmpPQ ((goodL_all g2).2 e (by rw [ha]; simp)) (goodF_at g2 hb)] at hc
    simp only [fr] at hc
    have hb2 : (b : Int) < (r.length : Int) := by omega
    simp only [run0, run1, run2, run3, run4, run5, run6, run7, run8, run9, run10, run11, run12, run13, run14, run15, run16, run17, run18, run19, run20, run21, run22, reduceCtorEq, Nat.reduceEqDiff, Nat.reduceAdd, Nat.reduceSub, Nat.reduceLeDiff, indexAddrA, indexRefA, appendA, strA, Nat.reduceMul, Nat.zero_mul, Nat.reduceMod, Int.reduceEq, Int.reduceLT, Int.reduceLE, Nat.reduceLT, Nat.lt_irrefl, Nat.reduceBEq, tys0, tys1, tys2, tys3, tys4, tys5, tys6, tys7, tys8, tys9, tys10, tys11, tys12, tys13, tys14, tys15, tys16, tys17, tys18, tys19, tys20, tys21, tys22, tys23, Try.ntmps34, Try.results34, List.length_map, e1, e2, e3, hb2, Int.toNat_natCast, Int.natCast_nonneg, List.getElem?_append_right, Nat.sub_self]
    refine ⟨by kernel_rfl, ?_⟩
    refine RunL.callp rfl rfl ok_f82 (hc) (by first | rfl | simp only [pureL, pureB, Bool.and_self, Bool.and_true, Bool.true_and]) rfl ?_
    rw [bestI_cons (-1) r e q b d.length] at h3
    by_cases hp : cmpQ e (r.getD b (0, 1)) < 0
    · rw [if_pos (cmpQ_minus.2 hp)] at h3
      simp only [run0, run1, run2, run3, run4, run5, run6, run7, run8, run9, run10, run11, run12, run13, run14, run15, run16, run17, run18, run19, run20, run21, run22, reduceCtorEq, Nat.reduceEqDiff, Nat.reduceAdd, Nat.reduceSub, Nat.reduceLeDiff, indexAddrA, indexRefA, appendA, strA, Nat.reduceMul, Nat.zero_mul, Nat.reduceMod, Int.reduceEq, Int.reduceLT, Int.reduceLE, Nat.reduceLT, Nat.lt_irrefl, Nat.reduceBEq, tys0, tys1, tys2, tys3, tys4, tys5, tys6, tys7, tys8, tys9, tys10, tys11, tys12, tys13, tys14, tys15, tys16, tys17, tys18, tys19, tys20, tys21, tys22, tys23, Try.ntmps34, Try.results34, hp, e5]
      exact ⟨⟨d ++ [e], q, d.length, _⟩, ⟨by simp [ha], by simp, by simp only [List.length_append, List.length_cons, List.length_nil]; exact h3⟩, by simp, by simp only [List.length_append, List.length_cons, List.length_nil]; repeat constructor, rfl⟩
    · rw [if_neg (fun e => hp (cmpQ_minus.1 e))] at h3
      simp only [run0, run1, run2, run3, run4, run5, run6, run7, run8, run9, run10, run11, run12, run13, run14, run15, run16, run17, run18, run19, run20, run21, run22, reduceCtorEq, Nat.reduceEqDiff, Nat.reduceAdd, Nat.reduceSub, Nat.reduceLeDiff, indexAddrA, indexRefA, appendA, strA, Nat.reduceMul, Nat.zero_mul, Nat.reduceMod, Int.reduceEq, Int.reduceLT, Int.reduceLE, Nat.reduceLT, Nat.lt_irrefl, Nat.reduceBEq, tys0, tys1, tys2, tys3, tys4, tys5, tys6, tys7, tys8, tys9, tys10, tys11, tys12, tys13, tys14, tys15, tys16, tys17, tys18, tys19, tys20, tys21, tys22, tys23, Try.ntmps34, Try.results34, hp, e5]
      exact ⟨⟨d ++ [e], q, b, _⟩, ⟨by simp [ha], by simp; omega, by simp only [List.length_append, List.length_cons, List.length_nil]; exact h3⟩, by simp, by simp only [List.length_append, List.length_cons, List.length_nil]; repeat constructor, rfl⟩
  | nil =>
  have e1 := frs_end ha
  have hbm : b = cutL r := h3
  clear h2 h3 ha
  subst hbm
  have hss := simplest_ok l r hl hr
  have hk : simR l r = if cutBad l r then .tup [frE (0, 0), .bool false] else .tup [frE (frN (cutX l r), frD (cutX l r)), .bool true] := by
    unfold simR; cases cutBad l r <;> rfl
  cases m1 : l.isEmpty
  case true =>
    have k1 := isE_not m1
    have ho : overB l r = false := by simp [overB, m1]
    simp only [run0, run1, run2, run3, run4, run5, run6, run7, run8, run9, run10, run11, run12, run13, run14, run15, run16, run17, run18, run19, run20, run21, run22, reduceCtorEq, Nat.reduceEqDiff, Nat.reduceAdd, Nat.reduceSub, Nat.reduceLeDiff, indexAddrA, indexRefA, appendA, strA, Nat.reduceMul, Nat.zero_mul, Nat.reduceMod, Int.reduceEq, Int.reduceLT, Int.reduceLE, Nat.reduceLT, Nat.lt_irrefl, Nat.reduceBEq, tys0, tys1, tys2, tys3, tys4, tys5, tys6, tys7, tys8, tys9, tys10, tys11, tys12, tys13, tys14, tys15, tys16, tys17, tys18, tys19, tys20, tys21, tys22, tys23, Try.ntmps34, Try.results34, List.length_map, e1, k1]
    refine ⟨by kernel_rfl, ?_⟩
    refine RunL.callp rfl rfl ok_f84 hss (by simp only [pureL, pureB, pl, pr, Bool.and_self]) rfl ?_
    rw [hk]
    cases hb : cutBad l r
    · simp only [run0, run1, run2, run3, run4, run5, run6, run7, run8, run9, run10, run11, run12, run13, run14, run15, run16, run17, run18, run19, run20, run21, run22, reduceCtorEq, Nat.reduceEqDiff, Nat.reduceAdd, Nat.reduceSub, Nat.reduceLeDiff, indexAddrA, indexRefA, appendA, strA, Nat.reduceMul, Nat.zero_mul, Nat.reduceMod, Int.reduceEq, Int.reduceLT, Int.reduceLE, Nat.reduceLT, Nat.lt_irrefl, Nat.reduceBEq, tys0, tys1, tys2, tys3, tys4, tys5, tys6, tys7, tys8, tys9, tys10, tys11, tys12, tys13, tys14, tys15, tys16, tys17, tys18, tys19, tys20, tys21, tys22, tys23, Try.ntmps34, Try.results34, frE, List.getElem?_append_right, Nat.sub_self]
      exact Fin.eq (by simp [cutR, g1, g2, ho, hb, frE]) rfl
    · simp only [run0, run1, run2, run3, run4, run5, run6, run7, run8, run9, run10, run11, run12, run13, run14, run15, run16, run17, run18, run19, run20, run21, run22, reduceCtorEq, Nat.reduceEqDiff, Nat.reduceAdd, Nat.reduceSub, Nat.reduceLeDiff, indexAddrA, indexRefA, appendA, strA, Nat.reduceMul, Nat.zero_mul, Nat.reduceMod, Int.reduceEq, Int.reduceLT, Int.reduceLE, Nat.reduceLT, Nat.lt_irrefl, Nat.reduceBEq, tys0, tys1, tys2, tys3, tys4, tys5, tys6, tys7, tys8, tys9, tys10, tys11, tys12, tys13, tys14, tys15, tys16, tys17, tys18, tys19, tys20, tys21, tys22, tys23, Try.ntmps34, Try.results34, frE, List.getElem?_append_right, Nat.sub_self]
      exact Fin.eq (by simp [cutR, g1, g2, ho, hb, frE]) rfl
  case false =>
    have k1 := isE_length m1
    cases m2 : r.isEmpty
    case true =>
      have k2 := isE_not m2
      have ho : overB l r = false := by simp [overB, m2]
      simp only [run0, run1, run2, run3, run4, run5, run6, run7, run8, run9, run10, run11, run12, run13, run14, run15, run16, run17, run18, run19, run20, run21, run22, reduceCtorEq, Nat.reduceEqDiff, Nat.reduceAdd, Nat.reduceSub, Nat.reduceLeDiff, indexAddrA, indexRefA, appendA, strA, Nat.reduceMul, Nat.zero_mul, Nat.reduceMod, Int.reduceEq, Int.reduceLT, Int.reduceLE, Nat.reduceLT, Nat.lt_irrefl, Nat.reduceBEq, tys0, tys1, tys2, tys3, tys4, tys5, tys6, tys7, tys8, tys9, tys10, tys11, tys12, tys13, tys14, tys15, tys16, tys17, tys18, tys19, tys20, tys21, tys22, tys23, Try.ntmps34, Try.results34, List.length_map, e1, k1, k2]
      refine ⟨by kernel_rfl, ?_⟩
      refine RunL.callp rfl rfl ok_f84 hss (by simp only [pureL, pureB, pl, pr, Bool.and_self]) rfl ?_
      rw [hk]
      cases hb : cutBad l r
      · simp only [run0, run1, run2, run3, run4, run5, run6, run7, run8, run9, run10, run11, run12, run13, run14, run15, run16, run17, run18, run19, run20, run21, run22, reduceCtorEq, Nat.reduceEqDiff, Nat.reduceAdd, Nat.reduceSub, Nat.reduceLeDiff, indexAddrA, indexRefA, appendA, strA, Nat.reduceMul, Nat.zero_mul, Nat.reduceMod, Int.reduceEq, Int.reduceLT, Int.reduceLE, Nat.reduceLT, Nat.lt_irrefl, Nat.reduceBEq, tys0, tys1, tys2, tys3, tys4, tys5, tys6, tys7, tys8, tys9, tys10, tys11, tys12, tys13, tys14, tys15, tys16, tys17, tys18, tys19, tys20, tys21, tys22, tys23, Try.ntmps34, Try.results34, frE, List.getElem?_append_right, Nat.sub_self]
        exact Fin.eq (by simp [cutR, g1, g2, ho, hb, frE]) rfl
      · simp only [run0, run1, run2, run3, run4, run5, run6, run7, run8, run9, run10, run11, run12, run13, run14, run15, run16, run17, run18, run19, run20, run21, run22, reduceCtorEq, Nat.reduceEqDiff, Nat.reduceAdd, Nat.reduceSub, Nat.reduceLeDiff, indexAddrA, indexRefA, appendA, strA, Nat.reduceMul, Nat.zero_mul, Nat.reduceMod, Int.reduceEq, Int.reduceLT, Int.reduceLE, Nat.reduceLT, Nat.lt_irrefl, Nat.reduceBEq, tys0, tys1, tys2, tys3, tys4, tys5, tys6, tys7, tys8, tys9, tys10, tys11, tys12, tys13, tys14, tys15, tys16, tys17, tys18, tys19, tys20, tys21, tys22, tys23, Try.ntmps34, Try.results34, frE, List.getElem?_append_right, Nat.sub_self]
        exact Fin.eq (by simp [cutR, g1, g2, ho, hb, frE]) rfl
    case false =>
      have k2 := isE_length m2
      have b1 : cutM l < l.length := bestI_lt _ _ _ _ _ (by omega) (by omega)
      have b2 : cutL r < r.length := bestI_lt _ _ _ _ _ (by omega) (by omega)
      have c1 := frs_at b1
      have c2 := frs_at b2
      have b3 : (cutM l : Int) < (l.length : Int) := by omega
      have b4 : (cutL r : Int) < (r.length : Int) := by omega
      have hc := cmpP_ok (l.getD (cutM l) (0, 1)) (r.getD (cutL r) (0, 1))
      rw [← cmpPQ (goodF_at g1 b1) (goodF_at g2 b2)] at hc
      simp only [fr] at hc
      simp only [run0, run1, run2, run3, run4, run5, run6, run7, run8, run9, run10, run11, run12, run13, run14, run15, run16, run17, run18, run19, run20, run21, run22, reduceCtorEq, Nat.reduceEqDiff, Nat.reduceAdd, Nat.reduceSub, Nat.reduceLeDiff, indexAddrA, indexRefA, appendA, strA, Nat.reduceMul, Nat.zero_mul, Nat.reduceMod, Int.reduceEq, Int.reduceLT, Int.reduceLE, Nat.reduceLT, Nat.lt_irrefl, Nat.reduceBEq, tys0, tys1, tys2, tys3, tys4, tys5, tys6, tys7, tys8, tys9, tys10, tys11, tys12, tys13, tys14, tys15, tys16, tys17, tys18, tys19, tys20, tys21, tys22, tys23, Try.ntmps34, Try.results34, List.length_map, e1, k1, k2, c1, c2, b3, b4, Int.toNat_natCast, Int.natCast_nonneg]
      refine ⟨by kernel_rfl, ?_⟩
      refine RunL.callp rfl rfl ok_f82 (hc) (by first | rfl | simp only [pureL, pureB, Bool.and_self, Bool.and_true, Bool.true_and]) rfl ?_
      by_cases ho : 0 ≤ cmpQ (l.getD (cutM l) (0, 1)) (r.getD (cutL r) (0, 1))
      · have ho2 : overB l r = true := by simp only [overB, m1, m2, ho]; rfl
        simp only [run0, run1, run2, run3, run4, run5, run6, run7, run8, run9, run10, run11, run12, run13, run14, run15, run16, run17, run18, run19, run20, run21, run22, reduceCtorEq, Nat.reduceEqDiff, Nat.reduceAdd, Nat.reduceSub, Nat.reduceLeDiff, indexAddrA, indexRefA, appendA, strA, Nat.reduceMul, Nat.zero_mul, Nat.reduceMod, Int.reduceEq, Int.reduceLT, Int.reduceLE, Nat.reduceLT, Nat.lt_irrefl, Nat.reduceBEq, tys0, tys1, tys2, tys3, tys4, tys5, tys6, tys7, tys8, tys9, tys10, tys11, tys12, tys13, tys14, tys15, tys16, tys17, tys18, tys19, tys20, tys21, tys22, tys23, Try.ntmps34, Try.results34, ho]
        refine RunL.callp rfl rfl ok_f83 (whole_ok 0) (by first | rfl | simp only [pureL, pureB, Bool.and_self, Bool.and_true, Bool.true_and]) rfl ?_
        simp only [run0, run1, run2, run3, run4, run5, run6, run7, run8, run9, run10, run11, run12, run13, run14, run15, run16, run17, run18, run19, run20, run21, run22, reduceCtorEq, Nat.reduceEqDiff, Nat.reduceAdd, Nat.reduceSub, Nat.reduceLeDiff, indexAddrA, indexRefA, appendA, strA, Nat.reduceMul, Nat.zero_mul, Nat.reduceMod, Int.reduceEq, Int.reduceLT, Int.reduceLE, Nat.reduceLT, Nat.lt_irrefl, Nat.reduceBEq, tys0, tys1, tys2, tys3, tys4, tys5, tys6, tys7, tys8, tys9, tys10, tys11, tys12, tys13, tys14, tys15, tys16, tys17, tys18, tys19, tys20, tys21, tys22, tys23, Try.ntmps34, Try.results34, frE]
        exact Fin.eq (by simp [cutR, g1, g2, ho2, frE]) rfl
      · have ho2 : overB l r = false := by simp only [overB, m1, m2, ho]; rfl
        simp only [run0, run1, run2, run3, run4, run5, run6, run7, run8, run9, run10, run11, run12, run13, run14, run15, run16, run17, run18, run19, run20, run21, run22, reduceCtorEq, Nat.reduceEqDiff, Nat.reduceAdd, Nat.reduceSub, Nat.reduceLeDiff, indexAddrA, indexRefA, appendA, strA, Nat.reduceMul, Nat.zero_mul, Nat.reduceMod, Int.reduceEq, Int.reduceLT, Int.reduceLE, Nat.reduceLT, Nat.lt_irrefl, Nat.reduceBEq, tys0, tys1, tys2, tys3, tys4, tys5, tys6, tys7, tys8, tys9, tys10, tys11, tys12, tys13, tys14, tys15, tys16, tys17, tys18, tys19, tys20, tys21, tys22, tys23, Try.ntmps34, Try.results34, ho]
        refine RunL.callp rfl rfl ok_f84 hss (by simp only [pureL, pureB, pl, pr, Bool.and_self]) rfl ?_
        rw [hk]
        cases hb : cutBad l r
        · simp only [run0, run1, run2, run3, run4, run5, run6, run7, run8, run9, run10, run11, run12, run13, run14, run15, run16, run17, run18, run19, run20, run21, run22, reduceCtorEq, Nat.reduceEqDiff, Nat.reduceAdd, Nat.reduceSub, Nat.reduceLeDiff, indexAddrA, indexRefA, appendA, strA, Nat.reduceMul, Nat.zero_mul, Nat.reduceMod, Int.reduceEq, Int.reduceLT, Int.reduceLE, Nat.reduceLT, Nat.lt_irrefl, Nat.reduceBEq, tys0, tys1, tys2, tys3, tys4, tys5, tys6, tys7, tys8, tys9, tys10, tys11, tys12, tys13, tys14, tys15, tys16, tys17, tys18, tys19, tys20, tys21, tys22, tys23, Try.ntmps34, Try.results34, frE, List.getElem?_append_right, Nat.sub_self]
          exact Fin.eq (by simp [cutR, g1, g2, ho2, hb, frE]) rfl
        · simp only [run0, run1, run2, run3, run4, run5, run6, run7, run8, run9, run10, run11, run12, run13, run14, run15, run16, run17, run18, run19, run20, run21, run22, reduceCtorEq, Nat.reduceEqDiff, Nat.reduceAdd, Nat.reduceSub, Nat.reduceLeDiff, indexAddrA, indexRefA, appendA, strA, Nat.reduceMul, Nat.zero_mul, Nat.reduceMod, Int.reduceEq, Int.reduceLT, Int.reduceLE, Nat.reduceLT, Nat.lt_irrefl, Nat.reduceBEq, tys0, tys1, tys2, tys3, tys4, tys5, tys6, tys7, tys8, tys9, tys10, tys11, tys12, tys13, tys14, tys15, tys16, tys17, tys18, tys19, tys20, tys21, tys22, tys23, Try.ntmps34, Try.results34, frE, List.getElem?_append_right, Nat.sub_self]
          exact Fin.eq (by simp [cutR, g1, g2, ho2, hb, frE]) rfl

end Go.Proofs.Ytllcljajlemmaaa
/-
  Cuts: lists of fractions that come in, their copies; the law.
-/
namespace Go.Proofs.Ytllcljajlemmaaa
open Go K
set_option linter.unusedSimpArgs false
set_option linter.unusedVariables false
set_option maxHeartbeats 1600000
set_option maxRecDepth 8000

theorem frs_in : ∀ es : List AV, (∀ x ∈ es, IsOf Try.prog 40 x) → ∃ l : List Fr, es = l.map frE
  | [], _ => ⟨[], rfl⟩
  | x :: es, hes => by
    obtain ⟨l, rfl⟩ := frs_in es fun y hy => hes y (List.mem_cons_of_mem _ hy)
    obtain ⟨n, d, rfl, _, _⟩ := laws_isFr (hes x (List.mem_cons_self ..))
    exact ⟨(n, d) :: l, rfl⟩
theorem laws_isFrS {x : AV} (h : IsOf Try.prog 46 x) : ∃ l : List Fr, x = .sl false (l.map frE) ∧ l.length ≤ 9223372036854775807 := by
  obtain ⟨n, h0⟩ := h.one ty_a46
  obtain ⟨es, e0, hel, hes⟩ := h0.slice Try.underlying46
  simp only [List.cons.injEq, and_true] at e0
  subst e0
  obtain ⟨l, rfl⟩ := frs_in es hes
  rw [mx_len] at hel
  exact ⟨l, rfl, by simpa using hel⟩
theorem szFractionS_ok (l : List Fr) (k : Int) (hl : l.length ≤ 9223372036854775807) (h0 : 0 ≤ k) (h1 : k ≤ 1048576) : Ct Try.prog 31 [.sl false (l.map frE), .int .i64 k] [] (.int .i64 (szN l.length k)) [] := by
  have hw : IntKind.i64.wrap (k - (l.length : Int)) = k - l.length := i64_id (by omega) (by omega)
  refine Ct.by_ hmix [] Try.func31 rfl ?_
  simp only [run0, run1, run2, run3, run4, run5, run6, run7, run8, run9, run10, run11, run12, run13, run14, run15, run16, run17, run18, run19, run20, run21, run22, reduceCtorEq, Nat.reduceEqDiff, Nat.reduceAdd, Nat.reduceSub, Nat.reduceLeDiff, indexAddrA, indexRefA, appendA, strA, Nat.reduceMul, Nat.zero_mul, Nat.reduceMod, Int.reduceEq, Int.reduceLT, Int.reduceLE, Nat.reduceLT, Nat.lt_irrefl, Nat.reduceBEq, tys0, tys1, tys2, tys3, tys4, tys5, tys6, tys7, tys8, tys9, tys10, tys11, tys12, tys13, tys14, tys15, tys16, tys17, tys18, tys19, tys20, tys21, tys22, tys23, Try.ntmps31, Try.results31, hw, List.length_map]
  by_cases h2 : k - (l.length : Int) < 0
  · simp only [run0, run1, run2, run3, run4, run5, run6, run7, run8, run9, run10, run11, run12, run13, run14, run15, run16, run17, run18, run19, run20, run21, run22, reduceCtorEq, Nat.reduceEqDiff, Nat.reduceAdd, Nat.reduceSub, Nat.reduceLeDiff, indexAddrA, indexRefA, appendA, strA, Nat.reduceMul, Nat.zero_mul, Nat.reduceMod, Int.reduceEq, Int.reduceLT, Int.reduceLE, Nat.reduceLT, Nat.lt_irrefl, Nat.reduceBEq, tys0, tys1, tys2, tys3, tys4, tys5, tys6, tys7, tys8, tys9, tys10, tys11, tys12, tys13, tys14, tys15, tys16, tys17, tys18, tys19, tys20, tys21, tys22, tys23, Try.ntmps31, Try.results31, h2]
    exact Fin.eq (by simp [szN, h2]) rfl
  · simp only [run0, run1, run2, run3, run4, run5, run6, run7, run8, run9, run10, run11, run12, run13, run14, run15, run16, run17, run18, run19, run20, run21, run22, reduceCtorEq, Nat.reduceEqDiff, Nat.reduceAdd, Nat.reduceSub, Nat.reduceLeDiff, indexAddrA, indexRefA, appendA, strA, Nat.reduceMul, Nat.zero_mul, Nat.reduceMod, Int.reduceEq, Int.reduceLT, Int.reduceLE, Nat.reduceLT, Nat.lt_irrefl, Nat.reduceBEq, tys0, tys1, tys2, tys3, tys4, tys5, tys6, tys7, tys8, tys9, tys10, tys11, tys12, tys13, tys14, tys15, tys16, tys17, tys18, tys19, tys20, tys21, tys22, tys23, Try.ntmps31, Try.results31, h2]
    exact Fin.eq (by simp [szN, h2]) rfl
abbrev frsZ (d : List Fr) (n : Nat) : List AV := d.map frE ++ List.replicate n (frE (0, 0))
theorem frsZ_noOwn (d : List Fr) (n : Nat) : noOwn (frsZ d n) = true := by
  refine List.all_eq_true.2 fun e he => ?_
  rcases List.mem_append.1 he with he | he
  · exact List.all_eq_true.1 (frs_noOwn d) e he
  · rw [(List.mem_replicate.1 he).2]; rfl
theorem toFractionS_ok (l : List Fr) (hl : l.length ≤ 1048576) : Ct Try.prog 33 [.sl false (l.map frE)] [] (.sl false (l.map frE)) [] := by
  have b0 : (l.length : Int) ≤ 137438953472 := by omega
  have b1 : (l.length : Int) ≤ 17592186044416 := by omega
  have b2 : (l.length : Int) ≤ 8796093022208 := by omega
  refine Ct.by_ hmix [] Try.func33 rfl ?_
  simp only [run0, run1, run2, run3, run4, run5, run6, run7, run8, run9, run10, run11, run12, run13, run14, run15, run16, run17, run18, run19, run20, run21, run22, reduceCtorEq, Nat.reduceEqDiff, Nat.reduceAdd, Nat.reduceSub, Nat.reduceLeDiff, indexAddrA, indexRefA, appendA, strA, Nat.reduceMul, Nat.zero_mul, Nat.reduceMod, Int.reduceEq, Int.reduceLT, Int.reduceLE, Nat.reduceLT, Nat.lt_irrefl, Nat.reduceBEq, tys0, tys1, tys2, tys3, tys4, tys5, tys6, tys7, tys8, tys9, tys10, tys11, tys12, tys13, tys14, tys15, tys16, tys17, tys18, tys19, tys20, tys21, tys22, tys23, Try.ntmps33, Try.results33, b0, b1, b2, List.length_map, Int.natCast_nonneg, Int.le_refl, Int.toNat_natCast]
  refine AWp.loop_inv (ι := List Fr × List Fr) (fun p => ⟨[.sl false (l.map frE), .junk, .junk, .ref 0 [] 0 l.length, .int .i64 p.1.length, .junk, .junk, .junk, .junk, .junk, .junk, .junk, .junk, .junk, .junk, .junk, .junk, .junk, .junk, .junk, .junk, .junk, .junk], [.vec 42 2 0 (frsZ p.1 p.2.length)]⟩)
    (fun p => l = p.1 ++ p.2) (fun p => p.2.length) ([], l) rfl ⟨by simp only [List.length_nil, Int.natCast_zero]; repeat constructor, rfl⟩ ?_
  rintro ⟨d, r⟩ ha
  refine W.sound hmix (E := []) ?_
  simp only at ha
  cases r with
  | nil =>
    have e1 := frs_end ha
    simp only [run0, run1, run2, run3, run4, run5, run6, run7, run8, run9, run10, run11, run12, run13, run14, run15, run16, run17, run18, run19, run20, run21, run22, reduceCtorEq, Nat.reduceEqDiff, Nat.reduceAdd, Nat.reduceSub, Nat.reduceLeDiff, indexAddrA, indexRefA, appendA, strA, Nat.reduceMul, Nat.zero_mul, Nat.reduceMod, Int.reduceEq, Int.reduceLT, Int.reduceLE, Nat.reduceLT, Nat.lt_irrefl, Nat.reduceBEq, tys0, tys1, tys2, tys3, tys4, tys5, tys6, tys7, tys8, tys9, tys10, tys11, tys12, tys13, tys14, tys15, tys16, tys17, tys18, tys19, tys20, tys21, tys22, tys23, Try.ntmps33, Try.results33, e1, List.length_map]
    have hd : d = l := by rw [ha, List.append_nil]
    subst hd
    exact Fin.value (Vw_frs rfl (by simp) rfl)
  | cons e r =>
    obtain ⟨e1, e2, e5⟩ := frs_split ha hl
    have e6 : (frsZ d (r.length + 1))[d.length]? = some (frE (0, 0)) := by simp [frsZ, List.replicate_succ]
    have e7 : noOwn (frsZ d (r.length + 1)) = true := frsZ_noOwn d (r.length + 1)
    have e8 : (frsZ d (r.length + 1)).set d.length (.agg [.int .i64 e.1, .int .i64 e.2]) = frsZ (d ++ [e]) r.length := by
      unfold frsZ
      rw [List.set_append_right _ _ (by simp)]; simp [List.replicate_succ, frE]
    have hc := toFraction_ok e.1 e.2
    simp only [fr] at hc
    have e9 : (frE (0, 0)).cells = [.int .i64 0, .int .i64 0] := rfl
    have e10 : aggB (frE (0, 0)) = true := rfl
    have e11 : setE (frE (0, 0)) 0 2 (.agg [.int .i64 e.1, .int .i64 e.2]) = .agg [.int .i64 e.1, .int .i64 e.2] := rfl
    simp only [run0, run1, run2, run3, run4, run5, run6, run7, run8, run9, run10, run11, run12, run13, run14, run15, run16, run17, run18, run19, run20, run21, run22, reduceCtorEq, Nat.reduceEqDiff, Nat.reduceAdd, Nat.reduceSub, Nat.reduceLeDiff, indexAddrA, indexRefA, appendA, strA, Nat.reduceMul, Nat.zero_mul, Nat.reduceMod, Int.reduceEq, Int.reduceLT, Int.reduceLE, Nat.reduceLT, Nat.lt_irrefl, Nat.reduceBEq, tys0, tys1, tys2, tys3, tys4, tys5, tys6, tys7, tys8, tys9, tys10, tys11, tys12, tys13, tys14, tys15, tys16, tys17, tys18, tys19, tys20, tys21, tys22, tys23, Try.ntmps33, Try.results33, List.length_map, e1, e2, Int.toNat_natCast, Int.natCast_nonneg]
    refine RunL.callp rfl rfl ok_f27 (hc) (by first | rfl | simp only [pureL, pureB, Bool.and_self, Bool.and_true, Bool.true_and]) rfl ?_
    simp only [run0, run1, run2, run3, run4, run5, run6, run7, run8, run9, run10, run11, run12, run13, run14, run15, run16, run17, run18, run19, run20, run21, run22, reduceCtorEq, Nat.reduceEqDiff, Nat.reduceAdd, Nat.reduceSub, Nat.reduceLeDiff, indexAddrA, indexRefA, appendA, strA, Nat.reduceMul, Nat.zero_mul, Nat.reduceMod, Int.reduceEq, Int.reduceLT, Int.reduceLE, Nat.reduceLT, Nat.lt_irrefl, Nat.reduceBEq, tys0, tys1, tys2, tys3, tys4, tys5, tys6, tys7, tys8, tys9, tys10, tys11, tys12, tys13, tys14, tys15, tys16, tys17, tys18, tys19, tys20, tys21, tys22, tys23, Try.ntmps33, Try.results33, List.length_map, e1, e5, e6, e7, e8, e9, e10, e11, Int.toNat_natCast, Int.natCast_nonneg]
    exact ⟨(d ++ [e], r), by simp [ha], by simp, by simp only [List.length_append, List.length_cons, List.length_nil]; repeat constructor, rfl⟩

theorem cutR_form (l r : List Fr) : ∃ (a b i k : Int) (o : Bool), cutR l r = .tup [.agg [.int .i64 a, .int .i64 b], .int .i64 i, .int .i64 k, .bool o] := by
  unfold cutR
  split
  · split
    · exact ⟨_, _, _, _, _, rfl⟩
    · split <;> exact ⟨_, _, _, _, _, rfl⟩
  · exact ⟨_, _, _, _, _, rfl⟩
theorem FnExactCutOf_ok {a0 a1 : AV} (h0 : IsOf Try.prog 46 a0) (h1 : IsOf Try.prog 46 a1) : Ct Try.prog 9 [a0, a1] [] (.bool true) [] := by
  obtain ⟨l, rfl, hl⟩ := laws_isFrS h0
  obtain ⟨r, rfl, hr⟩ := laws_isFrS h1
  have pl := frs_pure l
  have pr := frs_pure r
  refine Ct.by_ hmix [] Try.func9 rfl ?_
  simp only [run0, run1, run2, run3, run4, run5, run6, run7, run8, run9, run10, run11, run12, run13, run14, run15, run16, run17, run18, run19, run20, run21, run22, reduceCtorEq, Nat.reduceEqDiff, Nat.reduceAdd, Nat.reduceSub, Nat.reduceLeDiff, indexAddrA, indexRefA, appendA, strA, Nat.reduceMul, Nat.zero_mul, Nat.reduceMod, Int.reduceEq, Int.reduceLT, Int.reduceLE, Nat.reduceLT, Nat.lt_irrefl, Nat.reduceBEq, tys0, tys1, tys2, tys3, tys4, tys5, tys6, tys7, tys8, tys9, tys10, tys11, tys12, tys13, tys14, tys15, tys16, tys17, tys18, tys19, tys20, tys21, tys22, tys23, Try.ntmps9, Try.results9]
  refine RunL.callp rfl rfl ok_f31 (szFractionS_ok l 1048576 hl (by omega) (by omega)) (by simp only [pureL, pureB, pl, Bool.and_self]) rfl ?_
  rcases szN_spec l.length 1048576 with ⟨g1, g2⟩ | ⟨g1, g2⟩
  case inr =>
    have e1 : szN l.length 1048576 < 0 := by omega
    simp only [run0, run1, run2, run3, run4, run5, run6, run7, run8, run9, run10, run11, run12, run13, run14, run15, run16, run17, run18, run19, run20, run21, run22, reduceCtorEq, Nat.reduceEqDiff, Nat.reduceAdd, Nat.reduceSub, Nat.reduceLeDiff, indexAddrA, indexRefA, appendA, strA, Nat.reduceMul, Nat.zero_mul, Nat.reduceMod, Int.reduceEq, Int.reduceLT, Int.reduceLE, Nat.reduceLT, Nat.lt_irrefl, Nat.reduceBEq, tys0, tys1, tys2, tys3, tys4, tys5, tys6, tys7, tys8, tys9, tys10, tys11, tys12, tys13, tys14, tys15, tys16, tys17, tys18, tys19, tys20, tys21, tys22, tys23, Try.ntmps9, Try.results9, e1]
    exact Fin.eq rfl rfl
  have e1 : ¬ szN l.length 1048576 < 0 := by omega
  simp only [run0, run1, run2, run3, run4, run5, run6, run7, run8, run9, run10, run11, run12, run13, run14, run15, run16, run17, run18, run19, run20, run21, run22, reduceCtorEq, Nat.reduceEqDiff, Nat.reduceAdd, Nat.reduceSub, Nat.reduceLeDiff, indexAddrA, indexRefA, appendA, strA, Nat.reduceMul, Nat.zero_mul, Nat.reduceMod, Int.reduceEq, Int.reduceLT, Int.reduceLE, Nat.reduceLT, Nat.lt_irrefl, Nat.reduceBEq, tys0, tys1, tys2, tys3, tys4, tys5, tys6, tys7, tys8, tys9, tys10, tys11, tys12, tys13, tys14, tys15, tys16, tys17, tys18, tys19, tys20, tys21, tys22, tys23, Try.ntmps9, Try.results9, e1]
  refine RunL.callp rfl rfl ok_f31 (szFractionS_ok r (szN l.length 1048576) hr (by omega) (by omega)) (by simp only [pureL, pureB, pr, Bool.and_self]) rfl ?_
  rcases szN_spec r.length (szN l.length 1048576) with ⟨k1, k2⟩ | ⟨k1, k2⟩
  case inr =>
    have e2 : szN r.length (szN l.length 1048576) < 0 := by omega
    simp only [run0, run1, run2, run3, run4, run5, run6, run7, run8, run9, run10, run11, run12, run13, run14, run15, run16, run17, run18, run19, run20, run21, run22, reduceCtorEq, Nat.reduceEqDiff, Nat.reduceAdd, Nat.reduceSub, Nat.reduceLeDiff, indexAddrA, indexRefA, appendA, strA, Nat.reduceMul, Nat.zero_mul, Nat.reduceMod, Int.reduceEq, Int.reduceLT, Int.reduceLE, Nat.reduceLT, Nat.lt_irrefl, Nat.reduceBEq, tys0, tys1, tys2, tys3, tys4, tys5, tys6, tys7, tys8, tys9, tys10, tys11, tys12, tys13, tys14, tys15, tys16, tys17, tys18, tys19, tys20, tys21, tys22, tys23, Try.ntmps9, Try.results9, e2]
    exact Fin.eq rfl rfl
  have e2 : ¬ szN r.length (szN l.length 1048576) < 0 := by omega
  have lP : l.length ≤ 1048576 := by omega
  have lQ : r.length ≤ 1048576 := by omega
  have hs := specCut_ok l r lP lQ
  have hi := implCut_ok l r lP lQ
  obtain ⟨a, b, i, k, o, hR⟩ := cutR_form l r
  rw [hR] at hs hi
  have he := eqFraction_ok a b
  simp only [fr] at he
  simp only [run0, run1, run2, run3, run4, run5, run6, run7, run8, run9, run10, run11, run12, run13, run14, run15, run16, run17, run18, run19, run20, run21, run22, reduceCtorEq, Nat.reduceEqDiff, Nat.reduceAdd, Nat.reduceSub, Nat.reduceLeDiff, indexAddrA, indexRefA, appendA, strA, Nat.reduceMul, Nat.zero_mul, Nat.reduceMod, Int.reduceEq, Int.reduceLT, Int.reduceLE, Nat.reduceLT, Nat.lt_irrefl, Nat.reduceBEq, tys0, tys1, tys2, tys3, tys4, tys5, tys6, tys7, tys8, tys9, tys10, tys11, tys12, tys13, tys14, tys15, tys16, tys17, tys18, tys19, tys20, tys21, tys22, tys23, Try.ntmps9, Try.results9, e2]
  refine RunL.callp rfl rfl ok_f33 (toFractionS_ok l lP) (by simp only [pureL, pureB, pl, Bool.and_self]) rfl ?_
  simp only [run0, run1, run2, run3, run4, run5, run6, run7, run8, run9, run10, run11, run12, run13, run14, run15, run16, run17, run18, run19, run20, run21, run22, reduceCtorEq, Nat.reduceEqDiff, Nat.reduceAdd, Nat.reduceSub, Nat.reduceLeDiff, indexAddrA, indexRefA, appendA, strA, Nat.reduceMul, Nat.zero_mul, Nat.reduceMod, Int.reduceEq, Int.reduceLT, Int.reduceLE, Nat.reduceLT, Nat.lt_irrefl, Nat.reduceBEq, tys0, tys1, tys2, tys3, tys4, tys5, tys6, tys7, tys8, tys9, tys10, tys11, tys12, tys13, tys14, tys15, tys16, tys17, tys18, tys19, tys20, tys21, tys22, tys23, Try.ntmps9, Try.results9]
  refine RunL.callp rfl rfl ok_f33 (toFractionS_ok r lQ) (by simp only [pureL, pureB, pr, Bool.and_self]) rfl ?_
  simp only [run0, run1, run2, run3, run4, run5, run6, run7, run8, run9, run10, run11, run12, run13, run14, run15, run16, run17, run18, run19, run20, run21, run22, reduceCtorEq, Nat.reduceEqDiff, Nat.reduceAdd, Nat.reduceSub, Nat.reduceLeDiff, indexAddrA, indexRefA, appendA, strA, Nat.reduceMul, Nat.zero_mul, Nat.reduceMod, Int.reduceEq, Int.reduceLT, Int.reduceLE, Nat.reduceLT, Nat.lt_irrefl, Nat.reduceBEq, tys0, tys1, tys2, tys3, tys4, tys5, tys6, tys7, tys8, tys9, tys10, tys11, tys12, tys13, tys14, tys15, tys16, tys17, tys18, tys19, tys20, tys21, tys22, tys23, Try.ntmps9, Try.results9]
  refine RunL.callp rfl rfl ok_f32 hs (by simp only [pureL, pureB, pl, pr, Bool.and_self]) rfl ?_
  simp only [run0, run1, run2, run3, run4, run5, run6, run7, run8, run9, run10, run11, run12, run13, run14, run15, run16, run17, run18, run19, run20, run21, run22, reduceCtorEq, Nat.reduceEqDiff, Nat.reduceAdd, Nat.reduceSub, Nat.reduceLeDiff, indexAddrA, indexRefA, appendA, strA, Nat.reduceMul, Nat.zero_mul, Nat.reduceMod, Int.reduceEq, Int.reduceLT, Int.reduceLE, Nat.reduceLT, Nat.lt_irrefl, Nat.reduceBEq, tys0, tys1, tys2, tys3, tys4, tys5, tys6, tys7, tys8, tys9, tys10, tys11, tys12, tys13, tys14, tys15, tys16, tys17, tys18, tys19, tys20, tys21, tys22, tys23, Try.ntmps9, Try.results9]
  refine RunL.callp rfl rfl ok_f33 (toFractionS_ok l lP) (by simp only [pureL, pureB, pl, Bool.and_self]) rfl ?_
  simp only [run0, run1, run2, run3, run4, run5, run6, run7, run8, run9, run10, run11, run12, run13, run14, run15, run16, run17, run18, run19, run20, run21, run22, reduceCtorEq, Nat.reduceEqDiff, Nat.reduceAdd, Nat.reduceSub, Nat.reduceLeDiff, indexAddrA, indexRefA, appendA, strA, Nat.reduceMul, Nat.zero_mul, Nat.reduceMod, Int.reduceEq, Int.reduceLT, Int.reduceLE, Nat.reduceLT, Nat.lt_irrefl, Nat.reduceBEq, tys0, tys1, tys2, tys3, tys4, tys5, tys6, tys7, tys8, tys9, tys10, tys11, tys12, tys13, tys14, tys15, tys16, tys17, tys18, tys19, tys20, tys21, tys22, tys23, Try.ntmps9, Try.results9]
  refine RunL.callp rfl rfl ok_f33 (toFractionS_ok r lQ) (by simp only [pureL, pureB, pr, Bool.and_self]) rfl ?_
  simp only [run0, run1, run2, run3, run4, run5, run6, run7, run8, run9, run10, run11, run12, run13, run14, run15, run16, run17, run18, run19, run20, run21, run22, reduceCtorEq, Nat.reduceEqDiff, Nat.reduceAdd, Nat.reduceSub, Nat.reduceLeDiff, indexAddrA, indexRefA, appendA, strA, Nat.reduceMul, Nat.zero_mul, Nat.reduceMod, Int.reduceEq, Int.reduceLT, Int.reduceLE, Nat.reduceLT, Nat.lt_irrefl, Nat.reduceBEq, tys0, tys1, tys2, tys3, tys4, tys5, tys6, tys7, tys8, tys9, tys10, tys11, tys12, tys13, tys14, tys15, tys16, tys17, tys18, tys19, tys20, tys21, tys22, tys23, Try.ntmps9, Try.results9]
  refine RunL.callp rfl rfl ok_f34 hi (by simp only [pureL, pureB, pl, pr, Bool.and_self]) rfl ?_
  simp only [run0, run1, run2, run3, run4, run5, run6, run7, run8, run9, run10, run11, run12, run13, run14, run15, run16, run17, run18, run19, run20, run21, run22, reduceCtorEq, Nat.reduceEqDiff, Nat.reduceAdd, Nat.reduceSub, Nat.reduceLeDiff, indexAddrA, indexRefA, appendA, strA, Nat.reduceMul, Nat.zero_mul, Nat.reduceMod, Int.reduceEq, Int.reduceLT, Int.reduceLE, Nat.reduceLT, Nat.lt_irrefl, Nat.reduceBEq, tys0, tys1, tys2, tys3, tys4, tys5, tys6, tys7, tys8, tys9, tys10, tys11, tys12, tys13, tys14, tys15, tys16, tys17, tys18, tys19, tys20, tys21, tys22, tys23, Try.ntmps9, Try.results9]
  refine RunL.callp rfl rfl ok_f35 (he) (by first | rfl | simp only [pureL, pureB, Bool.and_self, Bool.and_true, Bool.true_and]) rfl ?_
  simp only [run0, run1, run2, run3, run4, run5, run6, run7, run8, run9, run10, run11, run12, run13, run14, run15, run16, run17, run18, run19, run20, run21, run22, reduceCtorEq, Nat.reduceEqDiff, Nat.reduceAdd, Nat.reduceSub, Nat.reduceLeDiff, indexAddrA, indexRefA, appendA, strA, Nat.reduceMul, Nat.zero_mul, Nat.reduceMod, Int.reduceEq, Int.reduceLT, Int.reduceLE, Nat.reduceLT, Nat.lt_irrefl, Nat.reduceBEq, tys0, tys1, tys2, tys3, tys4, tys5, tys6, tys7, tys8, tys9, tys10, tys11, tys12, tys13, tys14, tys15, tys16, tys17, tys18, tys19, tys20, tys21, tys22, tys23, Try.ntmps9, Try.results9, bne_self_eq_false]
  refine RunL.callp rfl rfl ok_f33 (toFractionS_ok l lP) (by simp only [pureL, pureB, pl, Bool.and_self]) rfl ?_
  simp only [run0, run1, run2, run3, run4, run5, run6, run7, run8, run9, run10, run11, run12, run13, run14, run15, run16, run17, run18, run19, run20, run21, run22, reduceCtorEq, Nat.reduceEqDiff, Nat.reduceAdd, Nat.reduceSub, Nat.reduceLeDiff, indexAddrA, indexRefA, appendA, strA, Nat.reduceMul, Nat.zero_mul, Nat.reduceMod, Int.reduceEq, Int.reduceLT, Int.reduceLE, Nat.reduceLT, Nat.lt_irrefl, Nat.reduceBEq, tys0, tys1, tys2, tys3, tys4, tys5, tys6, tys7, tys8, tys9, tys10, tys11, tys12, tys13, tys14, tys15, tys16, tys17, tys18, tys19, tys20, tys21, tys22, tys23, Try.ntmps9, Try.results9]
  refine RunL.callp rfl rfl ok_f36 (eqFractionS_ok l lP) (by simp only [pureL, pureB, pl, Bool.and_self]) rfl ?_
  simp only [run0, run1, run2, run3, run4, run5, run6, run7, run8, run9, run10, run11, run12, run13, run14, run15, run16, run17, run18, run19, run20, run21, run22, reduceCtorEq, Nat.reduceEqDiff, Nat.reduceAdd, Nat.reduceSub, Nat.reduceLeDiff, indexAddrA, indexRefA, appendA, strA, Nat.reduceMul, Nat.zero_mul, Nat.reduceMod, Int.reduceEq, Int.reduceLT, Int.reduceLE, Nat.reduceLT, Nat.lt_irrefl, Nat.reduceBEq, tys0, tys1, tys2, tys3, tys4, tys5, tys6, tys7, tys8, tys9, tys10, tys11, tys12, tys13, tys14, tys15, tys16, tys17, tys18, tys19, tys20, tys21, tys22, tys23, Try.ntmps9, Try.results9]
  refine RunL.callp rfl rfl ok_f33 (toFractionS_ok r lQ) (by simp only [pureL, pureB, pr, Bool.and_self]) rfl ?_
  simp only [run0, run1, run2, run3, run4, run5, run6, run7, run8, run9, run10, run11, run12, run13, run14, run15, run16, run17, run18, run19, run20, run21, run22, reduceCtorEq, Nat.reduceEqDiff, Nat.reduceAdd, Nat.reduceSub, Nat.reduceLeDiff, indexAddrA, indexRefA, appendA, strA, Nat.reduceMul, Nat.zero_mul, Nat.reduceMod, Int.reduceEq, Int.reduceLT, Int.reduceLE, Nat.reduceLT, Nat.lt_irrefl, Nat.reduceBEq, tys0, tys1, tys2, tys3, tys4, tys5, tys6, tys7, tys8, tys9, tys10, tys11, tys12, tys13, tys14, tys15, tys16, tys17, tys18, tys19, tys20, tys21, tys22, tys23, Try.ntmps9, Try.results9]
  refine RunL.callp rfl rfl ok_f36 (eqFractionS_ok r lQ) (by simp only [pureL, pureB, pr, Bool.and_self]) rfl ?_
  simp only [run0, run1, run2, run3, run4, run5, run6, run7, run8, run9, run10, run11, run12, run13, run14, run15, run16, run17, run18, run19, run20, run21, run22, reduceCtorEq, Nat.reduceEqDiff, Nat.reduceAdd, Nat.reduceSub, Nat.reduceLeDiff, indexAddrA, indexRefA, appendA, strA, Nat.reduceMul, Nat.zero_mul, Nat.reduceMod, Int.reduceEq, Int.reduceLT, Int.reduceLE, Nat.reduceLT, Nat.lt_irrefl, Nat.reduceBEq, tys0, tys1, tys2, tys3, tys4, tys5, tys6, tys7, tys8, tys9, tys10, tys11, tys12, tys13, tys14, tys15, tys16, tys17, tys18, tys19, tys20, tys21, tys22, tys23, Try.ntmps9, Try.results9]
  exact Fin.eq rfl rfl

end Go.Proofs.Ytllcljajlemmaaa
