/-
  Texts joined in one: GS4, GS5, GS6, F19, F23, F24, F25, RE1, RE2.
-/
import Derived.Test.YtllcljajlemmaaaMCutsHaC
/-
  The simplest number of a cut: the reference's function.
-/
namespace Go.Proofs.Ytllcljajlemmaaa
open Go K
set_option linter.unusedSimpArgs false
set_option linter.unusedVariables false
set_option maxHeartbeats 3200000
set_option maxRecDepth 8000

theorem cmpQ_ok (p q : Fr) : Ct Try.prog 78 [fr p.1 p.2, fr q.1 q.2] [] (.int .i64 (cmpQ p q)) [] := shCmp_ok p.1 p.2 q.1 q.2
theorem shMost_ok (o : Fr) (l : List Fr) (hl : (o :: l).length ≤ 1048576) : Ct Try.prog 124 [.sl false (frE o :: l.map frE)] [] (frE (mostF o l)) [] := by
  have e0 : ((o :: l).map frE)[(0 : Int).toNat]? = some (.agg [.int .i64 o.1, .int .i64 o.2]) := rfl
  rw [show frE o :: l.map frE = (o :: l).map frE from rfl]
  have hm : mostF o (o :: l) = mostF o l := by rw [mostF_cons]; split <;> rfl
  rw [← hm]
  generalize o :: l = m at *
  refine Ct.by_ hmix [] Try.func124 rfl ?_
  simp only [run0, run1, run2, run3, run4, run5, run6, run7, run8, run9, run10, run11, run12, run13, run14, run15, run16, run17, run18, run19, run20, run21, run22, reduceCtorEq, Nat.reduceEqDiff, Nat.reduceAdd, Nat.reduceSub, Nat.reduceLeDiff, indexAddrA, indexRefA, appendA, strA, Nat.reduceMul, Nat.zero_mul, Nat.reduceMod, Int.reduceEq, Int.reduceLT, Int.reduceLE, Nat.reduceLT, Nat.lt_irrefl, Nat.reduceBEq, tys0, tys1, tys2, tys3, tys4, tys5, tys6, tys7, tys8, tys9, tys10, tys11, tys12, tys13, tys14, tys15, tys16, tys17, tys18, tys19, tys20, tys21, tys22, tys23, Try.ntmps124, Try.results124, e0, List.length_map, Int.le_refl]
  refine AWp.loop_inv (ι := FxS × Fr) (fun q => ⟨[.sl false (m.map frE), .junk, .ptr 0 0, .ptr 1 0, .junk, .junk, .junk, .junk, .junk, .sl false (m.map frE), .int .i64 m.length, .int .i64 q.1.d.length, .junk, .junk, .junk, .junk, .junk, .junk, .junk, .junk, .junk, .junk], .box 42 [.int .i64 0, .int .i64 0] :: .box 42 [.int .i64 q.2.1, .int .i64 q.2.2] :: q.1.X⟩)
    (fun q => m = q.1.d ++ q.1.r ∧ mostF q.2 q.1.r = mostF o m) (fun q => q.1.r.length) (⟨[], m, []⟩, o) ⟨rfl, rfl⟩ ⟨by simp only [List.length_nil, Int.natCast_zero]; repeat constructor, rfl⟩ ?_
  rintro ⟨⟨d, r, X⟩, p⟩ ⟨ha, h2⟩
  refine W.sound hmix (E := []) ?_
  simp only at ha h2
  cases r with
  | nil =>
    have e1 := frs_end ha
    simp only [run0, run1, run2, run3, run4, run5, run6, run7, run8, run9, run10, run11, run12, run13, run14, run15, run16, run17, run18, run19, run20, run21, run22, reduceCtorEq, Nat.reduceEqDiff, Nat.reduceAdd, Nat.reduceSub, Nat.reduceLeDiff, indexAddrA, indexRefA, appendA, strA, Nat.reduceMul, Nat.zero_mul, Nat.reduceMod, Int.reduceEq, Int.reduceLT, Int.reduceLE, Nat.reduceLT, Nat.lt_irrefl, Nat.reduceBEq, tys0, tys1, tys2, tys3, tys4, tys5, tys6, tys7, tys8, tys9, tys10, tys11, tys12, tys13, tys14, tys15, tys16, tys17, tys18, tys19, tys20, tys21, tys22, tys23, Try.ntmps124, Try.results124, List.length_map, e1]
    exact Fin.eq (by rw [← h2]; rfl) rfl
  | cons e r =>
    obtain ⟨e1, e2, e5⟩ := frs_split ha hl
    have hc := cmpQ_ok e p
    simp only [fr] at hc
    rw [mostF_cons] at h2
    simp only [run0, run1, run2, run3, run4, run5, run6, run7, run8, run9, run10, run11, run12, run13, run14, run15, run16, run17, run18, run19, run20, run21, run22, reduceCtorEq, Nat.reduceEqDiff, Nat.reduceAdd, Nat.reduceSub, Nat.reduceLeDiff, indexAddrA, indexRefA, appendA, strA, Nat.reduceMul, Nat.zero_mul, Nat.reduceMod, Int.reduceEq, Int.reduceLT, Int.reduceLE, Nat.reduceLT, Nat.lt_irrefl, Nat.reduceBEq, tys0, tys1, tys2, tys3, tys4, tys5, tys6, tys7, tys8, tys9, tys10, tys11, tys12, tys13, tys14, tys15, tys16, tys17, tys18, tys19, tys20, tys21, tys22, tys23, Try.ntmps124, Try.results124, List.length_map, e1, e2, Int.toNat_natCast, Int.natCast_nonneg, List.getElem?_append_right, Nat.sub_self]
    refine RunL.callp rfl rfl ok_f78 (hc) (by first | rfl | simp only [pureL, pureB, Bool.and_self, Bool.and_true, Bool.true_and]) rfl ?_
    by_cases hp : 0 < cmpQ e p
    · rw [if_pos hp] at h2
      simp only [run0, run1, run2, run3, run4, run5, run6, run7, run8, run9, run10, run11, run12, run13, run14, run15, run16, run17, run18, run19, run20, run21, run22, reduceCtorEq, Nat.reduceEqDiff, Nat.reduceAdd, Nat.reduceSub, Nat.reduceLeDiff, indexAddrA, indexRefA, appendA, strA, Nat.reduceMul, Nat.zero_mul, Nat.reduceMod, Int.reduceEq, Int.reduceLT, Int.reduceLE, Nat.reduceLT, Nat.lt_irrefl, Nat.reduceBEq, tys0, tys1, tys2, tys3, tys4, tys5, tys6, tys7, tys8, tys9, tys10, tys11, tys12, tys13, tys14, tys15, tys16, tys17, tys18, tys19, tys20, tys21, tys22, tys23, Try.ntmps124, Try.results124, hp, e5]
      exact ⟨(⟨d ++ [e], r, _⟩, e), ⟨by simp [ha], h2⟩, by simp, by simp only [List.length_append, List.length_cons, List.length_nil]; repeat constructor, rfl⟩
    · rw [if_neg hp] at h2
      simp only [run0, run1, run2, run3, run4, run5, run6, run7, run8, run9, run10, run11, run12, run13, run14, run15, run16, run17, run18, run19, run20, run21, run22, reduceCtorEq, Nat.reduceEqDiff, Nat.reduceAdd, Nat.reduceSub, Nat.reduceLeDiff, indexAddrA, indexRefA, appendA, strA, Nat.reduceMul, Nat.zero_mul, Nat.reduceMod, Int.reduceEq, Int.reduceLT, Int.reduceLE, Nat.reduceLT, Nat.lt_irrefl, Nat.reduceBEq, tys0, tys1, tys2, tys3, tys4, tys5, tys6, tys7, tys8, tys9, tys10, tys11, tys12, tys13, tys14, tys15, tys16, tys17, tys18, tys19, tys20, tys21, tys22, tys23, Try.ntmps124, Try.results124, hp, e5]
      exact ⟨(⟨d ++ [e], r, _⟩, p), ⟨by simp [ha], h2⟩, by simp, by simp only [List.length_append, List.length_cons, List.length_nil]; repeat constructor, rfl⟩
theorem Vw_frs {L : List AObj} {id g n : Nat} {T : TypeId} {es : List AV} {l : List Fr} {o : Bool} (hL : L[id]? = some (.vec T 2 g es)) (he : es = l.map frE) (hn : n = l.length) : Vw L (.ref id [] g n) (.sl o (l.map frE)) := by
  subst he hn
  have := Vw.refPur (L := L) (id := id) (g := g) (n := l.length) (o := o) hL (by simp) (fun e he c hc => by
    obtain ⟨e', _, rfl⟩ := List.mem_map.1 he
    simp only [frE, AV.cells, List.mem_cons, List.not_mem_nil, or_false] at hc
    rcases hc with rfl | rfl <;> exact ⟨.of rfl, fun xs h => by cases h⟩)
  rwa [List.take_of_length_le (by simp)] at this
theorem shNegAll_ok (l : List Fr) (hl : l.length ≤ 1048576) : Ct Try.prog 126 [.sl false (l.map frE)] [] (.sl false ((l.map negF).map frE)) [] := by
  refine Ct.by_ hmix [] Try.func126 rfl ?_
  simp only [run0, run1, run2, run3, run4, run5, run6, run7, run8, run9, run10, run11, run12, run13, run14, run15, run16, run17, run18, run19, run20, run21, run22, reduceCtorEq, Nat.reduceEqDiff, Nat.reduceAdd, Nat.reduceSub, Nat.reduceLeDiff, indexAddrA, indexRefA, appendA, strA, Nat.reduceMul, Nat.zero_mul, Nat.reduceMod, Int.reduceEq, Int.reduceLT, Int.reduceLE, Nat.reduceLT, Nat.lt_irrefl, Nat.reduceBEq, tys0, tys1, tys2, tys3, tys4, tys5, tys6, tys7, tys8, tys9, tys10, tys11, tys12, tys13, tys14, tys15, tys16, tys17, tys18, tys19, tys20, tys21, tys22, tys23, Try.ntmps126, Try.results126, List.length_map]
  refine AWp.nil 3 42 2 rfl ?_
  refine AWp.loop_inv (ι := FxS) (fun q => ⟨[.sl false (l.map frE), .junk, nilV, .ref 0 [] q.d.length q.d.length, .junk, .junk, .sl false (l.map frE), .int .i64 l.length, .int .i64 q.d.length, .junk, .junk, .junk, .junk, .junk, .junk, .junk, .junk, .junk, .junk], .vec 42 2 q.d.length ((q.d.map negF).map frE) :: q.X⟩)
    (fun q => l = q.d ++ q.r) (fun q => q.r.length) ⟨[], l, []⟩ rfl ⟨by simp only [List.length_nil, Int.natCast_zero]; repeat constructor, rfl⟩ ?_
  rintro ⟨d, r, X⟩ ha
  refine W.sound hmix (E := []) ?_
  simp only at ha
  cases r with
  | nil =>
    have e1 := frs_end ha
    rw [List.append_nil] at ha
    subst ha
    simp only [run0, run1, run2, run3, run4, run5, run6, run7, run8, run9, run10, run11, run12, run13, run14, run15, run16, run17, run18, run19, run20, run21, run22, reduceCtorEq, Nat.reduceEqDiff, Nat.reduceAdd, Nat.reduceSub, Nat.reduceLeDiff, indexAddrA, indexRefA, appendA, strA, Nat.reduceMul, Nat.zero_mul, Nat.reduceMod, Int.reduceEq, Int.reduceLT, Int.reduceLE, Nat.reduceLT, Nat.lt_irrefl, Nat.reduceBEq, tys0, tys1, tys2, tys3, tys4, tys5, tys6, tys7, tys8, tys9, tys10, tys11, tys12, tys13, tys14, tys15, tys16, tys17, tys18, tys19, tys20, tys21, tys22, tys23, Try.ntmps126, Try.results126, List.length_map, e1]
    exact Fin.value (Vw_frs rfl rfl (by simp))
  | cons e r =>
    obtain ⟨e1, e2, e5⟩ := frs_split ha hl
    have hda : l.length = d.length + (r.length + 1) := by rw [ha]; simp
    have hc := shNeg_ok e.1 e.2
    simp only [fr] at hc
    have f3 : d.length + 1 ≤ 137438953472 := by omega
    have f4 := frs_noOwn (d.map negF)
    simp only [run0, run1, run2, run3, run4, run5, run6, run7, run8, run9, run10, run11, run12, run13, run14, run15, run16, run17, run18, run19, run20, run21, run22, reduceCtorEq, Nat.reduceEqDiff, Nat.reduceAdd, Nat.reduceSub, Nat.reduceLeDiff, indexAddrA, indexRefA, appendA, strA, Nat.reduceMul, Nat.zero_mul, Nat.reduceMod, Int.reduceEq, Int.reduceLT, Int.reduceLE, Nat.reduceLT, Nat.lt_irrefl, Nat.reduceBEq, tys0, tys1, tys2, tys3, tys4, tys5, tys6, tys7, tys8, tys9, tys10, tys11, tys12, tys13, tys14, tys15, tys16, tys17, tys18, tys19, tys20, tys21, tys22, tys23, Try.ntmps126, Try.results126, List.length_map, e1, e2, Int.toNat_natCast, Int.natCast_nonneg, List.getElem?_append_right, Nat.sub_self]
    refine RunL.callp rfl rfl ok_f125 (hc) (by first | rfl | simp only [pureL, pureB, Bool.and_self, Bool.and_true, Bool.true_and]) rfl ?_
    simp only [run0, run1, run2, run3, run4, run5, run6, run7, run8, run9, run10, run11, run12, run13, run14, run15, run16, run17, run18, run19, run20, run21, run22, reduceCtorEq, Nat.reduceEqDiff, Nat.reduceAdd, Nat.reduceSub, Nat.reduceLeDiff, indexAddrA, indexRefA, appendA, strA, Nat.reduceMul, Nat.zero_mul, Nat.reduceMod, Int.reduceEq, Int.reduceLT, Int.reduceLE, Nat.reduceLT, Nat.lt_irrefl, Nat.reduceBEq, tys0, tys1, tys2, tys3, tys4, tys5, tys6, tys7, tys8, tys9, tys10, tys11, tys12, tys13, tys14, tys15, tys16, tys17, tys18, tys19, tys20, tys21, tys22, tys23, Try.ntmps126, Try.results126, List.length_map, e5, f3, f4]
    exact ⟨⟨d ++ [e], r, X ++ [.box 42 [.int .i64 e.1, .int .i64 e.2]]⟩, by simp [ha], by simp, by simp only [List.length_append, List.length_cons, List.length_nil]; repeat constructor, by simp [frE, negF]⟩

/-! ### what the loop comes to -/
theorem bad_both {l r : List Fr} {x : Int} (hl : ∀ a ∈ l, FB a) (hr : ∀ a ∈ r, FB a) (hx : x.natAbs ≤ 50000000) (h1 : l.any (leB x) = true) (h2 : r.any (geB x) = true) : cutBad l r = true := by
  obtain ⟨a, ha, k1⟩ := List.any_eq_true.1 h1
  obtain ⟨b, hb, k2⟩ := List.any_eq_true.1 h2
  rcases no_between hx (cut_small l r).1 (hl a ha) (hr b hb) k1 k2 with h | h
  · simp only [cutBad, List.any_eq_true.2 ⟨a, ha, h⟩, Bool.true_or]
  · simp only [cutBad, List.any_eq_true.2 ⟨b, hb, h⟩, Bool.or_true]
structure SiS where
  n : Nat
  i : Wk
  s : Sw
  X : List AObj
structure SiI (l r : List Fr) (p : SiS) : Prop where
  size : p.i.word.size = p.n
  rl : Rl p.i p.s
  wj : Wj p.i
  zero : p.n = 0 → p.i.low = [] ∧ p.i.high = []
  run : wkRun (cutS l r) (21 - p.n) p.i = wkRun (cutS l r) 21 wk0
theorem SiI.start (l r : List Fr) : SiI l r ⟨0, wk0, sw0, []⟩ := ⟨rfl, ⟨at_zero, by decide, ⟨0, rfl⟩, rfl, rfl⟩, wj0, fun _ => ⟨rfl, rfl⟩, rfl⟩
theorem SiI.small {l r : List Fr} {p : SiS} (h : SiI l r p) (hn : p.n ≤ 20) : p.i.x.natAbs ≤ 50000000 := by
  have := h.rl.size
  have := h.size
  omega
theorem wkRun_succ (f : Int → Int) (k : Nat) (i : Wk) : wkRun f (k + 1) i = if f i.x = 0 ∨ i.word.size = 20 then { i with nums := i.nums ++ [i.x] } else if 0 < f i.x then wkRun f k ⟨i.nums ++ [i.x], i.word ++ plusB, i.low ++ [i.x], i.high, betw i.x (f i.x) (i.low ++ [i.x]) i.high⟩ else wkRun f k ⟨i.nums ++ [i.x], i.word ++ minusB, i.low, i.high ++ [i.x], betw i.x (f i.x) i.low (i.high ++ [i.x])⟩ := rfl
theorem SiI.stop {l r : List Fr} {p : SiS} (h : SiI l r p) (hn : p.n ≤ 20) (hs : cutS l r p.i.x = 0 ∨ p.n = 20) : cutX l r = p.i.x := by
  have h1 := h.run
  rw [show 21 - p.n = (20 - p.n) + 1 by omega] at h1
  rw [wkRun_succ (cutS l r) (20 - p.n) p.i] at h1
  rw [if_pos (by rw [h.size]; exact hs)] at h1
  unfold cutX
  rw [← h1]; simp
theorem SiI.none_ {l r : List Fr} {p : SiS} (h : SiI l r p) (hn : p.n ≤ 20) (h1 : l.any (leB p.i.x) = false) (h2 : r.any (geB p.i.x) = false) : simR l r = .tup [fr p.s.an p.s.ad, .bool true] := by
  have hx := h.stop hn (.inl (by simp [cutS, h1, h2]))
  have hb : cutBad l r = false := by simp [cutBad, hx, h1, h2]
  have hok := h.wj.ok (by rw [h.size]; exact hn)
  have ha := h.rl.at_
  simp only [simR, hb, hx, Bool.false_eq_true, if_false, Bool.not_false, frE, fr]
  unfold frN frD
  rw [if_pos hok, if_pos hok, ← ha.1, ← ha.2]
theorem SiI.up {l r : List Fr} {p : SiS} (h : SiI l r p) (hn : p.n ≤ 20) (h1 : l.any (leB p.i.x) = true) (X : List AObj) : swOk p.s true ∧ ((p.n = 20 ∧ cutBad l r = true) ∨ (p.n + 1 ≤ 20 ∧ SiI l r ⟨p.n + 1, stepP p.i, swStep p.s true, X⟩)) := by
  refine ⟨last_ok h.rl (by rw [h.size]; exact hn) true, ?_⟩
  by_cases h20 : p.n = 20
  · have hx := h.stop hn (.inr h20)
    exact .inl ⟨h20, by simp [cutBad, hx, h1]⟩
  · refine .inr ⟨by omega, ?_⟩
    obtain ⟨k1, k2⟩ := plus_rl h.rl (by rw [h.size]; omega)
    have hc : cutS l r p.i.x = 1 := by simp [cutS, h1]
    have hrun := h.run
    rw [show 21 - p.n = (21 - (p.n + 1)) + 1 by omega] at hrun
    rw [wkRun_succ (cutS l r) (21 - (p.n + 1)) p.i] at hrun
    rw [if_neg (by rw [h.size, hc]; omega), if_pos (by rw [hc]; omega), hc] at hrun
    exact ⟨by simp only [stepP, size_plus, h.size], k2, h.wj.plus (by rw [h.size]; omega) (fun e => (h.zero (by rw [← h.size]; exact e)).2), fun e => by simp at e, hrun⟩
theorem SiI.down {l r : List Fr} {p : SiS} (h : SiI l r p) (hn : p.n ≤ 20) (h1 : l.any (leB p.i.x) = false) (h2 : r.any (geB p.i.x) = true) (X : List AObj) : swOk p.s false ∧ ((p.n = 20 ∧ cutBad l r = true) ∨ (p.n + 1 ≤ 20 ∧ SiI l r ⟨p.n + 1, stepM p.i, swStep p.s false, X⟩)) := by
  refine ⟨last_ok h.rl (by rw [h.size]; exact hn) false, ?_⟩
  by_cases h20 : p.n = 20
  · have hx := h.stop hn (.inr h20)
    exact .inl ⟨h20, by simp [cutBad, hx, h2]⟩
  · refine .inr ⟨by omega, ?_⟩
    obtain ⟨k1, k2⟩ := minus_rl h.rl (by rw [h.size]; omega)
    have hc : cutS l r p.i.x = -1 := by simp [cutS, h1, h2]
    have hrun := h.run
    rw [show 21 - p.n = (21 - (p.n + 1)) + 1 by omega] at hrun
    rw [wkRun_succ (cutS l r) (21 - (p.n + 1)) p.i] at hrun
    rw [if_neg (by rw [h.size, hc]; omega), if_neg (by rw [hc]; omega), hc] at hrun
    exact ⟨by simp only [stepM, size_minus, h.size], k2, h.wj.minus (by rw [h.size]; omega) (fun e => (h.zero (by rw [← h.size]; exact e)).1), fun e => by simp at e, hrun⟩
theorem SiI.ge {l r : List Fr} {p : SiS} (h : SiI l r p) (hn : p.n ≤ 20) {o : Fr} {l' : List Fr} (hl : ∀ a ∈ o :: l', FB a) : (0 ≤ cmpQ (mostF o l') (p.s.an, p.s.ad)) ↔ (o :: l').any (leB p.i.x) = true := by
  have hx := h.small hn
  obtain ⟨h1, _⟩ := mostF_spec l' o (hl o (by simp)) (fun a ha => hl a (by simp [ha]))
  obtain ⟨b1, b2, b3, b4⟩ := hl _ h1
  rw [← up_any hx hl, side_le, decide_eq_true_eq]
  have := at_cmp (n := (mostF o l').1) (d := (mostF o l').2) h.rl.at_ hx (by omega) (by omega) (by omega)
  unfold cmpQ
  rw [this]
theorem SiI.le {l r : List Fr} {p : SiS} (h : SiI l r p) (hn : p.n ≤ 20) {o : Fr} {l' : List Fr} (hl : ∀ a ∈ o :: l', FB a) : (cmpQ (leastF o l') (p.s.an, p.s.ad) ≤ 0) ↔ (o :: l').any (geB p.i.x) = true := by
  have hx := h.small hn
  obtain ⟨h1, _⟩ := leastF_spec o l' hl
  obtain ⟨b1, b2, b3, b4⟩ := hl _ h1
  rw [← down_any hx hl, side_ge, decide_eq_true_eq]
  have := at_cmp (n := (leastF o l').1) (d := (leastF o l').2) h.rl.at_ hx (by omega) (by omega) (by omega)
  unfold cmpQ
  rw [this]

def swC (s : Sw) : List AV := [.int .i64 s.an, .int .i64 s.ad, .int .i64 s.ln, .int .i64 s.ld, .int .i64 s.hn, .int .i64 s.hd, .bool s.hasL, .bool s.hasH]
theorem shSimplest_nn  (hll : ([] : List Fr).length ≤ 1048576) (hrl : ([] : List Fr).length ≤ 1048576) (hl : ∀ a ∈ ([] : List Fr), FB a) (hr : ∀ a ∈ ([] : List Fr), FB a) : Ct Try.prog 80 [.sl false [], .sl false []] [] (simR ([] : List Fr) ([] : List Fr)) [] := by
  refine Ct.by_ hmix [] Try.func80 rfl ?_
  simp only [run0, run1, run2, run3, run4, run5, run6, run7, run8, run9, run10, run11, run12, run13, run14, run15, run16, run17, run18, run19, run20, run21, run22, reduceCtorEq, Nat.reduceEqDiff, Nat.reduceAdd, Nat.reduceSub, Nat.reduceLeDiff, indexAddrA, indexRefA, appendA, strA, Nat.reduceMul, Nat.zero_mul, Nat.reduceMod, Int.reduceEq, Int.reduceLT, Int.reduceLE, Nat.reduceLT, Nat.lt_irrefl, Nat.reduceBEq, tys0, tys1, tys2, tys3, tys4, tys5, tys6, tys7, tys8, tys9, tys10, tys11, tys12, tys13, tys14, tys15, tys16, tys17, tys18, tys19, tys20, tys21, tys22, tys23, Try.ntmps80, Try.results80, swV]
  refine RunL.callp rfl rfl ok_f123 (shStart_ok) (by first | rfl | simp only [pureL, pureB, Bool.and_self, Bool.and_true, Bool.true_and]) rfl ?_
  simp only [run0, run1, run2, run3, run4, run5, run6, run7, run8, run9, run10, run11, run12, run13, run14, run15, run16, run17, run18, run19, run20, run21, run22, reduceCtorEq, Nat.reduceEqDiff, Nat.reduceAdd, Nat.reduceSub, Nat.reduceLeDiff, indexAddrA, indexRefA, appendA, strA, Nat.reduceMul, Nat.zero_mul, Nat.reduceMod, Int.reduceEq, Int.reduceLT, Int.reduceLE, Nat.reduceLT, Nat.lt_irrefl, Nat.reduceBEq, tys0, tys1, tys2, tys3, tys4, tys5, tys6, tys7, tys8, tys9, tys10, tys11, tys12, tys13, tys14, tys15, tys16, tys17, tys18, tys19, tys20, tys21, tys22, tys23, Try.ntmps80, Try.results80, swV]
  refine AWp.loop_inv (ι := SiS) (fun p => ⟨[.sl false [], .sl false [], .junk, .junk, .ptr 0 0, .bool false, .ptr 1 0, .int .i64 p.n, .junk, .junk, .junk, .junk, .junk, .junk, .junk, .junk, .junk, .junk, .junk, .junk, .junk, .junk, .junk, .junk, .junk, .junk, .junk, .junk, .junk, .junk, .junk, .junk, .junk, .junk, .junk, .junk, .junk, .junk, .junk, .junk, .junk, .junk, .junk, .junk, .junk, .junk, .junk, .junk, .junk, .junk, .junk, .junk, .junk, .junk, .junk, .junk], .box 42 [.int .i64 0, .int .i64 0] :: .box 144 (swC p.s) :: p.X⟩)
    (fun p => (p.n = 21 ∧ cutBad ([] : List Fr) ([] : List Fr) = true) ∨ (p.n ≤ 20 ∧ SiI ([] : List Fr) ([] : List Fr) p)) (fun p => 21 - p.n) ⟨0, wk0, sw0, []⟩ (.inr ⟨by decide, SiI.start _ _⟩) ⟨by simp only [Int.natCast_zero]; repeat constructor, rfl⟩ ?_
  rintro p hI
  refine W.sound hmix (E := []) ?_
  rcases hI with ⟨hn, hbad⟩ | ⟨hn, hI⟩
  · have e1 : ¬ ((p.n : Int) ≤ 20) := by omega
    simp only [run0, run1, run2, run3, run4, run5, run6, run7, run8, run9, run10, run11, run12, run13, run14, run15, run16, run17, run18, run19, run20, run21, run22, reduceCtorEq, Nat.reduceEqDiff, Nat.reduceAdd, Nat.reduceSub, Nat.reduceLeDiff, indexAddrA, indexRefA, appendA, strA, Nat.reduceMul, Nat.zero_mul, Nat.reduceMod, Int.reduceEq, Int.reduceLT, Int.reduceLE, Nat.reduceLT, Nat.lt_irrefl, Nat.reduceBEq, tys0, tys1, tys2, tys3, tys4, tys5, tys6, tys7, tys8, tys9, tys10, tys11, tys12, tys13, tys14, tys15, tys16, tys17, tys18, tys19, tys20, tys21, tys22, tys23, Try.ntmps80, Try.results80, e1]
    exact Fin.eq (by simp [simR, hbad, frE]) rfl
  have e1 : (p.n : Int) ≤ 20 := by omega
  have e5 : IntKind.i64.wrap ((p.n : Int) + 1) = ((p.n + 1 : Nat) : Int) := by rw [i64_id (by omega) (by omega)]; simp
  have hx := hI.small hn
  simp only [run0, run1, run2, run3, run4, run5, run6, run7, run8, run9, run10, run11, run12, run13, run14, run15, run16, run17, run18, run19, run20, run21, run22, reduceCtorEq, Nat.reduceEqDiff, Nat.reduceAdd, Nat.reduceSub, Nat.reduceLeDiff, indexAddrA, indexRefA, appendA, strA, Nat.reduceMul, Nat.zero_mul, Nat.reduceMod, Int.reduceEq, Int.reduceLT, Int.reduceLE, Nat.reduceLT, Nat.lt_irrefl, Nat.reduceBEq, tys0, tys1, tys2, tys3, tys4, tys5, tys6, tys7, tys8, tys9, tys10, tys11, tys12, tys13, tys14, tys15, tys16, tys17, tys18, tys19, tys20, tys21, tys22, tys23, Try.ntmps80, Try.results80, swC, e1, List.length_map, Int.natCast_zero, Int.lt_irrefl]
  refine ⟨by kernel_rfl, ?_⟩
  refine ⟨by kernel_rfl, ?_⟩
  exact Fin.eq (by rw [hI.none_ hn rfl rfl]; rfl) rfl
theorem shSimplest_cn (o : Fr) (l : List Fr) (hll : (o :: l).length ≤ 1048576) (hrl : ([] : List Fr).length ≤ 1048576) (hl : ∀ a ∈ (o :: l), FB a) (hr : ∀ a ∈ ([] : List Fr), FB a) : Ct Try.prog 80 [.sl false (frE o :: l.map frE), .sl false []] [] (simR (o :: l) ([] : List Fr)) [] := by
  have pl : pureL (l.map frE) = true := frs_pure l
  have hlen : ((0 : Int) < ((l.length + 1 : Nat) : Int)) := by omega
  refine Ct.by_ hmix [] Try.func80 rfl ?_
  simp only [run0, run1, run2, run3, run4, run5, run6, run7, run8, run9, run10, run11, run12, run13, run14, run15, run16, run17, run18, run19, run20, run21, run22, reduceCtorEq, Nat.reduceEqDiff, Nat.reduceAdd, Nat.reduceSub, Nat.reduceLeDiff, indexAddrA, indexRefA, appendA, strA, Nat.reduceMul, Nat.zero_mul, Nat.reduceMod, Int.reduceEq, Int.reduceLT, Int.reduceLE, Nat.reduceLT, Nat.lt_irrefl, Nat.reduceBEq, tys0, tys1, tys2, tys3, tys4, tys5, tys6, tys7, tys8, tys9, tys10, tys11, tys12, tys13, tys14, tys15, tys16, tys17, tys18, tys19, tys20, tys21, tys22, tys23, Try.ntmps80, Try.results80, swV]
  refine RunL.callp rfl rfl ok_f123 (shStart_ok) (by first | rfl | simp only [pureL, pureB, Bool.and_self, Bool.and_true, Bool.true_and]) rfl ?_
  simp only [run0, run1, run2, run3, run4, run5, run6, run7, run8, run9, run10, run11, run12, run13, run14, run15, run16, run17, run18, run19, run20, run21, run22, reduceCtorEq, Nat.reduceEqDiff, Nat.reduceAdd, Nat.reduceSub, Nat.reduceLeDiff, indexAddrA, indexRefA, appendA, strA, Nat.reduceMul, Nat.zero_mul, Nat.reduceMod, Int.reduceEq, Int.reduceLT, Int.reduceLE, Nat.reduceLT, Nat.lt_irrefl, Nat.reduceBEq, tys0, tys1, tys2, tys3, tys4, tys5, tys6, tys7, tys8, tys9, tys10, tys11, tys12, tys13, tys14, tys15, tys16, tys17, tys18, tys19, tys20, tys21, tys22, tys23, Try.ntmps80, Try.results80, swV]
  refine AWp.loop_inv (ι := SiS) (fun p => ⟨[.sl false (frE o :: l.map frE), .sl false [], .junk, .junk, .ptr 0 0, .bool false, .ptr 1 0, .int .i64 p.n, .junk, .junk, .junk, .junk, .junk, .junk, .junk, .junk, .junk, .junk, .junk, .junk, .junk, .junk, .junk, .junk, .junk, .junk, .junk, .junk, .junk, .junk, .junk, .junk, .junk, .junk, .junk, .junk, .junk, .junk, .junk, .junk, .junk, .junk, .junk, .junk, .junk, .junk, .junk, .junk, .junk, .junk, .junk, .junk, .junk, .junk, .junk, .junk], .box 42 [.int .i64 0, .int .i64 0] :: .box 144 (swC p.s) :: p.X⟩)
    (fun p => (p.n = 21 ∧ cutBad (o :: l) ([] : List Fr) = true) ∨ (p.n ≤ 20 ∧ SiI (o :: l) ([] : List Fr) p)) (fun p => 21 - p.n) ⟨0, wk0, sw0, []⟩ (.inr ⟨by decide, SiI.start _ _⟩) ⟨by simp only [Int.natCast_zero]; repeat constructor, rfl⟩ ?_
  rintro p hI
  refine W.sound hmix (E := []) ?_
  rcases hI with ⟨hn, hbad⟩ | ⟨hn, hI⟩
  · have e1 : ¬ ((p.n : Int) ≤ 20) := by omega
    simp only [run0, run1, run2, run3, run4, run5, run6, run7, run8, run9, run10, run11, run12, run13, run14, run15, run16, run17, run18, run19, run20, run21, run22, reduceCtorEq, Nat.reduceEqDiff, Nat.reduceAdd, Nat.reduceSub, Nat.reduceLeDiff, indexAddrA, indexRefA, appendA, strA, Nat.reduceMul, Nat.zero_mul, Nat.reduceMod, Int.reduceEq, Int.reduceLT, Int.reduceLE, Nat.reduceLT, Nat.lt_irrefl, Nat.reduceBEq, tys0, tys1, tys2, tys3, tys4, tys5, tys6, tys7, tys8, tys9, tys10, tys11, tys12, tys13, tys14, tys15, tys16, tys17, tys18, tys19, tys20, tys21, tys22, tys23, Try.ntmps80, Try.results80, e1]
    exact Fin.eq (by simp [simR, hbad, frE]) rfl
  have e1 : (p.n : Int) ≤ 20 := by omega
  have e5 : IntKind.i64.wrap ((p.n : Int) + 1) = ((p.n + 1 : Nat) : Int) := by rw [i64_id (by omega) (by omega)]; simp
  have hx := hI.small hn
  have hge := hI.ge hn hl
  have hc1 := cmpQ_ok (mostF o l) (p.s.an, p.s.ad)
  simp only [fr, frE] at hc1
  rcases hU : (o :: l).any (leB p.i.x) with _ | _
  · have u1 : ¬ (0 ≤ cmpQ (mostF o l) (p.s.an, p.s.ad)) := (fun e => by rw [hge.1 e] at hU; cases hU)
    simp only [run0, run1, run2, run3, run4, run5, run6, run7, run8, run9, run10, run11, run12, run13, run14, run15, run16, run17, run18, run19, run20, run21, run22, reduceCtorEq, Nat.reduceEqDiff, Nat.reduceAdd, Nat.reduceSub, Nat.reduceLeDiff, indexAddrA, indexRefA, appendA, strA, Nat.reduceMul, Nat.zero_mul, Nat.reduceMod, Int.reduceEq, Int.reduceLT, Int.reduceLE, Nat.reduceLT, Nat.lt_irrefl, Nat.reduceBEq, tys0, tys1, tys2, tys3, tys4, tys5, tys6, tys7, tys8, tys9, tys10, tys11, tys12, tys13, tys14, tys15, tys16, tys17, tys18, tys19, tys20, tys21, tys22, tys23, Try.ntmps80, Try.results80, swC, e1, List.length_map, Int.natCast_zero, Int.lt_irrefl, hlen, u1]
    refine ⟨by kernel_rfl, ?_⟩
    refine RunL.callp rfl rfl ok_f124 (shMost_ok o l hll) (by simp only [pureL, pureB, frE, pl, Bool.and_self, Bool.and_true, Bool.true_and]) rfl ?_
    simp only [run0, run1, run2, run3, run4, run5, run6, run7, run8, run9, run10, run11, run12, run13, run14, run15, run16, run17, run18, run19, run20, run21, run22, reduceCtorEq, Nat.reduceEqDiff, Nat.reduceAdd, Nat.reduceSub, Nat.reduceLeDiff, indexAddrA, indexRefA, appendA, strA, Nat.reduceMul, Nat.zero_mul, Nat.reduceMod, Int.reduceEq, Int.reduceLT, Int.reduceLE, Nat.reduceLT, Nat.lt_irrefl, Nat.reduceBEq, tys0, tys1, tys2, tys3, tys4, tys5, tys6, tys7, tys8, tys9, tys10, tys11, tys12, tys13, tys14, tys15, tys16, tys17, tys18, tys19, tys20, tys21, tys22, tys23, Try.ntmps80, Try.results80, swC, frE]
    refine RunL.callp rfl rfl ok_f78 (hc1) (by first | rfl | simp only [pureL, pureB, Bool.and_self, Bool.and_true, Bool.true_and]) rfl ?_
    simp only [run0, run1, run2, run3, run4, run5, run6, run7, run8, run9, run10, run11, run12, run13, run14, run15, run16, run17, run18, run19, run20, run21, run22, reduceCtorEq, Nat.reduceEqDiff, Nat.reduceAdd, Nat.reduceSub, Nat.reduceLeDiff, indexAddrA, indexRefA, appendA, strA, Nat.reduceMul, Nat.zero_mul, Nat.reduceMod, Int.reduceEq, Int.reduceLT, Int.reduceLE, Nat.reduceLT, Nat.lt_irrefl, Nat.reduceBEq, tys0, tys1, tys2, tys3, tys4, tys5, tys6, tys7, tys8, tys9, tys10, tys11, tys12, tys13, tys14, tys15, tys16, tys17, tys18, tys19, tys20, tys21, tys22, tys23, Try.ntmps80, Try.results80, swC, e1, List.length_map, Int.natCast_zero, Int.lt_irrefl, hlen, u1]
    refine ⟨by kernel_rfl, ?_⟩
    exact Fin.eq (by rw [hI.none_ hn hU rfl]; rfl) rfl
  · have u1 : (0 ≤ cmpQ (mostF o l) (p.s.an, p.s.ad)) := hge.2 hU
    simp only [run0, run1, run2, run3, run4, run5, run6, run7, run8, run9, run10, run11, run12, run13, run14, run15, run16, run17, run18, run19, run20, run21, run22, reduceCtorEq, Nat.reduceEqDiff, Nat.reduceAdd, Nat.reduceSub, Nat.reduceLeDiff, indexAddrA, indexRefA, appendA, strA, Nat.reduceMul, Nat.zero_mul, Nat.reduceMod, Int.reduceEq, Int.reduceLT, Int.reduceLE, Nat.reduceLT, Nat.lt_irrefl, Nat.reduceBEq, tys0, tys1, tys2, tys3, tys4, tys5, tys6, tys7, tys8, tys9, tys10, tys11, tys12, tys13, tys14, tys15, tys16, tys17, tys18, tys19, tys20, tys21, tys22, tys23, Try.ntmps80, Try.results80, swC, e1, List.length_map, Int.natCast_zero, Int.lt_irrefl, hlen, u1]
    refine ⟨by kernel_rfl, ?_⟩
    refine RunL.callp rfl rfl ok_f124 (shMost_ok o l hll) (by simp only [pureL, pureB, frE, pl, Bool.and_self, Bool.and_true, Bool.true_and]) rfl ?_
    simp only [run0, run1, run2, run3, run4, run5, run6, run7, run8, run9, run10, run11, run12, run13, run14, run15, run16, run17, run18, run19, run20, run21, run22, reduceCtorEq, Nat.reduceEqDiff, Nat.reduceAdd, Nat.reduceSub, Nat.reduceLeDiff, indexAddrA, indexRefA, appendA, strA, Nat.reduceMul, Nat.zero_mul, Nat.reduceMod, Int.reduceEq, Int.reduceLT, Int.reduceLE, Nat.reduceLT, Nat.lt_irrefl, Nat.reduceBEq, tys0, tys1, tys2, tys3, tys4, tys5, tys6, tys7, tys8, tys9, tys10, tys11, tys12, tys13, tys14, tys15, tys16, tys17, tys18, tys19, tys20, tys21, tys22, tys23, Try.ntmps80, Try.results80, swC, frE]
    refine RunL.callp rfl rfl ok_f78 (hc1) (by first | rfl | simp only [pureL, pureB, Bool.and_self, Bool.and_true, Bool.true_and]) rfl ?_
    simp only [run0, run1, run2, run3, run4, run5, run6, run7, run8, run9, run10, run11, run12, run13, run14, run15, run16, run17, run18, run19, run20, run21, run22, reduceCtorEq, Nat.reduceEqDiff, Nat.reduceAdd, Nat.reduceSub, Nat.reduceLeDiff, indexAddrA, indexRefA, appendA, strA, Nat.reduceMul, Nat.zero_mul, Nat.reduceMod, Int.reduceEq, Int.reduceLT, Int.reduceLE, Nat.reduceLT, Nat.lt_irrefl, Nat.reduceBEq, tys0, tys1, tys2, tys3, tys4, tys5, tys6, tys7, tys8, tys9, tys10, tys11, tys12, tys13, tys14, tys15, tys16, tys17, tys18, tys19, tys20, tys21, tys22, tys23, Try.ntmps80, Try.results80, swC, e1, List.length_map, Int.natCast_zero, Int.lt_irrefl, hlen, u1]
    refine ⟨by kernel_rfl, ?_⟩
    obtain ⟨hok, hnx⟩ := hI.up hn hU p.X
    have hst := step_ok p.s true hok
    simp only [swV] at hst
    refine RunL.callp rfl rfl ok_f127 (hst) (by first | rfl | simp only [pureL, pureB, Bool.and_self, Bool.and_true, Bool.true_and]) rfl ?_
    simp only [run0, run1, run2, run3, run4, run5, run6, run7, run8, run9, run10, run11, run12, run13, run14, run15, run16, run17, run18, run19, run20, run21, run22, reduceCtorEq, Nat.reduceEqDiff, Nat.reduceAdd, Nat.reduceSub, Nat.reduceLeDiff, indexAddrA, indexRefA, appendA, strA, Nat.reduceMul, Nat.zero_mul, Nat.reduceMod, Int.reduceEq, Int.reduceLT, Int.reduceLE, Nat.reduceLT, Nat.lt_irrefl, Nat.reduceBEq, tys0, tys1, tys2, tys3, tys4, tys5, tys6, tys7, tys8, tys9, tys10, tys11, tys12, tys13, tys14, tys15, tys16, tys17, tys18, tys19, tys20, tys21, tys22, tys23, Try.ntmps80, Try.results80, swC, e5]
    rcases hnx with ⟨g1, g2⟩ | ⟨g1, g2⟩
    · exact ⟨⟨p.n + 1, p.i, swStep p.s true, p.X⟩, .inl ⟨by simp [g1], g2⟩, by simp only; omega, by repeat constructor, rfl⟩
    · exact ⟨⟨p.n + 1, stepP p.i, swStep p.s true, p.X⟩, .inr ⟨g1, g2⟩, by simp only; omega, by repeat constructor, rfl⟩
theorem shSimplest_nc (q : Fr) (r : List Fr) (hll : ([] : List Fr).length ≤ 1048576) (hrl : (q :: r).length ≤ 1048576) (hl : ∀ a ∈ ([] : List Fr), FB a) (hr : ∀ a ∈ (q :: r), FB a) : Ct Try.prog 80 [.sl false [], .sl false (frE q :: r.map frE)] [] (simR ([] : List Fr) (q :: r)) [] := by
  have pr : pureL (r.map frE) = true := frs_pure r
  have prn : pureL ((r.map negF).map frE) = true := frs_pure (r.map negF)
  have hlenr : ((0 : Int) < ((r.length + 1 : Nat) : Int)) := by omega
  refine Ct.by_ hmix [] Try.func80 rfl ?_
  simp only [run0, run1, run2, run3, run4, run5, run6, run7, run8, run9, run10, run11, run12, run13, run14, run15, run16, run17, run18, run19, run20, run21, run22, reduceCtorEq, Nat.reduceEqDiff, Nat.reduceAdd, Nat.reduceSub, Nat.reduceLeDiff, indexAddrA, indexRefA, appendA, strA, Nat.reduceMul, Nat.zero_mul, Nat.reduceMod, Int.reduceEq, Int.reduceLT, Int.reduceLE, Nat.reduceLT, Nat.lt_irrefl, Nat.reduceBEq, tys0, tys1, tys2, tys3, tys4, tys5, tys6, tys7, tys8, tys9, tys10, tys11, tys12, tys13, tys14, tys15, tys16, tys17, tys18, tys19, tys20, tys21, tys22, tys23, Try.ntmps80, Try.results80, swV]
  refine RunL.callp rfl rfl ok_f123 (shStart_ok) (by first | rfl | simp only [pureL, pureB, Bool.and_self, Bool.and_true, Bool.true_and]) rfl ?_
  simp only [run0, run1, run2, run3, run4, run5, run6, run7, run8, run9, run10, run11, run12, run13, run14, run15, run16, run17, run18, run19, run20, run21, run22, reduceCtorEq, Nat.reduceEqDiff, Nat.reduceAdd, Nat.reduceSub, Nat.reduceLeDiff, indexAddrA, indexRefA, appendA, strA, Nat.reduceMul, Nat.zero_mul, Nat.reduceMod, Int.reduceEq, Int.reduceLT, Int.reduceLE, Nat.reduceLT, Nat.lt_irrefl, Nat.reduceBEq, tys0, tys1, tys2, tys3, tys4, tys5, tys6, tys7, tys8, tys9, tys10, tys11, tys12, tys13, tys14, tys15, tys16, tys17, tys18, tys19, tys20, tys21, tys22, tys23, Try.ntmps80, Try.results80, swV]
  refine AWp.loop_inv (ι := SiS) (fun p => ⟨[.sl false [], .sl false (frE q :: r.map frE), .junk, .junk, .ptr 0 0, .bool false, .ptr 1 0, .int .i64 p.n, .junk, .junk, .junk, .junk, .junk, .junk, .junk, .junk, .junk, .junk, .junk, .junk, .junk, .junk, .junk, .junk, .junk, .junk, .junk, .junk, .junk, .junk, .junk, .junk, .junk, .junk, .junk, .junk, .junk, .junk, .junk, .junk, .junk, .junk, .junk, .junk, .junk, .junk, .junk, .junk, .junk, .junk, .junk, .junk, .junk, .junk, .junk, .junk], .box 42 [.int .i64 0, .int .i64 0] :: .box 144 (swC p.s) :: p.X⟩)
    (fun p => (p.n = 21 ∧ cutBad ([] : List Fr) (q :: r) = true) ∨ (p.n ≤ 20 ∧ SiI ([] : List Fr) (q :: r) p)) (fun p => 21 - p.n) ⟨0, wk0, sw0, []⟩ (.inr ⟨by decide, SiI.start _ _⟩) ⟨by simp only [Int.natCast_zero]; repeat constructor, rfl⟩ ?_
  rintro p hI
  refine W.sound hmix (E := []) ?_
  rcases hI with ⟨hn, hbad⟩ | ⟨hn, hI⟩
  · have e1 : ¬ ((p.n : Int) ≤ 20) := by omega
    simp only [run0, run1, run2, run3, run4, run5, run6, run7, run8, run9, run10, run11, run12, run13, run14, run15, run16, run17, run18, run19, run20, run21, run22, reduceCtorEq, Nat.reduceEqDiff, Nat.reduceAdd, Nat.reduceSub, Nat.reduceLeDiff, indexAddrA, indexRefA, appendA, strA, Nat.reduceMul, Nat.zero_mul, Nat.reduceMod, Int.reduceEq, Int.reduceLT, Int.reduceLE, Nat.reduceLT, Nat.lt_irrefl, Nat.reduceBEq, tys0, tys1, tys2, tys3, tys4, tys5, tys6, tys7, tys8, tys9, tys10, tys11, tys12, tys13, tys14, tys15, tys16, tys17, tys18, tys19, tys20, tys21, tys22, tys23, Try.ntmps80, Try.results80, e1]
    exact Fin.eq (by simp [simR, hbad, frE]) rfl
  have e1 : (p.n : Int) ≤ 20 := by omega
  have e5 : IntKind.i64.wrap ((p.n : Int) + 1) = ((p.n + 1 : Nat) : Int) := by rw [i64_id (by omega) (by omega)]; simp
  have hx := hI.small hn
  have hle := hI.le hn hr
  have hc2 := cmpQ_ok (leastF q r) (p.s.an, p.s.ad)
  have hng := shNeg_ok (mostF (negF q) (r.map negF)).1 (mostF (negF q) (r.map negF)).2
  have hmm := shMost_ok (negF q) (r.map negF) (by simpa using hrl)
  simp only [fr, frE] at hc2 hng hmm
  rcases hD : (q :: r).any (geB p.i.x) with _ | _
  · have d1 : ¬ (cmpQ (leastF q r) (p.s.an, p.s.ad) ≤ 0) := (fun e => by rw [hle.1 e] at hD; cases hD)
    simp only [run0, run1, run2, run3, run4, run5, run6, run7, run8, run9, run10, run11, run12, run13, run14, run15, run16, run17, run18, run19, run20, run21, run22, reduceCtorEq, Nat.reduceEqDiff, Nat.reduceAdd, Nat.reduceSub, Nat.reduceLeDiff, indexAddrA, indexRefA, appendA, strA, Nat.reduceMul, Nat.zero_mul, Nat.reduceMod, Int.reduceEq, Int.reduceLT, Int.reduceLE, Nat.reduceLT, Nat.lt_irrefl, Nat.reduceBEq, tys0, tys1, tys2, tys3, tys4, tys5, tys6, tys7, tys8, tys9, tys10, tys11, tys12, tys13, tys14, tys15, tys16, tys17, tys18, tys19, tys20, tys21, tys22, tys23, Try.ntmps80, Try.results80, swC, e1, List.length_map, Int.natCast_zero, Int.lt_irrefl, hlenr, d1]
    refine ⟨by kernel_rfl, ?_⟩
    refine ⟨by kernel_rfl, ?_⟩
    refine RunL.callp rfl rfl ok_f126 (shNegAll_ok (q :: r) hrl) (by simp only [List.map_cons, pureL, pureB, frE, pr, Bool.and_self, Bool.and_true, Bool.true_and]) rfl ?_
    simp only [run0, run1, run2, run3, run4, run5, run6, run7, run8, run9, run10, run11, run12, run13, run14, run15, run16, run17, run18, run19, run20, run21, run22, reduceCtorEq, Nat.reduceEqDiff, Nat.reduceAdd, Nat.reduceSub, Nat.reduceLeDiff, indexAddrA, indexRefA, appendA, strA, Nat.reduceMul, Nat.zero_mul, Nat.reduceMod, Int.reduceEq, Int.reduceLT, Int.reduceLE, Nat.reduceLT, Nat.lt_irrefl, Nat.reduceBEq, tys0, tys1, tys2, tys3, tys4, tys5, tys6, tys7, tys8, tys9, tys10, tys11, tys12, tys13, tys14, tys15, tys16, tys17, tys18, tys19, tys20, tys21, tys22, tys23, Try.ntmps80, Try.results80, swC, frE]
    refine RunL.callp rfl rfl ok_f124 hmm (by simp only [pureL, pureB, prn, Bool.and_self, Bool.and_true, Bool.true_and]) rfl ?_
    simp only [run0, run1, run2, run3, run4, run5, run6, run7, run8, run9, run10, run11, run12, run13, run14, run15, run16, run17, run18, run19, run20, run21, run22, reduceCtorEq, Nat.reduceEqDiff, Nat.reduceAdd, Nat.reduceSub, Nat.reduceLeDiff, indexAddrA, indexRefA, appendA, strA, Nat.reduceMul, Nat.zero_mul, Nat.reduceMod, Int.reduceEq, Int.reduceLT, Int.reduceLE, Nat.reduceLT, Nat.lt_irrefl, Nat.reduceBEq, tys0, tys1, tys2, tys3, tys4, tys5, tys6, tys7, tys8, tys9, tys10, tys11, tys12, tys13, tys14, tys15, tys16, tys17, tys18, tys19, tys20, tys21, tys22, tys23, Try.ntmps80, Try.results80, swC, frE]
    refine RunL.callp rfl rfl ok_f125 (hng) (by first | rfl | simp only [pureL, pureB, Bool.and_self, Bool.and_true, Bool.true_and]) rfl ?_
    simp only [run0, run1, run2, run3, run4, run5, run6, run7, run8, run9, run10, run11, run12, run13, run14, run15, run16, run17, run18, run19, run20, run21, run22, reduceCtorEq, Nat.reduceEqDiff, Nat.reduceAdd, Nat.reduceSub, Nat.reduceLeDiff, indexAddrA, indexRefA, appendA, strA, Nat.reduceMul, Nat.zero_mul, Nat.reduceMod, Int.reduceEq, Int.reduceLT, Int.reduceLE, Nat.reduceLT, Nat.lt_irrefl, Nat.reduceBEq, tys0, tys1, tys2, tys3, tys4, tys5, tys6, tys7, tys8, tys9, tys10, tys11, tys12, tys13, tys14, tys15, tys16, tys17, tys18, tys19, tys20, tys21, tys22, tys23, Try.ntmps80, Try.results80, swC]
    refine RunL.callp rfl rfl ok_f78 (hc2) (by first | rfl | simp only [pureL, pureB, Bool.and_self, Bool.and_true, Bool.true_and]) rfl ?_
    simp only [run0, run1, run2, run3, run4, run5, run6, run7, run8, run9, run10, run11, run12, run13, run14, run15, run16, run17, run18, run19, run20, run21, run22, reduceCtorEq, Nat.reduceEqDiff, Nat.reduceAdd, Nat.reduceSub, Nat.reduceLeDiff, indexAddrA, indexRefA, appendA, strA, Nat.reduceMul, Nat.zero_mul, Nat.reduceMod, Int.reduceEq, Int.reduceLT, Int.reduceLE, Nat.reduceLT, Nat.lt_irrefl, Nat.reduceBEq, tys0, tys1, tys2, tys3, tys4, tys5, tys6, tys7, tys8, tys9, tys10, tys11, tys12, tys13, tys14, tys15, tys16, tys17, tys18, tys19, tys20, tys21, tys22, tys23, Try.ntmps80, Try.results80, swC, e1, List.length_map, Int.natCast_zero, Int.lt_irrefl, hlenr, d1]
    exact Fin.eq (by rw [hI.none_ hn rfl hD]; rfl) rfl
  · have d1 : (cmpQ (leastF q r) (p.s.an, p.s.ad) ≤ 0) := hle.2 hD
    simp only [run0, run1, run2, run3, run4, run5, run6, run7, run8, run9, run10, run11, run12, run13, run14, run15, run16, run17, run18, run19, run20, run21, run22, reduceCtorEq, Nat.reduceEqDiff, Nat.reduceAdd, Nat.reduceSub, Nat.reduceLeDiff, indexAddrA, indexRefA, appendA, strA, Nat.reduceMul, Nat.zero_mul, Nat.reduceMod, Int.reduceEq, Int.reduceLT, Int.reduceLE, Nat.reduceLT, Nat.lt_irrefl, Nat.reduceBEq, tys0, tys1, tys2, tys3, tys4, tys5, tys6, tys7, tys8, tys9, tys10, tys11, tys12, tys13, tys14, tys15, tys16, tys17, tys18, tys19, tys20, tys21, tys22, tys23, Try.ntmps80, Try.results80, swC, e1, List.length_map, Int.natCast_zero, Int.lt_irrefl, hlenr, d1]
    refine ⟨by kernel_rfl, ?_⟩
    refine ⟨by kernel_rfl, ?_⟩
    refine RunL.callp rfl rfl ok_f126 (shNegAll_ok (q :: r) hrl) (by simp only [List.map_cons, pureL, pureB, frE, pr, Bool.and_self, Bool.and_true, Bool.true_and]) rfl ?_
    simp only [run0, run1, run2, run3, run4, run5, run6, run7, run8, run9, run10, run11, run12, run13, run14, run15, run16, run17, run18, run19, run20, run21, run22, reduceCtorEq, Nat.reduceEqDiff, Nat.reduceAdd, Nat.reduceSub, Nat.reduceLeDiff, indexAddrA, indexRefA, appendA, strA, Nat.reduceMul, Nat.zero_mul, Nat.reduceMod, Int.reduceEq, Int.reduceLT, Int.reduceLE, Nat.reduceLT, Nat.lt_irrefl, Nat.reduceBEq, tys0, tys1, tys2, tys3, tys4, tys5, tys6, tys7, tys8, tys9, tys10, tys11, tys12, tys13, tys14, tys15, tys16, tys17, tys18, tys19, tys20, tys21, tys22, tys23, Try.ntmps80, Try.results80, swC, frE]
    refine RunL.callp rfl rfl ok_f124 hmm (by simp only [pureL, pureB, prn, Bool.and_self, Bool.and_true, Bool.true_and]) rfl ?_
    simp only [run0, run1, run2, run3, run4, run5, run6, run7, run8, run9, run10, run11, run12, run13, run14, run15, run16, run17, run18, run19, run20, run21, run22, reduceCtorEq, Nat.reduceEqDiff, Nat.reduceAdd, Nat.reduceSub, Nat.reduceLeDiff, indexAddrA, indexRefA, appendA, strA, Nat.reduceMul, Nat.zero_mul, Nat.reduceMod, Int.reduceEq, Int.reduceLT, Int.reduceLE, Nat.reduceLT, Nat.lt_irrefl, Nat.reduceBEq, tys0, tys1, tys2, tys3, tys4, tys5, tys6, tys7, tys8, tys9, tys10, tys11, tys12, tys13, tys14, tys15, tys16, tys17, tys18, tys19, tys20, tys21, tys22, tys23, Try.ntmps80, Try.results80, swC, frE]
    refine RunL.callp rfl rfl ok_f125 (hng) (by first | rfl | simp only [pureL, pureB, Bool.and_self, Bool.and_true, Bool.true_and]) rfl ?_
    simp only [run0, run1, run2, run3, run4, run5, run6, run7, run8, run9, run10, run11, run12, run13, run14, run15, run16, run17, run18, run19, run20, run21, run22, reduceCtorEq, Nat.reduceEqDiff, Nat.reduceAdd, Nat.reduceSub, Nat.reduceLeDiff, indexAddrA, indexRefA, appendA, strA, Nat.reduceMul, Nat.zero_mul, Nat.reduceMod, Int.reduceEq, Int.reduceLT, Int.reduceLE, Nat.reduceLT, Nat.lt_irrefl, Nat.reduceBEq, tys0, tys1, tys2, tys3, tys4, tys5, tys6, tys7, tys8, tys9, tys10, tys11, tys12, tys13, tys14, tys15, tys16, tys17, tys18, tys19, tys20, tys21, tys22, tys23, Try.ntmps80, Try.results80, swC]
    refine RunL.callp rfl rfl ok_f78 (hc2) (by first | rfl | simp only [pureL, pureB, Bool.and_self, Bool.and_true, Bool.true_and]) rfl ?_
    simp only [run0, run1, run2, run3, run4, run5, run6, run7, run8, run9, run10, run11, run12, run13, run14, run15, run16, run17, run18, run19, run20, run21, run22, reduceCtorEq, Nat.reduceEqDiff, Nat.reduceAdd, Nat.reduceSub, Nat.reduceLeDiff, indexAddrA, indexRefA, appendA, strA, Nat.reduceMul, Nat.zero_mul, Nat.reduceMod, Int.reduceEq, Int.reduceLT, Int.reduceLE, Nat.reduceLT, Nat.lt_irrefl, Nat.reduceBEq, tys0, tys1, tys2, tys3, tys4, tys5, tys6, tys7, tys8, tys9, tys10, tys11, tys12, tys13, tys14, tys15, tys16, tys17, tys18, tys19, tys20, tys21, tys22, tys23, Try.ntmps80, Try.results80, swC, e1, List.length_map, Int.natCast_zero, Int.lt_irrefl, hlenr, d1]
    obtain ⟨hok, hnx⟩ := hI.down hn rfl hD p.X
    have hst := step_ok p.s false hok
    simp only [swV] at hst
    refine RunL.callp rfl rfl ok_f127 (hst) (by first | rfl | simp only [pureL, pureB, Bool.and_self, Bool.and_true, Bool.true_and]) rfl ?_
    simp only [run0, run1, run2, run3, run4, run5, run6, run7, run8, run9, run10, run11, run12, run13, run14, run15, run16, run17, run18, run19, run20, run21, run22, reduceCtorEq, Nat.reduceEqDiff, Nat.reduceAdd, Nat.reduceSub, Nat.reduceLeDiff, indexAddrA, indexRefA, appendA, strA, Nat.reduceMul, Nat.zero_mul, Nat.reduceMod, Int.reduceEq, Int.reduceLT, Int.reduceLE, Nat.reduceLT, Nat.lt_irrefl, Nat.reduceBEq, tys0, tys1, tys2, tys3, tys4, tys5, tys6, tys7, tys8, tys9, tys10, tys11, tys12, tys13, tys14, tys15, tys16, tys17, tys18, tys19, tys20, tys21, tys22, tys23, Try.ntmps80, Try.results80, swC, e5]
    rcases hnx with ⟨g1, g2⟩ | ⟨g1, g2⟩
    · exact ⟨⟨p.n + 1, p.i, swStep p.s false, p.X⟩, .inl ⟨by simp [g1], g2⟩, by simp only; omega, by repeat constructor, rfl⟩
    · exact ⟨⟨p.n + 1, stepM p.i, swStep p.s false, p.X⟩, .inr ⟨g1, g2⟩, by simp only; omega, by repeat constructor, rfl⟩
theorem shSimplest_cc (o : Fr) (l : List Fr) (q : Fr) (r : List Fr) (hll : (o :: l).length ≤ 1048576) (hrl : (q :: r).length ≤ 1048576) (hl : ∀ a ∈ (o :: l), FB a) (hr : ∀ a ∈ (q :: r), FB a) : Ct Try.prog 80 [.sl false (frE o :: l.map frE), .sl false (frE q :: r.map frE)] [] (simR (o :: l) (q :: r)) [] := by
  have pl : pureL (l.map frE) = true := frs_pure l
  have hlen : ((0 : Int) < ((l.length + 1 : Nat) : Int)) := by omega
  have pr : pureL (r.map frE) = true := frs_pure r
  have prn : pureL ((r.map negF).map frE) = true := frs_pure (r.map negF)
  have hlenr : ((0 : Int) < ((r.length + 1 : Nat) : Int)) := by omega
  refine Ct.by_ hmix [] Try.func80 rfl ?_
  simp only [run0, run1, run2, run3, run4, run5, run6, run7, run8, run9, run10, run11, run12, run13, run14, run15, run16, run17, run18, run19, run20, run21, run22, reduceCtorEq, Nat.reduceEqDiff, Nat.reduceAdd, Nat.reduceSub, Nat.reduceLeDiff, indexAddrA, indexRefA, appendA, strA, Nat.reduceMul, Nat.zero_mul, Nat.reduceMod, Int.reduceEq, Int.reduceLT, Int.reduceLE, Nat.reduceLT, Nat.lt_irrefl, Nat.reduceBEq, tys0, tys1, tys2, tys3, tys4, tys5, tys6, tys7, tys8, tys9, tys10, tys11, tys12, tys13, tys14, tys15, tys16, tys17, tys18, tys19, tys20, tys21, tys22, tys23, Try.ntmps80, Try.results80, swV]
  refine RunL.callp rfl rfl ok_f123 (shStart_ok) (by first | rfl | simp only [pureL, pureB, Bool.and_self, Bool.and_true, Bool.true_and]) rfl ?_
  simp only [run0, run1, run2, run3, run4, run5, run6, run7, run8, run9, run10, run11, run12, run13, run14, run15, run16, run17, run18, run19, run20, run21, run22, reduceCtorEq, Nat.reduceEqDiff, Nat.reduceAdd, Nat.reduceSub, Nat.reduceLeDiff, indexAddrA, indexRefA, appendA, strA, Nat.reduceMul, Nat.zero_mul, Nat.reduceMod, Int.reduceEq, Int.reduceLT, Int.reduceLE, Nat.reduceLT, Nat.lt_irrefl, Nat.reduceBEq, tys0, tys1, tys2, tys3, tys4, tys5, tys6, tys7, tys8, tys9, tys10, tys11, tys12, tys13, tys14, tys15, tys16, tys17, tys18, tys19, tys20, tys21, tys22, tys23, Try.ntmps80, Try.results80, swV]
  refine AWp.loop_inv (ι := SiS) (fun p => ⟨[.sl false (frE o :: l.map frE), .sl false (frE q :: r.map frE), .junk, .junk, .ptr 0 0, .bool false, .ptr 1 0, .int .i64 p.n, .junk, .junk, .junk, .junk, .junk, .junk, .junk, .junk, .junk, .junk, .junk, .junk, .junk, .junk, .junk, .junk, .junk, .junk, .junk, .junk, .junk, .junk, .junk, .junk, .junk, .junk, .junk, .junk, .junk, .junk, .junk, .junk, .junk, .junk, .junk, .junk, .junk, .junk, .junk, .junk, .junk, .junk, .junk, .junk, .junk, .junk, .junk, .junk], .box 42 [.int .i64 0, .int .i64 0] :: .box 144 (swC p.s) :: p.X⟩)
    (fun p => (p.n = 21 ∧ cutBad (o :: l) (q :: r) = true) ∨ (p.n ≤ 20 ∧ SiI (o :: l) (q :: r) p)) (fun p => 21 - p.n) ⟨0, wk0, sw0, []⟩ (.inr ⟨by decide, SiI.start _ _⟩) ⟨by simp only [Int.natCast_zero]; repeat constructor, rfl⟩ ?_
  rintro p hI
  refine W.sound hmix (E := []) ?_
  rcases hI with ⟨hn, hbad⟩ | ⟨hn, hI⟩
  · have e1 : ¬ ((p.n : Int) ≤ 20) := by omega
    simp only [run0, run1, run2, run3, run4, run5, run6, run7, run8, run9, run10, run11, run12, run13, run14, run15, run16, run17, run18, run19, run20, run21, run22, reduceCtorEq, Nat.reduceEqDiff, Nat.reduceAdd, Nat.reduceSub, Nat.reduceLeDiff, indexAddrA, indexRefA, appendA, strA, Nat.reduceMul, Nat.zero_mul, Nat.reduceMod, Int.reduceEq, Int.reduceLT, Int.reduceLE, Nat.reduceLT, Nat.lt_irrefl, Nat.reduceBEq, tys0, tys1, tys2, tys3, tys4, tys5, tys6, tys7, tys8, tys9, tys10, tys11, tys12, tys13, tys14, tys15, tys16, tys17, tys18, tys19, tys20, tys21, tys22, tys23, Try.ntmps80, Try.results80, e1]
    exact Fin.eq (by simp [simR, hbad, frE]) rfl
  have e1 : (p.n : Int) ≤ 20 := by omega
  have e5 : IntKind.i64.wrap ((p.n : Int) + 1) = ((p.n + 1 : Nat) : Int) := by rw [i64_id (by omega) (by omega)]; simp
  have hx := hI.small hn
  have hge := hI.ge hn hl
  have hc1 := cmpQ_ok (mostF o l) (p.s.an, p.s.ad)
  have hle := hI.le hn hr
  have hc2 := cmpQ_ok (leastF q r) (p.s.an, p.s.ad)
  have hng := shNeg_ok (mostF (negF q) (r.map negF)).1 (mostF (negF q) (r.map negF)).2
  have hmm := shMost_ok (negF q) (r.map negF) (by simpa using hrl)
  simp only [fr, frE] at hc1 hc2 hng hmm
  rcases hU : (o :: l).any (leB p.i.x) with _ | _
  · rcases hD : (q :: r).any (geB p.i.x) with _ | _
    · have u1 : ¬ (0 ≤ cmpQ (mostF o l) (p.s.an, p.s.ad)) := (fun e => by rw [hge.1 e] at hU; cases hU)
      have d1 : ¬ (cmpQ (leastF q r) (p.s.an, p.s.ad) ≤ 0) := (fun e => by rw [hle.1 e] at hD; cases hD)
      simp only [run0, run1, run2, run3, run4, run5, run6, run7, run8, run9, run10, run11, run12, run13, run14, run15, run16, run17, run18, run19, run20, run21, run22, reduceCtorEq, Nat.reduceEqDiff, Nat.reduceAdd, Nat.reduceSub, Nat.reduceLeDiff, indexAddrA, indexRefA, appendA, strA, Nat.reduceMul, Nat.zero_mul, Nat.reduceMod, Int.reduceEq, Int.reduceLT, Int.reduceLE, Nat.reduceLT, Nat.lt_irrefl, Nat.reduceBEq, tys0, tys1, tys2, tys3, tys4, tys5, tys6, tys7, tys8, tys9, tys10, tys11, tys12, tys13, tys14, tys15, tys16, tys17, tys18, tys19, tys20, tys21, tys22, tys23, Try.ntmps80, Try.results80, swC, e1, List.length_map, Int.natCast_zero, Int.lt_irrefl, hlen, hlenr, u1, d1]
      refine ⟨by kernel_rfl, ?_⟩
      refine RunL.callp rfl rfl ok_f124 (shMost_ok o l hll) (by simp only [pureL, pureB, frE, pl, Bool.and_self, Bool.and_true, Bool.true_and]) rfl ?_
      simp only [run0, run1, run2, run3, run4, run5, run6, run7, run8, run9, run10, run11, run12, run13, run14, run15, run16, run17, run18, run19, run20, run21, run22, reduceCtorEq, Nat.reduceEqDiff, Nat.reduceAdd, Nat.reduceSub, Nat.reduceLeDiff, indexAddrA, indexRefA, appendA, strA, Nat.reduceMul, Nat.zero_mul, Nat.reduceMod, Int.reduceEq, Int.reduceLT, Int.reduceLE, Nat.reduceLT, Nat.lt_irrefl, Nat.reduceBEq, tys0, tys1, tys2, tys3, tys4, tys5, tys6, tys7, tys8, tys9, tys10, tys11, tys12, tys13, tys14, tys15, tys16, tys17, tys18, tys19, tys20, tys21, tys22, tys23, Try.ntmps80, Try.results80, swC, frE]
      refine RunL.callp rfl rfl ok_f78 (hc1) (by first | rfl | simp only [pureL, pureB, Bool.and_self, Bool.and_true, Bool.true_and]) rfl ?_
      simp only [run0, run1, run2, run3, run4, run5, run6, run7, run8, run9, run10, run11, run12, run13, run14, run15, run16, run17, run18, run19, run20, run21, run22, reduceCtorEq, Nat.reduceEqDiff, Nat.reduceAdd, Nat.reduceSub, Nat.reduceLeDiff, indexAddrA, indexRefA, appendA, strA, Nat.reduceMul, Nat.zero_mul, Nat.reduceMod, Int.reduceEq, Int.reduceLT, Int.reduceLE, Nat.reduceLT, Nat.lt_irrefl, Nat.reduceBEq, tys0, tys1, tys2, tys3, tys4, tys5, tys6, tys7, tys8, tys9, tys10, tys11, tys12, tys13, tys14, tys15, tys16, tys17, tys18, tys19, tys20, tys21, tys22, tys23, Try.ntmps80, Try.results80, swC, e1, List.length_map, Int.natCast_zero, Int.lt_irrefl, hlen, hlenr, u1, d1]
      refine ⟨by kernel_rfl, ?_⟩
      refine RunL.callp rfl rfl ok_f126 (shNegAll_ok (q :: r) hrl) (by simp only [List.map_cons, pureL, pureB, frE, pr, Bool.and_self, Bool.and_true, Bool.true_and]) rfl ?_
      simp only [run0, run1, run2, run3, run4, run5, run6, run7, run8, run9, run10, run11, run12, run13, run14, run15, run16, run17, run18, run19, run20, run21, run22, reduceCtorEq, Nat.reduceEqDiff, Nat.reduceAdd, Nat.reduceSub, Nat.reduceLeDiff, indexAddrA, indexRefA, appendA, strA, Nat.reduceMul, Nat.zero_mul, Nat.reduceMod, Int.reduceEq, Int.reduceLT, Int.reduceLE, Nat.reduceLT, Nat.lt_irrefl, Nat.reduceBEq, tys0, tys1, tys2, tys3, tys4, tys5, tys6, tys7, tys8, tys9, tys10, tys11, tys12, tys13, tys14, tys15, tys16, tys17, tys18, tys19, tys20, tys21, tys22, tys23, Try.ntmps80, Try.results80, swC, frE]
      refine RunL.callp rfl rfl ok_f124 hmm (by simp only [pureL, pureB, prn, Bool.and_self, Bool.and_true, Bool.true_and]) rfl ?_
      simp only [run0, run1, run2, run3, run4, run5, run6, run7, run8, run9, run10, run11, run12, run13, run14, run15, run16, run17, run18, run19, run20, run21, run22, reduceCtorEq, Nat.reduceEqDiff, Nat.reduceAdd, Nat.reduceSub, Nat.reduceLeDiff, indexAddrA, indexRefA, appendA, strA, Nat.reduceMul, Nat.zero_mul, Nat.reduceMod, Int.reduceEq, Int.reduceLT, Int.reduceLE, Nat.reduceLT, Nat.lt_irrefl, Nat.reduceBEq, tys0, tys1, tys2, tys3, tys4, tys5, tys6, tys7, tys8, tys9, tys10, tys11, tys12, tys13, tys14, tys15, tys16, tys17, tys18, tys19, tys20, tys21, tys22, tys23, Try.ntmps80, Try.results80, swC, frE]
      refine RunL.callp rfl rfl ok_f125 (hng) (by first | rfl | simp only [pureL, pureB, Bool.and_self, Bool.and_true, Bool.true_and]) rfl ?_
      simp only [run0, run1, run2, run3, run4, run5, run6, run7, run8, run9, run10, run11, run12, run13, run14, run15, run16, run17, run18, run19, run20, run21, run22, reduceCtorEq, Nat.reduceEqDiff, Nat.reduceAdd, Nat.reduceSub, Nat.reduceLeDiff, indexAddrA, indexRefA, appendA, strA, Nat.reduceMul, Nat.zero_mul, Nat.reduceMod, Int.reduceEq, Int.reduceLT, Int.reduceLE, Nat.reduceLT, Nat.lt_irrefl, Nat.reduceBEq, tys0, tys1, tys2, tys3, tys4, tys5, tys6, tys7, tys8, tys9, tys10, tys11, tys12, tys13, tys14, tys15, tys16, tys17, tys18, tys19, tys20, tys21, tys22, tys23, Try.ntmps80, Try.results80, swC]
      refine RunL.callp rfl rfl ok_f78 (hc2) (by first | rfl | simp only [pureL, pureB, Bool.and_self, Bool.and_true, Bool.true_and]) rfl ?_
      simp only [run0, run1, run2, run3, run4, run5, run6, run7, run8, run9, run10, run11, run12, run13, run14, run15, run16, run17, run18, run19, run20, run21, run22, reduceCtorEq, Nat.reduceEqDiff, Nat.reduceAdd, Nat.reduceSub, Nat.reduceLeDiff, indexAddrA, indexRefA, appendA, strA, Nat.reduceMul, Nat.zero_mul, Nat.reduceMod, Int.reduceEq, Int.reduceLT, Int.reduceLE, Nat.reduceLT, Nat.lt_irrefl, Nat.reduceBEq, tys0, tys1, tys2, tys3, tys4, tys5, tys6, tys7, tys8, tys9, tys10, tys11, tys12, tys13, tys14, tys15, tys16, tys17, tys18, tys19, tys20, tys21, tys22, tys23, Try.ntmps80, Try.results80, swC, e1, List.length_map, Int.natCast_zero, Int.lt_irrefl, hlen, hlenr, u1, d1]
      exact Fin.eq (by rw [hI.none_ hn hU hD]; rfl) rfl
    · have u1 : ¬ (0 ≤ cmpQ (mostF o l) (p.s.an, p.s.ad)) := (fun e => by rw [hge.1 e] at hU; cases hU)
      have d1 : (cmpQ (leastF q r) (p.s.an, p.s.ad) ≤ 0) := hle.2 hD
      simp only [run0, run1, run2, run3, run4, run5, run6, run7, run8, run9, run10, run11, run12, run13, run14, run15, run16, run17, run18, run19, run20, run21, run22, reduceCtorEq, Nat.reduceEqDiff, Nat.reduceAdd, Nat.reduceSub, Nat.reduceLeDiff, indexAddrA, indexRefA, appendA, strA, Nat.reduceMul, Nat.zero_mul, Nat.reduceMod, Int.reduceEq, Int.reduceLT, Int.reduceLE, Nat.reduceLT, Nat.lt_irrefl, Nat.reduceBEq, tys0, tys1, tys2, tys3, tys4, tys5, tys6, tys7, tys8, tys9, tys10, tys11, tys12, tys13, tys14, tys15, tys16, tys17, tys18, tys19, tys20, tys21, tys22, tys23, Try.ntmps80, Try.results80, swC, e1, List.length_map, Int.natCast_zero, Int.lt_irrefl, hlen, hlenr, u1, d1]
      refine ⟨by kernel_rfl, ?_⟩
      refine RunL.callp rfl rfl ok_f124 (shMost_ok o l hll) (by simp only [pureL, pureB, frE, pl, Bool.and_self, Bool.and_true, Bool.true_and]) rfl ?_
      simp only [run0, run1, run2, run3, run4, run5, run6, run7, run8, run9, run10, run11, run12, run13, run14, run15, run16, run17, run18, run19, run20, run21, run22, reduceCtorEq, Nat.reduceEqDiff, Nat.reduceAdd, Nat.reduceSub, Nat.reduceLeDiff, indexAddrA, indexRefA, appendA, strA, Nat.reduceMul, Nat.zero_mul, Nat.reduceMod, Int.reduceEq, Int.reduceLT, Int.reduceLE, Nat.reduceLT, Nat.lt_irrefl, Nat.reduceBEq, tys0, tys1, tys2, tys3, tys4, tys5, tys6, tys7, tys8, tys9, tys10, tys11, tys12, tys13, tys14, tys15, tys16, tys17, tys18, tys19, tys20, tys21, tys22, tys23, Try.ntmps80, Try.results80, swC, frE]
      refine RunL.callp rfl rfl ok_f78 (hc1) (by first | rfl | simp only [pureL, pureB, Bool.and_self, Bool.and_true, Bool.true_and]) rfl ?_
      simp only [run0, run1, run2, run3, run4, run5, run6, run7, run8, run9, run10, run11, run12, run13, run14, run15, run16, run17, run18, run19, run20, run21, run22, reduceCtorEq, Nat.reduceEqDiff, Nat.reduceAdd, Nat.reduceSub, Nat.reduceLeDiff, indexAddrA, indexRefA, appendA, strA, Nat.reduceMul, Nat.zero_mul, Nat.reduceMod, Int.reduceEq, Int.reduceLT, Int.reduceLE, Nat.reduceLT, Nat.lt_irrefl, Nat.reduceBEq, tys0, tys1, tys2, tys3, tys4, tys5, tys6, tys7, tys8, tys9, tys10, tys11, tys12, tys13, tys14, tys15, tys16, tys17, tys18, tys19, tys20, tys21, tys22, tys23, Try.ntmps80, Try.results80, swC, e1, List.length_map, Int.natCast_zero, Int.lt_irrefl, hlen, hlenr, u1, d1]
      refine ⟨by kernel_rfl, ?_⟩
      refine RunL.callp rfl rfl ok_f126 (shNegAll_ok (q :: r) hrl) (by simp only [List.map_cons, pureL, pureB, frE, pr, Bool.and_self, Bool.and_true, Bool.true_and]) rfl ?_
      simp only [run0, run1, run2, run3, run4, run5, run6, run7, run8, run9, run10, run11, run12, run13, run14, run15, run16, run17, run18, run19, run20, run21, run22, reduceCtorEq, Nat.reduceEqDiff, Nat.reduceAdd, Nat.reduceSub, Nat.reduceLeDiff, indexAddrA, indexRefA, appendA, strA, Nat.reduceMul, Nat.zero_mul, Nat.reduceMod, Int.reduceEq, Int.reduceLT, Int.reduceLE, Nat.reduceLT, Nat.lt_irrefl, Nat.reduceBEq, tys0, tys1, tys2, tys3, tys4, tys5, tys6, tys7, tys8, tys9, tys10, tys11, tys12, tys13, tys14, tys15, tys16, tys17, tys18, tys19, tys20, tys21, tys22, tys23, Try.ntmps80, Try.results80, swC, frE]
      refine RunL.callp rfl rfl ok_f124 hmm (by simp only [pureL, pureB, prn, Bool.and_self, Bool.and_true, Bool.true_and]) rfl ?_
      simp only [run0, run1, run2, run3, run4, run5, run6, run7, run8, run9, run10, run11, run12, run13, run14, run15, run16, run17, run18, run19, run20, run21, run22, reduceCtorEq, Nat.reduceEqDiff, Nat.reduceAdd, Nat.reduceSub, Nat.reduceLeDiff, indexAddrA, indexRefA, appendA, strA, Nat.reduceMul, Nat.zero_mul, Nat.reduceMod, Int.reduceEq, Int.reduceLT, Int.reduceLE, Nat.reduceLT, Nat.lt_irrefl, Nat.reduceBEq, tys0, tys1, tys2, tys3, tys4, tys5, tys6, tys7, tys8, tys9, tys10, tys11, tys12, tys13, tys14, tys15, tys16, tys17, tys18, tys19, tys20, tys21, tys22, tys23, Try.ntmps80, Try.results80, swC, frE]
      refine RunL.callp rfl rfl ok_f125 (hng) (by first | rfl | simp only [pureL, pureB, Bool.and_self, Bool.and_true, Bool.true_and]) rfl ?_
      simp only [run0, run1, run2, run3, run4, run5, run6, run7, run8, run9, run10, run11, run12, run13, run14, run15, run16, run17, run18, run19, run20, run21, run22, reduceCtorEq, Nat.reduceEqDiff, Nat.reduceAdd, Nat.reduceSub, Nat.reduceLeDiff, indexAddrA, indexRefA, appendA, strA, Nat.reduceMul, Nat.zero_mul, Nat.reduceMod, Int.reduceEq, Int.reduceLT, Int.reduceLE, Nat.reduceLT, Nat.lt_irrefl, Nat.reduceBEq, tys0, tys1, tys2, tys3, tys4, tys5, tys6, tys7, tys8, tys9, tys10, tys11, tys12, tys13, tys14, tys15, tys16, tys17, tys18, tys19, tys20, tys21, tys22, tys23, Try.ntmps80, Try.results80, swC]
      refine RunL.callp rfl rfl ok_f78 (hc2) (by first | rfl | simp only [pureL, pureB, Bool.and_self, Bool.and_true, Bool.true_and]) rfl ?_
      simp only [run0, run1, run2, run3, run4, run5, run6, run7, run8, run9, run10, run11, run12, run13, run14, run15, run16, run17, run18, run19, run20, run21, run22, reduceCtorEq, Nat.reduceEqDiff, Nat.reduceAdd, Nat.reduceSub, Nat.reduceLeDiff, indexAddrA, indexRefA, appendA, strA, Nat.reduceMul, Nat.zero_mul, Nat.reduceMod, Int.reduceEq, Int.reduceLT, Int.reduceLE, Nat.reduceLT, Nat.lt_irrefl, Nat.reduceBEq, tys0, tys1, tys2, tys3, tys4, tys5, tys6, tys7, tys8, tys9, tys10, tys11, tys12, tys13, tys14, tys15, tys16, tys17, tys18, tys19, tys20, tys21, tys22, tys23, Try.ntmps80, Try.results80, swC, e1, List.length_map, Int.natCast_zero, Int.lt_irrefl, hlen, hlenr, u1, d1]
      obtain ⟨hok, hnx⟩ := hI.down hn hU hD p.X
      have hst := step_ok p.s false hok
      simp only [swV] at hst
      refine RunL.callp rfl rfl ok_f127 (hst) (by first | rfl | simp only [pureL, pureB, Bool.and_self, Bool.and_true, Bool.true_and]) rfl ?_
      simp only [run0, run1, run2, run3, run4, run5, run6, run7, run8, run9, run10, run11, run12, run13, run14, run15, run16, run17, run18, run19, run20, run21, run22, reduceCtorEq, Nat.reduceEqDiff, Nat.reduceAdd, Nat.reduceSub, Nat.reduceLeDiff, indexAddrA, indexRefA, appendA, strA, Nat.reduceMul, Nat.zero_mul, Nat.reduceMod, Int.reduceEq, Int.reduceLT, Int.reduceLE, Nat.reduceLT, Nat.lt_irrefl, Nat.reduceBEq, tys0, tys1, tys2, tys3, tys4, tys5, tys6, tys7, tys8, tys9, tys10, tys11, tys12, tys13, tys14, tys15, tys16, tys17, tys18, tys19, tys20, tys21, tys22, tys23, Try.ntmps80, Try.results80, swC, e5]
      rcases hnx with ⟨g1, g2⟩ | ⟨g1, g2⟩
      · exact ⟨⟨p.n + 1, p.i, swStep p.s false, p.X⟩, .inl ⟨by simp [g1], g2⟩, by simp only; omega, by repeat constructor, rfl⟩
      · exact ⟨⟨p.n + 1, stepM p.i, swStep p.s false, p.X⟩, .inr ⟨g1, g2⟩, by simp only; omega, by repeat constructor, rfl⟩
  · rcases hD : (q :: r).any (geB p.i.x) with _ | _
    · have u1 : (0 ≤ cmpQ (mostF o l) (p.s.an, p.s.ad)) := hge.2 hU
      have d1 : ¬ (cmpQ (leastF q r) (p.s.an, p.s.ad) ≤ 0) := (fun e => by rw [hle.1 e] at hD; cases hD)
      simp only [run0, run1, run2, run3, run4, run5, run6, run7, run8, run9, run10, run11, run12, run13, run14, run15, run16, run17, run18, run19, run20, run21, run22, reduceCtorEq, Nat.reduceEqDiff, Nat.reduceAdd, Nat.reduceSub, Nat.reduceLeDiff, indexAddrA, indexRefA, appendA, strA, Nat.reduceMul, Nat.zero_mul, Nat.reduceMod, Int.reduceEq, Int.reduceLT, Int.reduceLE, Nat.reduceLT, Nat.lt_irrefl, Nat.reduceBEq, tys0, tys1, tys2, tys3, tys4, tys5, tys6, tys7, tys8, tys9, tys10, tys11, tys12, tys13, tys14, tys15, tys16, tys17, tys18, tys19, tys20, tys21, tys22, tys23, Try.ntmps80, Try.results80, swC, e1, List.length_map, Int.natCast_zero, Int.lt_irrefl, hlen, hlenr, u1, d1]
      refine ⟨by kernel_rfl, ?_⟩
      refine RunL.callp rfl rfl ok_f124 (shMost_ok o l hll) (by simp only [pureL, pureB, frE, pl, Bool.and_self, Bool.and_true, Bool.true_and]) rfl ?_
      simp only [run0, run1, run2, run3, run4, run5, run6, run7, run8, run9, run10, run11, run12, run13, run14, run15, run16, run17, run18, run19, run20, run21, run22, reduceCtorEq, Nat.reduceEqDiff, Nat.reduceAdd, Nat.reduceSub, Nat.reduceLeDiff, indexAddrA, indexRefA, appendA, strA, Nat.reduceMul, Nat.zero_mul, Nat.reduceMod, Int.reduceEq, Int.reduceLT, Int.reduceLE, Nat.reduceLT, Nat.lt_irrefl, Nat.reduceBEq, tys0, tys1, tys2, tys3, tys4, tys5, tys6, tys7, tys8, tys9, tys10, tys11, tys12, tys13, tys14, tys15, tys16, tys17, tys18, tys19, tys20, tys21, tys22, tys23, Try.ntmps80, Try.results80, swC, frE]
      refine RunL.callp rfl rfl ok_f78 (hc1) (by first | rfl | simp only [pureL, pureB, Bool.and_self, Bool.and_true, Bool.true_and]) rfl ?_
      simp only [run0, run1, run2, run3, run4, run5, run6, run7, run8, run9, run10, run11, run12, run13, run14, run15, run16, run17, run18, run19, run20, run21, run22, reduceCtorEq, Nat.reduceEqDiff, Nat.reduceAdd, Nat.reduceSub, Nat.reduceLeDiff, indexAddrA, indexRefA, appendA, strA, Nat.reduceMul, Nat.zero_mul, Nat.reduceMod, Int.reduceEq, Int.reduceLT, Int.reduceLE, Nat.reduceLT, Nat.lt_irrefl, Nat.reduceBEq, tys0, tys1, tys2, tys3, tys4, tys5, tys6, tys7, tys8, tys9, tys10, tys11, tys12, tys13, tys14, tys15, tys16, tys17, tys18, tys19, tys20, tys21, tys22, tys23, Try.ntmps80, Try.results80, swC, e1, List.length_map, Int.natCast_zero, Int.lt_irrefl, hlen, hlenr, u1, d1]
      refine ⟨by kernel_rfl, ?_⟩
      refine RunL.callp rfl rfl ok_f126 (shNegAll_ok (q :: r) hrl) (by simp only [List.map_cons, pureL, pureB, frE, pr, Bool.and_self, Bool.and_true, Bool.true_and]) rfl ?_
      simp only [run0, run1, run2, run3, run4, run5, run6, run7, run8, run9, run10, run11, run12, run13, run14, run15, run16, run17, run18, run19, run20, run21, run22, reduceCtorEq, Nat.reduceEqDiff, Nat.reduceAdd, Nat.reduceSub, Nat.reduceLeDiff, indexAddrA, indexRefA, appendA, strA, Nat.reduceMul, Nat.zero_mul, Nat.reduceMod, Int.reduceEq, Int.reduceLT, Int.reduceLE, Nat.reduceLT, Nat.lt_irrefl, Nat.reduceBEq, tys0, tys1, tys2, tys3, tys4, tys5, tys6, tys7, tys8, tys9, tys10, tys11, tys12, tys13, tys14, tys15, tys16, tys17, tys18, tys19, tys20, tys21, tys22, tys23, Try.ntmps80, Try.results80, swC, frE]
      refine RunL.callp rfl rfl ok_f124 hmm (by simp only [pureL, pureB, prn, Bool.and_self, Bool.and_true, Bool.true_and]) rfl ?_
      simp only [run0, run1, run2, run3, run4, run5, run6, run7, run8, run9, run10, run11, run12, run13, run14, run15, run16, run17, run18, run19, run20, run21, run22, reduceCtorEq, Nat.reduceEqDiff, Nat.reduceAdd, Nat.reduceSub, Nat.reduceLeDiff, indexAddrA, indexRefA, appendA, strA, Nat.reduceMul, Nat.zero_mul, Nat.reduceMod, Int.reduceEq, Int.reduceLT, Int.reduceLE, Nat.reduceLT, Nat.lt_irrefl, Nat.reduceBEq, tys0, tys1, tys2, tys3, tys4, tys5, tys6, tys7, tys8, tys9, tys10, tys11, tys12, tys13, tys14, tys15, tys16, tys17, tys18, tys19, tys20, tys21, tys22, tys23, Try.ntmps80, Try.results80, swC, frE]
      refine RunL.callp rfl rfl ok_f125 (hng) (by first | rfl | simp only [pureL, pureB, Bool.and_self, Bool.and_true, Bool.true_and]) rfl ?_
      simp only [run0, run1, run2, run3, run4, run5, run6, run7, run8, run9, run10, run11, run12, run13, run14, run15, run16, run17, run18, run19, run20, run21, run22, reduceCtorEq, Nat.reduceEqDiff, Nat.reduceAdd, Nat.reduceSub, Nat.reduceLeDiff, indexAddrA, indexRefA, appendA, strA, Nat.reduceMul, Nat.zero_mul, Nat.reduceMod, Int.reduceEq, Int.reduceLT, Int.reduceLE, Nat.reduceLT, Nat.lt_irrefl, Nat.reduceBEq, tys0, tys1, tys2, tys3, tys4, tys5, tys6, tys7, tys8, tys9, tys10, tys11, tys12, tys13, tys14, tys15, tys16, tys17, tys18, tys19, tys20, tys21, tys22, tys23, Try.ntmps80, Try.results80, swC]
      refine RunL.callp rfl rfl ok_f78 (hc2) (by first | rfl | simp only [pureL, pureB, Bool.and_self, Bool.and_true, Bool.true_and]) rfl ?_
      simp only [run0, run1, run2, run3, run4, run5, run6, run7, run8, run9, run10, run11, run12, run13, run14, run15, run16, run17, run18, run19, run20, run21, run22, reduceCtorEq, Nat.reduceEqDiff, Nat.reduceAdd, Nat.reduceSub, Nat.reduceLeDiff, indexAddrA, indexRefA, appendA, strA, Nat.reduceMul, Nat.zero_mul, Nat.reduceMod, Int.reduceEq, Int.reduceLT, Int.reduceLE, Nat.reduceLT, Nat.lt_irrefl, Nat.reduceBEq, tys0, tys1, tys2, tys3, tys4, tys5, tys6, tys7, tys8, tys9, tys10, tys11, tys12, tys13, tys14, tys15, tys16, tys17, tys18, tys19, tys20, tys21, tys22, tys23, Try.ntmps80, Try.results80, swC, e1, List.length_map, Int.natCast_zero, Int.lt_irrefl, hlen, hlenr, u1, d1]
      obtain ⟨hok, hnx⟩ := hI.up hn hU p.X
      have hst := step_ok p.s true hok
      simp only [swV] at hst
      refine RunL.callp rfl rfl ok_f127 (hst) (by first | rfl | simp only [pureL, pureB, Bool.and_self, Bool.and_true, Bool.true_and]) rfl ?_
      simp only [run0, run1, run2, run3, run4, run5, run6, run7, run8, run9, run10, run11, run12, run13, run14, run15, run16, run17, run18, run19, run20, run21, run22, reduceCtorEq, Nat.reduceEqDiff, Nat.reduceAdd, Nat.reduceSub, Nat.reduceLeDiff, indexAddrA, indexRefA, appendA, strA, Nat.reduceMul, Nat.zero_mul, Nat.reduceMod, Int.reduceEq, Int.reduceLT, Int.reduceLE, Nat.reduceLT, Nat.lt_irrefl, Nat.reduceBEq, tys0, tys1, tys2, tys3, tys4, tys5, tys6, tys7, tys8, tys9, tys10, tys11, tys12, tys13, tys14, tys15, tys16, tys17, tys18, tys19, tys20, tys21, tys22, tys23, Try.ntmps80, Try.results80, swC, e5]
      rcases hnx with ⟨g1, g2⟩ | ⟨g1, g2⟩
      · exact ⟨⟨p.n + 1, p.i, swStep p.s true, p.X⟩, .inl ⟨by simp [g1], g2⟩, by simp only; omega, by repeat constructor, rfl⟩
      · exact ⟨⟨p.n + 1, stepP p.i, swStep p.s true, p.X⟩, .inr ⟨g1, g2⟩, by simp only; omega, by repeat constructor, rfl⟩
    · have u1 : (0 ≤ cmpQ (mostF o l) (p.s.an, p.s.ad)) := hge.2 hU
      have d1 : (cmpQ (leastF q r) (p.s.an, p.s.ad) ≤ 0) := hle.2 hD
      simp only [run0, run1, run2, run3, run4, run5, run6, run7, run8, run9, run10, run11, run12, run13, run14, run15, run16, run17, run18, run19, run20, run21, run22, reduceCtorEq, Nat.reduceEqDiff, Nat.reduceAdd, Nat.reduceSub, Nat.reduceLeDiff, indexAddrA, indexRefA, appendA, strA, Nat.reduceMul, Nat.zero_mul, Nat.reduceMod, Int.reduceEq, Int.reduceLT, Int.reduceLE, Nat.reduceLT, Nat.lt_irrefl, Nat.reduceBEq, tys0, tys1, tys2, tys3, tys4, tys5, tys6, tys7, tys8, tys9, tys10, tys11, tys12, tys13, tys14, tys15, tys16, tys17, tys18, tys19, tys20, tys21, tys22, tys23, Try.ntmps80, Try.results80, swC, e1, List.length_map, Int.natCast_zero, Int.lt_irrefl, hlen, hlenr, u1, d1]
      refine ⟨by kernel_rfl, ?_⟩
      refine RunL.callp rfl rfl ok_f124 (shMost_ok o l hll) (by simp only [pureL, pureB, frE, pl, Bool.and_self, Bool.and_true, Bool.true_and]) rfl ?_
      simp only [run0, run1, run2, run3, run4, run5, run6, run7, run8, run9, run10, run11, run12, run13, run14, run15, run16, run17, run18, run19, run20, run21, run22, reduceCtorEq, Nat.reduceEqDiff, Nat.reduceAdd, Nat.reduceSub, Nat.reduceLeDiff, indexAddrA, indexRefA, appendA, strA, Nat.reduceMul, Nat.zero_mul, Nat.reduceMod, Int.reduceEq, Int.reduceLT, Int.reduceLE, Nat.reduceLT, Nat.lt_irrefl, Nat.reduceBEq, tys0, tys1, tys2, tys3, tys4, tys5, tys6, tys7, tys8, tys9, tys10, tys11, tys12, tys13, tys14, tys15, tys16, tys17, tys18, tys19, tys20, tys21, tys22, tys23, Try.ntmps80, Try.results80, swC, frE]
      refine RunL.callp rfl rfl ok_f78 (hc1) (by first | rfl | simp only [pureL, pureB, Bool.and_self, Bool.and_true, Bool.true_and]) rfl ?_
      simp only [run0, run1, run2, run3, run4, run5, run6, run7, run8, run9, run10, run11, run12, run13, run14, run15, run16, run17, run18, run19, run20, run21, run22, reduceCtorEq, Nat.reduceEqDiff, Nat.reduceAdd, Nat.reduceSub, Nat.reduceLeDiff, indexAddrA, indexRefA, appendA, strA, Nat.reduceMul, Nat.zero_mul, Nat.reduceMod, Int.reduceEq, Int.reduceLT, Int.reduceLE, Nat.reduceLT, Nat.lt_irrefl, Nat.reduceBEq, tys0, tys1, tys2, tys3, tys4, tys5, tys6, tys7, tys8, tys9, tys10, tys11, tys12, tys13, tys14, tys15, tys16, tys17, tys18, tys19, tys20, tys21, tys22, tys23, Try.ntmps80, Try.results80, swC, e1, List.length_map, Int.natCast_zero, Int.lt_irrefl, hlen, hlenr, u1, d1]
      refine ⟨by kernel_rfl, ?_⟩
      refine RunL.callp rfl rfl ok_f126 (shNegAll_ok (q :: r) hrl) (by simp only [List.map_cons, pureL, pureB, frE, pr, Bool.and_self, Bool.and_true, Bool.true_and]) rfl ?_
      simp only [run0, run1, run2, run3, run4, run5, run6, run7, run8, run9, run10, run11, run12, run13, run14, run15, run16, run17, run18, run19, run20, run21, run22, reduceCtorEq, Nat.reduceEqDiff, Nat.reduceAdd, Nat.reduceSub, Nat.reduceLeDiff, indexAddrA, indexRefA, appendA, strA, Nat.reduceMul, Nat.zero_mul, Nat.reduceMod, Int.reduceEq, Int.reduceLT, Int.reduceLE, Nat.reduceLT, Nat.lt_irrefl, Nat.reduceBEq, tys0, tys1, tys2, tys3, tys4, tys5, tys6, tys7, tys8, tys9, tys10, tys11, tys12, tys13, tys14, tys15, tys16, tys17, tys18, tys19, tys20, tys21, tys22, tys23, Try.ntmps80, Try.results80, swC, frE]
      refine RunL.callp rfl rfl ok_f124 hmm (by simp only [pureL, pureB, prn, Bool.and_self, Bool.and_true, Bool.true_and]) rfl ?_
      simp only [run0, run1, run2, run3, run4, run5, run6, run7, run8, run9, run10, run11, run12, run13, run14, run15, run16, run17, run18, run19, run20, run21, run22, reduceCtorEq, Nat.reduceEqDiff, Nat.reduceAdd, Nat.reduceSub, Nat.reduceLeDiff, indexAddrA, indexRefA, appendA, strA, Nat.reduceMul, Nat.zero_mul, Nat.reduceMod, Int.reduceEq, Int.reduceLT, Int.reduceLE, Nat.reduceLT, Nat.lt_irrefl, Nat.reduceBEq, tys0, tys1, tys2, tys3, tys4, tys5, tys6, tys7, tys8, tys9, tys10, tys11, tys12, tys13, tys14, tys15, tys16, tys17, tys18, tys19, tys20, tys21, tys22, tys23, Try.ntmps80, Try.results80, swC, frE]
      refine RunL.callp rfl rfl ok_f125 (hng) (by first | rfl | simp only [pureL, pureB, Bool.and_self, Bool.and_true, Bool.true_and]) rfl ?_
      simp only [run0, run1, run2, run3, run4, run5, run6, run7, run8, run9, run10, run11, run12, run13, run14, run15, run16, run17, run18, run19, run20, run21, run22, reduceCtorEq, Nat.reduceEqDiff, Nat.reduceAdd, Nat.reduceSub, Nat.reduceLeDiff, indexAddrA, indexRefA, appendA, strA, Nat.reduceMul, Nat.zero_mul, Nat.reduceMod, Int.reduceEq, Int.reduceLT, Int.reduceLE, Nat.reduceLT, Nat.lt_irrefl, Nat.reduceBEq, tys0, tys1, tys2, tys3, tys4, tys5, tys6, tys7, tys8, tys9, tys10, tys11, tys12, tys13, tys14, tys15, tys16, tys17, tys18, tys19, tys20, tys21, tys22, tys23, Try.ntmps80, Try.results80, swC]
      refine RunL.callp rfl rfl ok_f78 (hc2) (by first | rfl | simp only [pureL, pureB, Bool.and_self, Bool.and_true, Bool.true_and]) rfl ?_
      simp only [run0, run1, run2, run3, run4, run5, run6, run7, run8, run9, run10, run11, run12, run13, run14, run15, run16, run17, run18, run19, run20, run21, run22, reduceCtorEq, Nat.reduceEqDiff, Nat.reduceAdd, Nat.reduceSub, Nat.reduceLeDiff, indexAddrA, indexRefA, appendA, strA, Nat.reduceMul, Nat.zero_mul, Nat.reduceMod, Int.reduceEq, Int.reduceLT, Int.reduceLE, Nat.reduceLT, Nat.lt_irrefl, Nat.reduceBEq, tys0, tys1, tys2, tys3, tys4, tys5, tys6, tys7, tys8, tys9, tys10, tys11, tys12, tys13, tys14, tys15, tys16, tys17, tys18, tys19, tys20, tys21, tys22, tys23, Try.ntmps80, Try.results80, swC, e1, List.length_map, Int.natCast_zero, Int.lt_irrefl, hlen, hlenr, u1, d1]
      exact Fin.eq (by simp [simR, bad_both hl hr hx hU hD, frE]) rfl

theorem shSimplest_ok (l r : List Fr) (hll : l.length ≤ 1048576) (hrl : r.length ≤ 1048576) (hl : ∀ a ∈ l, FB a) (hr : ∀ a ∈ r, FB a) : Ct Try.prog 80 [.sl false (l.map frE), .sl false (r.map frE)] [] (simR l r) [] := by
  cases l with
  | nil => cases r with
    | nil => exact shSimplest_nn hll hrl hl hr
    | cons q r => exact shSimplest_nc q r hll hrl hl hr
  | cons o l => cases r with
    | nil => exact shSimplest_cn o l hll hrl hl hr
    | cons q r => exact shSimplest_cc o l q r hll hrl hl hr

end Go.Proofs.Ytllcljajlemmaaa
/-
  Cuts: which two fractions are next to each other, or the simplest number between: both, and the law.
-/
namespace Go.Proofs.Ytllcljajlemmaaa
open Go K
set_option linter.unusedSimpArgs false
set_option linter.unusedVariables false
set_option maxHeartbeats 1600000
set_option maxRecDepth 8000

/-- How the program compares. -/
def cmpP (p q : Fr) : Int := cmpI (w64 (p.1 * q.2)) (w64 (q.1 * p.2))
theorem cmpPQ {p q : Fr} (hp : goodF p = true) (hq : goodF q = true) : cmpQ p q = cmpP p q := cmp_same hp hq
theorem cmpP_ok (p q : Fr) : Ct Try.prog 82 [fr p.1 p.2, fr q.1 q.2] [] (.int .i64 (cmpP p q)) [] := cmpFr_ok p.1 p.2 q.1 q.2
/-- The first best one's index. -/
def bestI (s : Int) (l : List Fr) : Nat → List Fr → Nat → Nat
  | b, [], _ => b
  | b, a :: r, k => bestI s l (if cmpQ a (l.getD b (0, 1)) = s then k else b) r (k + 1)
theorem bestI_cons (s : Int) (l : List Fr) (a : Fr) (r : List Fr) (b k : Nat) : bestI s l b (a :: r) k = bestI s l (if cmpQ a (l.getD b (0, 1)) = s then k else b) r (k + 1) := rfl
theorem bestI_lt (s : Int) (l : List Fr) : ∀ (r : List Fr) (b k : Nat), b < l.length → k + r.length ≤ l.length → bestI s l b r k < l.length
  | [], b, k, hb, _ => hb
  | a :: r, b, k, hb, hk => by
    simp only [List.length_cons] at hk
    unfold bestI
    exact bestI_lt s l r _ _ (by split <;> omega) (by omega)
theorem goodL_all {l : List Fr} (h : goodL l = true) : l.length ≤ 20 ∧ ∀ a ∈ l, goodF a = true := by
  simp only [goodL, Bool.and_eq_true, decide_eq_true_eq, List.all_eq_true] at h
  exact h
theorem goodL_FB {l : List Fr} (h : goodL l = true) : ∀ a ∈ l, FB a := fun a ha => goodF_FB ((goodL_all h).2 a ha)
theorem frs_at {l : List Fr} {b : Nat} (h : b < l.length) : (l.map frE)[b]? = some (.agg [.int .i64 (l.getD b (0, 1)).1, .int .i64 (l.getD b (0, 1)).2]) := by
  simp [List.getD_eq_getElem?_getD, h, frE]
structure BeS where
  d : List Fr
  r : List Fr
  b : Nat
  X : List AObj
theorem gaBest_ok (s : Int) (l : List Fr) (hl : l.length ≤ 1048576) : Ct Try.prog 77 [.sl false (l.map frE), .int .i64 s] [] (.int .i64 (bestI s l 0 l 0)) [] := by
  refine Ct.by_ hmix [] Try.func77 rfl ?_
  simp only [run0, run1, run2, run3, run4, run5, run6, run7, run8, run9, run10, run11, run12, run13, run14, run15, run16, run17, run18, run19, run20, run21, run22, reduceCtorEq, Nat.reduceEqDiff, Nat.reduceAdd, Nat.reduceSub, Nat.reduceLeDiff, indexAddrA, indexRefA, appendA, strA, Nat.reduceMul, Nat.zero_mul, Nat.reduceMod, Int.reduceEq, Int.reduceLT, Int.reduceLE, Nat.reduceLT, Nat.lt_irrefl, Nat.reduceBEq, tys0, tys1, tys2, tys3, tys4, tys5, tys6, tys7, tys8, tys9, tys10, tys11, tys12, tys13, tys14, tys15, tys16, tys17, tys18, tys19, tys20, tys21, tys22, tys23, Try.ntmps77, Try.results77, List.length_map]
  refine AWp.loop_inv (ι := BeS) (fun q => ⟨[.sl false (l.map frE), .int .i64 s, .junk, .junk, .int .i64 0, .int .i64 q.b, .junk, .junk, .sl false (l.map frE), .int .i64 l.length, .int .i64 q.d.length, .junk, .junk, .junk, .junk, .junk, .junk, .junk, .junk, .junk, .junk, .junk, .junk, .junk, .junk, .junk], q.X⟩)
    (fun q => l = q.d ++ q.r ∧ q.b ≤ q.d.length ∧ bestI s l q.b q.r q.d.length = bestI s l 0 l 0) (fun q => q.r.length) ⟨[], l, 0, []⟩ ⟨rfl, Nat.le_refl _, rfl⟩ ⟨by simp only [List.length_nil, Int.natCast_zero]; repeat constructor, rfl⟩ ?_
  rintro ⟨d, r, b, X⟩ ⟨ha, h2, h3⟩
  refine W.sound hmix (E := []) ?_
  simp only at ha h2 h3
  cases r with
  | nil =>
    have e1 := frs_end ha
    simp only [run0, run1, run2, run3, run4, run5, run6, run7, run8, run9, run10, run11, run12, run13, run14, run15, run16, run17, run18, run19, run20, run21, run22, reduceCtorEq, Nat.reduceEqDiff, Nat.reduceAdd, Nat.reduceSub, Nat.reduceLeDiff, indexAddrA, indexRefA, appendA, strA, Nat.reduceMul, Nat.zero_mul, Nat.reduceMod, Int.reduceEq, Int.reduceLT, Int.reduceLE, Nat.reduceLT, Nat.lt_irrefl, Nat.reduceBEq, tys0, tys1, tys2, tys3, tys4, tys5, tys6, tys7, tys8, tys9, tys10, tys11, tys12, tys13, tys14, tys15, tys16, tys17, tys18, tys19, tys20, tys21, tys22, tys23, Try.ntmps77, Try.results77, List.length_map, e1]
    exact Fin.eq (by rw [← h3]; rfl) rfl
  | cons e r =>
    obtain ⟨e1, e2, e5⟩ := frs_split ha hl
    have hb : b < l.length := by omega
    have e3 := frs_at hb
    have hc := cmpQ_ok e (l.getD b (0, 1))
    simp only [fr] at hc
    have hb2 : (b : Int) < (l.length : Int) := by omega
    simp only [run0, run1, run2, run3, run4, run5, run6, run7, run8, run9, run10, run11, run12, run13, run14, run15, run16, run17, run18, run19, run20, run21, run22, reduceCtorEq, Nat.reduceEqDiff, Nat.reduceAdd, Nat.reduceSub, Nat.reduceLeDiff, indexAddrA, indexRefA, appendA, strA, Nat.reduceMul, Nat.zero_mul, Nat.reduceMod, Int.reduceEq, Int.reduceLT, Int.reduceLE, Nat.reduceLT, Nat.lt_irrefl, Nat.reduceBEq, tys0, tys1, tys2, tys3, tys4, tys5, tys6, tys7, tys8, tys9, tys10, tys11, tys12, tys13, tys14, tys15, tys16, tys17, tys18, tys19, tys20, tys21, tys22, tys23, Try.ntmps77, Try.results77, List.length_map, e1, e2, e3, hb2, Int.toNat_natCast, Int.natCast_nonneg, List.getElem?_append_right, Nat.sub_self]
    refine ⟨by kernel_rfl, ?_⟩
    refine RunL.callp rfl rfl ok_f78 (hc) (by first | rfl | simp only [pureL, pureB, Bool.and_self, Bool.and_true, Bool.true_and]) rfl ?_
    rw [bestI_cons s l e r b d.length] at h3
    by_cases hp : cmpQ e (l.getD b (0, 1)) = s
    · have hp2 : (cmpQ e (l.getD b (0, 1)) == s) = true := beq_iff_eq.2 hp
      rw [if_pos hp] at h3
      simp only [run0, run1, run2, run3, run4, run5, run6, run7, run8, run9, run10, run11, run12, run13, run14, run15, run16, run17, run18, run19, run20, run21, run22, reduceCtorEq, Nat.reduceEqDiff, Nat.reduceAdd, Nat.reduceSub, Nat.reduceLeDiff, indexAddrA, indexRefA, appendA, strA, Nat.reduceMul, Nat.zero_mul, Nat.reduceMod, Int.reduceEq, Int.reduceLT, Int.reduceLE, Nat.reduceLT, Nat.lt_irrefl, Nat.reduceBEq, tys0, tys1, tys2, tys3, tys4, tys5, tys6, tys7, tys8, tys9, tys10, tys11, tys12, tys13, tys14, tys15, tys16, tys17, tys18, tys19, tys20, tys21, tys22, tys23, Try.ntmps77, Try.results77, hp2, e5]
      exact ⟨⟨d ++ [e], r, d.length, _⟩, ⟨by simp [ha], by simp, by simp only [List.length_append, List.length_cons, List.length_nil]; exact h3⟩, by simp, by simp only [List.length_append, List.length_cons, List.length_nil]; repeat constructor, rfl⟩
    · have hp2 : (cmpQ e (l.getD b (0, 1)) == s) = false := beq_eq_false_iff_ne.2 hp
      rw [if_neg hp] at h3
      simp only [run0, run1, run2, run3, run4, run5, run6, run7, run8, run9, run10, run11, run12, run13, run14, run15, run16, run17, run18, run19, run20, run21, run22, reduceCtorEq, Nat.reduceEqDiff, Nat.reduceAdd, Nat.reduceSub, Nat.reduceLeDiff, indexAddrA, indexRefA, appendA, strA, Nat.reduceMul, Nat.zero_mul, Nat.reduceMod, Int.reduceEq, Int.reduceLT, Int.reduceLE, Nat.reduceLT, Nat.lt_irrefl, Nat.reduceBEq, tys0, tys1, tys2, tys3, tys4, tys5, tys6, tys7, tys8, tys9, tys10, tys11, tys12, tys13, tys14, tys15, tys16, tys17, tys18, tys19, tys20, tys21, tys22, tys23, Try.ntmps77, Try.results77, hp2, e5]
      exact ⟨⟨d ++ [e], r, b, _⟩, ⟨by simp [ha], by simp; omega, by simp only [List.length_append, List.length_cons, List.length_nil]; exact h3⟩, by simp, by simp only [List.length_append, List.length_cons, List.length_nil]; repeat constructor, rfl⟩

def cutM (l : List Fr) : Nat := bestI 1 l 0 l 0
def cutL (r : List Fr) : Nat := bestI (-1) r 0 r 0
def overB (l r : List Fr) : Bool := !l.isEmpty && !r.isEmpty && decide (0 ≤ cmpQ (l.getD (cutM l) (0, 1)) (r.getD (cutL r) (0, 1)))
def cutR (l r : List Fr) : AV :=
  if goodL l && goodL r then
    if overB l r then .tup [frE (0, 1), .int .i64 (cutM l), .int .i64 (cutL r), .bool true]
    else if cutBad l r then .tup [frE (0, 0), .int .i64 0, .int .i64 0, .bool false]
    else .tup [frE (frN (cutX l r), frD (cutX l r)), .int .i64 (-1), .int .i64 (-1), .bool true]
  else .tup [frE (0, 0), .int .i64 0, .int .i64 0, .bool false]
theorem whole_ok (n : Int) : Ct Try.prog 83 [.int .i64 n] [] (frE (n, 1)) [] := by
  refine Ct.by_ hmix [] Try.func83 rfl ?_
  simp only [run0, run1, run2, run3, run4, run5, run6, run7, run8, run9, run10, run11, run12, run13, run14, run15, run16, run17, run18, run19, run20, run21, run22, reduceCtorEq, Nat.reduceEqDiff, Nat.reduceAdd, Nat.reduceSub, Nat.reduceLeDiff, indexAddrA, indexRefA, appendA, strA, Nat.reduceMul, Nat.zero_mul, Nat.reduceMod, Int.reduceEq, Int.reduceLT, Int.reduceLE, Nat.reduceLT, Nat.lt_irrefl, Nat.reduceBEq, tys0, tys1, tys2, tys3, tys4, tys5, tys6, tys7, tys8, tys9, tys10, tys11, tys12, tys13, tys14, tys15, tys16, tys17, tys18, tys19, tys20, tys21, tys22, tys23, Try.ntmps83, Try.results83]
  exact Fin.eq rfl rfl
theorem isE_length {l : List Fr} : l.isEmpty = false → (0 : Int) < (l.length : Int) := by
  cases l with
  | nil => simp
  | cons a l => intro _; simp only [List.length_cons]; omega
theorem isE_not {l : List Fr} : l.isEmpty = true → ¬ (0 : Int) < (l.length : Int) := by
  cases l with
  | nil => simp
  | cons a l => simp

theorem specCut_ok (l r : List Fr) (hl : l.length ≤ 1048576) (hr : r.length ≤ 1048576) : Ct Try.prog 32 [.sl false (l.map frE), .sl false (r.map frE)] [] (cutR l r) [] := by
  have pl := frs_pure l
  have pr := frs_pure r
  refine Ct.by_ hmix [] Try.func32 rfl ?_
  simp only [run0, run1, run2, run3, run4, run5, run6, run7, run8, run9, run10, run11, run12, run13, run14, run15, run16, run17, run18, run19, run20, run21, run22, reduceCtorEq, Nat.reduceEqDiff, Nat.reduceAdd, Nat.reduceSub, Nat.reduceLeDiff, indexAddrA, indexRefA, appendA, strA, Nat.reduceMul, Nat.zero_mul, Nat.reduceMod, Int.reduceEq, Int.reduceLT, Int.reduceLE, Nat.reduceLT, Nat.lt_irrefl, Nat.reduceBEq, tys0, tys1, tys2, tys3, tys4, tys5, tys6, tys7, tys8, tys9, tys10, tys11, tys12, tys13, tys14, tys15, tys16, tys17, tys18, tys19, tys20, tys21, tys22, tys23, Try.ntmps32, Try.results32]
  refine RunL.callp rfl rfl ok_f76 (shList_ok l hl) (by simp only [pureL, pureB, pl, Bool.and_self]) rfl ?_
  cases g1 : goodL l
  · simp only [run0, run1, run2, run3, run4, run5, run6, run7, run8, run9, run10, run11, run12, run13, run14, run15, run16, run17, run18, run19, run20, run21, run22, reduceCtorEq, Nat.reduceEqDiff, Nat.reduceAdd, Nat.reduceSub, Nat.reduceLeDiff, indexAddrA, indexRefA, appendA, strA, Nat.reduceMul, Nat.zero_mul, Nat.reduceMod, Int.reduceEq, Int.reduceLT, Int.reduceLE, Nat.reduceLT, Nat.lt_irrefl, Nat.reduceBEq, tys0, tys1, tys2, tys3, tys4, tys5, tys6, tys7, tys8, tys9, tys10, tys11, tys12, tys13, tys14, tys15, tys16, tys17, tys18, tys19, tys20, tys21, tys22, tys23, Try.ntmps32, Try.results32]
    exact Fin.eq (by simp [cutR, g1, frE]) rfl
  simp only [run0, run1, run2, run3, run4, run5, run6, run7, run8, run9, run10, run11, run12, run13, run14, run15, run16, run17, run18, run19, run20, run21, run22, reduceCtorEq, Nat.reduceEqDiff, Nat.reduceAdd, Nat.reduceSub, Nat.reduceLeDiff, indexAddrA, indexRefA, appendA, strA, Nat.reduceMul, Nat.zero_mul, Nat.reduceMod, Int.reduceEq, Int.reduceLT, Int.reduceLE, Nat.reduceLT, Nat.lt_irrefl, Nat.reduceBEq, tys0, tys1, tys2, tys3, tys4, tys5, tys6, tys7, tys8, tys9, tys10, tys11, tys12, tys13, tys14, tys15, tys16, tys17, tys18, tys19, tys20, tys21, tys22, tys23, Try.ntmps32, Try.results32]
  refine RunL.callp rfl rfl ok_f76 (shList_ok r hr) (by simp only [pureL, pureB, pr, Bool.and_self]) rfl ?_
  cases g2 : goodL r
  · simp only [run0, run1, run2, run3, run4, run5, run6, run7, run8, run9, run10, run11, run12, run13, run14, run15, run16, run17, run18, run19, run20, run21, run22, reduceCtorEq, Nat.reduceEqDiff, Nat.reduceAdd, Nat.reduceSub, Nat.reduceLeDiff, indexAddrA, indexRefA, appendA, strA, Nat.reduceMul, Nat.zero_mul, Nat.reduceMod, Int.reduceEq, Int.reduceLT, Int.reduceLE, Nat.reduceLT, Nat.lt_irrefl, Nat.reduceBEq, tys0, tys1, tys2, tys3, tys4, tys5, tys6, tys7, tys8, tys9, tys10, tys11, tys12, tys13, tys14, tys15, tys16, tys17, tys18, tys19, tys20, tys21, tys22, tys23, Try.ntmps32, Try.results32]
    exact Fin.eq (by simp [cutR, g1, g2, frE]) rfl
  have hss := shSimplest_ok l r hl hr (goodL_FB g1) (goodL_FB g2)
  have key : ∀ {P : Prop}, overB l r = false → (simR l r = if cutBad l r then .tup [frE (0, 0), .bool false] else .tup [frE (frN (cutX l r), frD (cutX l r)), .bool true]) := fun _ => by
    unfold simR; cases cutBad l r <;> rfl
  cases m1 : l.isEmpty
  case true =>
    have k1 := isE_not m1
    have ho : overB l r = false := by simp [overB, m1]
    have hk := key (P := True) ho
    simp only [run0, run1, run2, run3, run4, run5, run6, run7, run8, run9, run10, run11, run12, run13, run14, run15, run16, run17, run18, run19, run20, run21, run22, reduceCtorEq, Nat.reduceEqDiff, Nat.reduceAdd, Nat.reduceSub, Nat.reduceLeDiff, indexAddrA, indexRefA, appendA, strA, Nat.reduceMul, Nat.zero_mul, Nat.reduceMod, Int.reduceEq, Int.reduceLT, Int.reduceLE, Nat.reduceLT, Nat.lt_irrefl, Nat.reduceBEq, tys0, tys1, tys2, tys3, tys4, tys5, tys6, tys7, tys8, tys9, tys10, tys11, tys12, tys13, tys14, tys15, tys16, tys17, tys18, tys19, tys20, tys21, tys22, tys23, Try.ntmps32, Try.results32, List.length_map, k1]
    refine RunL.callp rfl rfl ok_f80 hss (by simp only [pureL, pureB, pl, pr, Bool.and_self]) rfl ?_
    rw [hk]
    cases hb : cutBad l r
    · simp only [run0, run1, run2, run3, run4, run5, run6, run7, run8, run9, run10, run11, run12, run13, run14, run15, run16, run17, run18, run19, run20, run21, run22, reduceCtorEq, Nat.reduceEqDiff, Nat.reduceAdd, Nat.reduceSub, Nat.reduceLeDiff, indexAddrA, indexRefA, appendA, strA, Nat.reduceMul, Nat.zero_mul, Nat.reduceMod, Int.reduceEq, Int.reduceLT, Int.reduceLE, Nat.reduceLT, Nat.lt_irrefl, Nat.reduceBEq, tys0, tys1, tys2, tys3, tys4, tys5, tys6, tys7, tys8, tys9, tys10, tys11, tys12, tys13, tys14, tys15, tys16, tys17, tys18, tys19, tys20, tys21, tys22, tys23, Try.ntmps32, Try.results32, frE]
      exact Fin.eq (by simp [cutR, g1, g2, ho, hb, frE]) rfl
    · simp only [run0, run1, run2, run3, run4, run5, run6, run7, run8, run9, run10, run11, run12, run13, run14, run15, run16, run17, run18, run19, run20, run21, run22, reduceCtorEq, Nat.reduceEqDiff, Nat.reduceAdd, Nat.reduceSub, Nat.reduceLeDiff, indexAddrA, indexRefA, appendA, strA, Nat.reduceMul, Nat.zero_mul, Nat.reduceMod, Int.reduceEq, Int.reduceLT, Int.reduceLE, Nat.reduceLT, Nat.lt_irrefl, Nat.reduceBEq, tys0, tys1, tys2, tys3, tys4, tys5, tys6, tys7, tys8, tys9, tys10, tys11, tys12, tys13, tys14, tys15, tys16, tys17, tys18, tys19, tys20, tys21, tys22, tys23, Try.ntmps32, Try.results32, frE]
      exact Fin.eq (by simp [cutR, g1, g2, ho, hb, frE]) rfl
  case false =>
    have k1 := isE_length m1
    cases m2 : r.isEmpty
    case true =>
      have k2 := isE_not m2
      have ho : overB l r = false := by simp [overB, m2]
      have hk := key (P := True) ho
      simp only [run0, run1, run2, run3, run4, run5, run6, run7, run8, run9, run10, run11, run12, run13, run14, run15, run16, run17, run18, run19, run20, run21, run22, reduceCtorEq, Nat.reduceEqDiff, Nat.reduceAdd, Nat.reduceSub, Nat.reduceLeDiff, indexAddrA, indexRefA, appendA, strA, Nat.reduceMul, Nat.zero_mul, Nat.reduceMod, Int.reduceEq, Int.reduceLT, Int.reduceLE, Nat.reduceLT, Nat.lt_irrefl, Nat.reduceBEq, tys0, tys1, tys2, tys3, tys4, tys5, tys6, tys7, tys8, tys9, tys10, tys11, tys12, tys13, tys14, tys15, tys16, tys17, tys18, tys19, tys20, tys21, tys22, tys23, Try.ntmps32, Try.results32, List.length_map, k1, k2]
      refine RunL.callp rfl rfl ok_f80 hss (by simp only [pureL, pureB, pl, pr, Bool.and_self]) rfl ?_
      rw [hk]
      cases hb : cutBad l r
      · simp only [run0, run1, run2, run3, run4, run5, run6, run7, run8, run9, run10, run11, run12, run13, run14, run15, run16, run17, run18, run19, run20, run21, run22, reduceCtorEq, Nat.reduceEqDiff, Nat.reduceAdd, Nat.reduceSub, Nat.reduceLeDiff, indexAddrA, indexRefA, appendA, strA, Nat.reduceMul, Nat.zero_mul, Nat.reduceMod, Int.reduceEq, Int.reduceLT, Int.reduceLE, Nat.reduceLT, Nat.lt_irrefl, Nat.reduceBEq, tys0, tys1, tys2, tys3, tys4, tys5, tys6, tys7, tys8, tys9, tys10, tys11, tys12, tys13, tys14, tys15, tys16, tys17, tys18, tys19, tys20, tys21, tys22, tys23, Try.ntmps32, Try.results32, frE]
        exact Fin.eq (by simp [cutR, g1, g2, ho, hb, frE]) rfl
      · simp only [run0, run1, run2, run3, run4, run5, run6, run7, run8, run9, run10, run11, run12, run13, run14, run15, run16, run17, run18, run19, run20, run21, run22, reduceCtorEq, Nat.reduceEqDiff, Nat.reduceAdd, Nat.reduceSub, Nat.reduceLeDiff, indexAddrA, indexRefA, appendA, strA, Nat.reduceMul, Nat.zero_mul, Nat.reduceMod, Int.reduceEq, Int.reduceLT, Int.reduceLE, Nat.reduceLT, Nat.lt_irrefl, Nat.reduceBEq, tys0, tys1, tys2, tys3, tys4, tys5, tys6, tys7, tys8, tys9, tys10, tys11, tys12, tys13, tys14, tys15, tys16, tys17, tys18, tys19, tys20, tys21, tys22, tys23, Try.ntmps32, Try.results32, frE]
        exact Fin.eq (by simp [cutR, g1, g2, ho, hb, frE]) rfl
    case false =>
      have k2 := isE_length m2
      have b1 : cutM l < l.length := bestI_lt _ _ _ _ _ (by omega) (by omega)
      have b2 : cutL r < r.length := bestI_lt _ _ _ _ _ (by omega) (by omega)
      have c1 := frs_at b1
      have c2 := frs_at b2
      have b3 : (cutM l : Int) < (l.length : Int) := by omega
      have b4 : (cutL r : Int) < (r.length : Int) := by omega
      have hc := cmpQ_ok (l.getD (cutM l) (0, 1)) (r.getD (cutL r) (0, 1))
      simp only [fr] at hc
      have hgm : Ct Try.prog 77 [.sl false (l.map frE), .int .i64 1] [] (.int .i64 (cutM l)) [] := gaBest_ok 1 l hl
      have hgl : Ct Try.prog 77 [.sl false (r.map frE), .int .i64 (-1)] [] (.int .i64 (cutL r)) [] := gaBest_ok (-1) r hr
      simp only [run0, run1, run2, run3, run4, run5, run6, run7, run8, run9, run10, run11, run12, run13, run14, run15, run16, run17, run18, run19, run20, run21, run22, reduceCtorEq, Nat.reduceEqDiff, Nat.reduceAdd, Nat.reduceSub, Nat.reduceLeDiff, indexAddrA, indexRefA, appendA, strA, Nat.reduceMul, Nat.zero_mul, Nat.reduceMod, Int.reduceEq, Int.reduceLT, Int.reduceLE, Nat.reduceLT, Nat.lt_irrefl, Nat.reduceBEq, tys0, tys1, tys2, tys3, tys4, tys5, tys6, tys7, tys8, tys9, tys10, tys11, tys12, tys13, tys14, tys15, tys16, tys17, tys18, tys19, tys20, tys21, tys22, tys23, Try.ntmps32, Try.results32, List.length_map, k1, k2]
      refine RunL.callp rfl rfl ok_f77 hgm (by simp only [pureL, pureB, pl, Bool.and_self]) rfl ?_
      simp only [run0, run1, run2, run3, run4, run5, run6, run7, run8, run9, run10, run11, run12, run13, run14, run15, run16, run17, run18, run19, run20, run21, run22, reduceCtorEq, Nat.reduceEqDiff, Nat.reduceAdd, Nat.reduceSub, Nat.reduceLeDiff, indexAddrA, indexRefA, appendA, strA, Nat.reduceMul, Nat.zero_mul, Nat.reduceMod, Int.reduceEq, Int.reduceLT, Int.reduceLE, Nat.reduceLT, Nat.lt_irrefl, Nat.reduceBEq, tys0, tys1, tys2, tys3, tys4, tys5, tys6, tys7, tys8, tys9, tys10, tys11, tys12, tys13, tys14, tys15, tys16, tys17, tys18, tys19, tys20, tys21, tys22, tys23, Try.ntmps32, Try.results32]
      refine RunL.callp rfl rfl ok_f77 hgl (by simp only [pureL, pureB, pr, Bool.and_self]) rfl ?_
      simp only [run0, run1, run2, run3, run4, run5, run6, run7, run8, run9, run10, run11, run12, run13, run14, run15, run16, run17, run18, run19, run20, run21, run22, reduceCtorEq, Nat.reduceEqDiff, Nat.reduceAdd, Nat.reduceSub, Nat.reduceLeDiff, indexAddrA, indexRefA, appendA, strA, Nat.reduceMul, Nat.zero_mul, Nat.reduceMod, Int.reduceEq, Int.reduceLT, Int.reduceLE, Nat.reduceLT, Nat.lt_irrefl, Nat.reduceBEq, tys0, tys1, tys2, tys3, tys4, tys5, tys6, tys7, tys8, tys9, tys10, tys11, tys12, tys13, tys14, tys15, tys16, tys17, tys18, tys19, tys20, tys21, tys22, tys23, Try.ntmps32, Try.results32, List.length_map, c1, c2, b3, b4, Int.toNat_natCast, Int.natCast_nonneg]
      refine ⟨by kernel_rfl, ?_⟩
      refine RunL.callp rfl rfl ok_f78 (hc) (by first | rfl | simp only [pureL, pureB, Bool.and_self, Bool.and_true, Bool.true_and]) rfl ?_
      by_cases ho : 0 ≤ cmpQ (l.getD (cutM l) (0, 1)) (r.getD (cutL r) (0, 1))
      · have ho2 : overB l r = true := by simp only [overB, m1, m2, ho]; rfl
        simp only [run0, run1, run2, run3, run4, run5, run6, run7, run8, run9, run10, run11, run12, run13, run14, run15, run16, run17, run18, run19, run20, run21, run22, reduceCtorEq, Nat.reduceEqDiff, Nat.reduceAdd, Nat.reduceSub, Nat.reduceLeDiff, indexAddrA, indexRefA, appendA, strA, Nat.reduceMul, Nat.zero_mul, Nat.reduceMod, Int.reduceEq, Int.reduceLT, Int.reduceLE, Nat.reduceLT, Nat.lt_irrefl, Nat.reduceBEq, tys0, tys1, tys2, tys3, tys4, tys5, tys6, tys7, tys8, tys9, tys10, tys11, tys12, tys13, tys14, tys15, tys16, tys17, tys18, tys19, tys20, tys21, tys22, tys23, Try.ntmps32, Try.results32, ho]
        refine RunL.callp rfl rfl ok_f79 (shInt_ok 0) (by first | rfl | simp only [pureL, pureB, Bool.and_self, Bool.and_true, Bool.true_and]) rfl ?_
        simp only [run0, run1, run2, run3, run4, run5, run6, run7, run8, run9, run10, run11, run12, run13, run14, run15, run16, run17, run18, run19, run20, run21, run22, reduceCtorEq, Nat.reduceEqDiff, Nat.reduceAdd, Nat.reduceSub, Nat.reduceLeDiff, indexAddrA, indexRefA, appendA, strA, Nat.reduceMul, Nat.zero_mul, Nat.reduceMod, Int.reduceEq, Int.reduceLT, Int.reduceLE, Nat.reduceLT, Nat.lt_irrefl, Nat.reduceBEq, tys0, tys1, tys2, tys3, tys4, tys5, tys6, tys7, tys8, tys9, tys10, tys11, tys12, tys13, tys14, tys15, tys16, tys17, tys18, tys19, tys20, tys21, tys22, tys23, Try.ntmps32, Try.results32, fr]
        exact Fin.eq (by simp [cutR, g1, g2, ho2, frE]) rfl
      · have ho2 : overB l r = false := by simp only [overB, m1, m2, ho]; rfl
        have hk := key (P := True) ho2
        simp only [run0, run1, run2, run3, run4, run5, run6, run7, run8, run9, run10, run11, run12, run13, run14, run15, run16, run17, run18, run19, run20, run21, run22, reduceCtorEq, Nat.reduceEqDiff, Nat.reduceAdd, Nat.reduceSub, Nat.reduceLeDiff, indexAddrA, indexRefA, appendA, strA, Nat.reduceMul, Nat.zero_mul, Nat.reduceMod, Int.reduceEq, Int.reduceLT, Int.reduceLE, Nat.reduceLT, Nat.lt_irrefl, Nat.reduceBEq, tys0, tys1, tys2, tys3, tys4, tys5, tys6, tys7, tys8, tys9, tys10, tys11, tys12, tys13, tys14, tys15, tys16, tys17, tys18, tys19, tys20, tys21, tys22, tys23, Try.ntmps32, Try.results32, ho]
        refine RunL.callp rfl rfl ok_f80 hss (by simp only [pureL, pureB, pl, pr, Bool.and_self]) rfl ?_
        rw [hk]
        cases hb : cutBad l r
        · simp only [run0, run1, run2, run3, run4, run5, run6, run7, run8, run9, run10, run11, run12, run13, run14, run15, run16, run17, run18, run19, run20, run21, run22, reduceCtorEq, Nat.reduceEqDiff, Nat.reduceAdd, Nat.reduceSub, Nat.reduceLeDiff, indexAddrA, indexRefA, appendA, strA, Nat.reduceMul, Nat.zero_mul, Nat.reduceMod, Int.reduceEq, Int.reduceLT, Int.reduceLE, Nat.reduceLT, Nat.lt_irrefl, Nat.reduceBEq, tys0, tys1, tys2, tys3, tys4, tys5, tys6, tys7, tys8, tys9, tys10, tys11, tys12, tys13, tys14, tys15, tys16, tys17, tys18, tys19, tys20, tys21, tys22, tys23, Try.ntmps32, Try.results32, frE]
          exact Fin.eq (by simp [cutR, g1, g2, ho2, hb, frE]) rfl
        · simp only [run0, run1, run2, run3, run4, run5, run6, run7, run8, run9, run10, run11, run12, run13, run14, run15, run16, run17, run18, run19, run20, run21, run22, reduceCtorEq, Nat.reduceEqDiff, Nat.reduceAdd, Nat.reduceSub, Nat.reduceLeDiff, indexAddrA, indexRefA, appendA, strA, Nat.reduceMul, Nat.zero_mul, Nat.reduceMod, Int.reduceEq, Int.reduceLT, Int.reduceLE, Nat.reduceLT, Nat.lt_irrefl, Nat.reduceBEq, tys0, tys1, tys2, tys3, tys4, tys5, tys6, tys7, tys8, tys9, tys10, tys11, tys12, tys13, tys14, tys15, tys16, tys17, tys18, tys19, tys20, tys21, tys22, tys23, Try.ntmps32, Try.results32, frE]
          exact Fin.eq (by simp [cutR, g1, g2, ho2, hb, frE]) rfl

/-! ### the program -/
theorem cmpQ_one {p q : Fr} : cmpQ p q = 1 ↔ 0 < cmpQ p q := by rcases cmpQ_val p q with h | h | h <;> omega
theorem cmpQ_minus {p q : Fr} : cmpQ p q = -1 ↔ cmpQ p q < 0 := by rcases cmpQ_val p q with h | h | h <;> omega
theorem goodF_at {l : List Fr} {b : Nat} (h : goodL l = true) (hb : b < l.length) : goodF (l.getD b (0, 1)) = true := by
  rw [List.getD_eq_getElem?_getD, List.getElem?_eq_getElem hb]
  exact (goodL_all h).2 _ (List.getElem_mem hb)

theorem implCut_ok (l r : List Fr) (hl : l.length ≤ 1048576) (hr : r.length ≤ 1048576) : Ct Try.prog 34 [.sl false (l.map frE), .sl false (r.map frE)] [] (cutR l r) [] := by
  have pl := frs_pure l
  have pr := frs_pure r
  refine Ct.by_ hmix [] Try.func34 rfl ?_
  simp only [run0, run1, run2, run3, run4, run5, run6, run7, run8, run9, run10, run11, run12, run13, run14, run15, run16, run17, run18, run19, run20, run21, run22, reduceCtorEq, Nat.reduceEqDiff, Nat.reduceAdd, Nat.reduceSub, Nat.reduceLeDiff, indexAddrA, indexRefA, appendA, strA, Nat.reduceMul, Nat.zero_mul, Nat.reduceMod, Int.reduceEq, Int.reduceLT, Int.reduceLE, Nat.reduceLT, Nat.lt_irrefl, Nat.reduceBEq, tys0, tys1, tys2, tys3, tys4, tys5, tys6, tys7, tys8, tys9, tys10, tys11, tys12, tys13, tys14, tys15, tys16, tys17, tys18, tys19, tys20, tys21, tys22, tys23, Try.ntmps34, Try.results34]
  refine RunL.callp rfl rfl ok_f81 (fractionsOk_ok l hl) (by simp only [pureL, pureB, pl, Bool.and_self]) rfl ?_
  cases g1 : goodL l
  · simp only [run0, run1, run2, run3, run4, run5, run6, run7, run8, run9, run10, run11, run12, run13, run14, run15, run16, run17, run18, run19, run20, run21, run22, reduceCtorEq, Nat.reduceEqDiff, Nat.reduceAdd, Nat.reduceSub, Nat.reduceLeDiff, indexAddrA, indexRefA, appendA, strA, Nat.reduceMul, Nat.zero_mul, Nat.reduceMod, Int.reduceEq, Int.reduceLT, Int.reduceLE, Nat.reduceLT, Nat.lt_irrefl, Nat.reduceBEq, tys0, tys1, tys2, tys3, tys4, tys5, tys6, tys7, tys8, tys9, tys10, tys11, tys12, tys13, tys14, tys15, tys16, tys17, tys18, tys19, tys20, tys21, tys22, tys23, Try.ntmps34, Try.results34]
    exact Fin.eq (by simp [cutR, g1, frE]) rfl
  simp only [run0, run1, run2, run3, run4, run5, run6, run7, run8, run9, run10, run11, run12, run13, run14, run15, run16, run17, run18, run19, run20, run21, run22, reduceCtorEq, Nat.reduceEqDiff, Nat.reduceAdd, Nat.reduceSub, Nat.reduceLeDiff, indexAddrA, indexRefA, appendA, strA, Nat.reduceMul, Nat.zero_mul, Nat.reduceMod, Int.reduceEq, Int.reduceLT, Int.reduceLE, Nat.reduceLT, Nat.lt_irrefl, Nat.reduceBEq, tys0, tys1, tys2, tys3, tys4, tys5, tys6, tys7, tys8, tys9, tys10, tys11, tys12, tys13, tys14, tys15, tys16, tys17, tys18, tys19, tys20, tys21, tys22, tys23, Try.ntmps34, Try.results34]
  refine RunL.callp rfl rfl ok_f81 (fractionsOk_ok r hr) (by simp only [pureL, pureB, pr, Bool.and_self]) rfl ?_
  cases g2 : goodL r
  · simp only [run0, run1, run2, run3, run4, run5, run6, run7, run8, run9, run10, run11, run12, run13, run14, run15, run16, run17, run18, run19, run20, run21, run22, reduceCtorEq, Nat.reduceEqDiff, Nat.reduceAdd, Nat.reduceSub, Nat.reduceLeDiff, indexAddrA, indexRefA, appendA, strA, Nat.reduceMul, Nat.zero_mul, Nat.reduceMod, Int.reduceEq, Int.reduceLT, Int.reduceLE, Nat.reduceLT, Nat.lt_irrefl, Nat.reduceBEq, tys0, tys1, tys2, tys3, tys4, tys5, tys6, tys7, tys8, tys9, tys10, tys11, tys12, tys13, tys14, tys15, tys16, tys17, tys18, tys19, tys20, tys21, tys22, tys23, Try.ntmps34, Try.results34]
    exact Fin.eq (by simp [cutR, g1, g2, frE]) rfl
  simp only [run0, run1, run2, run3, run4, run5, run6, run7, run8, run9, run10, run11, run12, run13, run14, run15, run16, run17, run18, run19, run20, run21, run22, reduceCtorEq, Nat.reduceEqDiff, Nat.reduceAdd, Nat.reduceSub, Nat.reduceLeDiff, indexAddrA, indexRefA, appendA, strA, Nat.reduceMul, Nat.zero_mul, Nat.reduceMod, Int.reduceEq, Int.reduceLT, Int.reduceLE, Nat.reduceLT, Nat.lt_irrefl, Nat.reduceBEq, tys0, tys1, tys2, tys3, tys4, tys5, tys6, tys7, tys8, tys9, tys10, tys11, tys12, tys13, tys14, tys15, tys16, tys17, tys18, tys19, tys20, tys21, tys22, tys23, Try.ntmps34, Try.results34, List.length_map]
  refine AWp.loop_inv (ι := BeS) (fun q => ⟨[.sl false (l.map frE), .sl false (r.map frE), .junk, .junk, .ptr 0 0, .int .i64 0, .int .i64 0, .bool false, .int .i64 q.b, .int .i64 0, .junk, .junk, .junk, .junk, .junk, .junk, .junk, .junk, .junk, .junk, .junk, .junk, .junk, .junk, .junk, .sl false (l.map frE), .int .i64 l.length, .int .i64 q.d.length, .junk, .junk, .junk, .junk, .junk, .junk, .junk, .junk, .junk, .junk, .junk, .junk, .junk, .junk, .junk, .junk, .junk, .junk, .junk, .junk, .junk, .junk, .junk, .junk, .junk, .junk, .junk, .junk, .junk, .junk, .junk, .junk, .junk, .junk, .junk, .junk, .junk, .junk, .junk, .junk, .junk, .junk, .junk, .junk, .junk, .junk, .junk, .junk, .junk, .junk, .junk, .junk, .junk, .junk, .junk, .junk, .junk, .junk, .junk, .junk, .junk, .junk], .box 42 [.int .i64 0, .int .i64 0] :: q.X⟩)
    (fun q => l = q.d ++ q.r ∧ q.b ≤ q.d.length ∧ bestI 1 l q.b q.r q.d.length = bestI 1 l 0 l 0) (fun q => q.r.length) ⟨[], l, 0, []⟩ ⟨rfl, Nat.le_refl _, rfl⟩ ⟨by simp only [List.length_nil, Int.natCast_zero]; repeat constructor, rfl⟩ ?_
  rintro ⟨d, q, b, X⟩ ⟨ha, h2, h3⟩
  refine W.sound hmix (E := []) ?_
  simp only at ha h2 h3
  cases q with
  | cons e q =>
    obtain ⟨e1, e2, e5⟩ := frs_split ha hl
    have hb : b < l.length := by omega
    have e3 := frs_at hb
    have hc := cmpP_ok e (l.getD b (0, 1))
    rw [← cmpPQ ((goodL_all g1).2 e (by rw [ha]; simp)) (goodF_at g1 hb)] at hc
    simp only [fr] at hc
    have hb2 : (b : Int) < (l.length : Int) := by omega
    simp only [run0, run1, run2, run3, run4, run5, run6, run7, run8, run9, run10, run11, run12, run13, run14, run15, run16, run17, run18, run19, run20, run21, run22, reduceCtorEq, Nat.reduceEqDiff, Nat.reduceAdd, Nat.reduceSub, Nat.reduceLeDiff, indexAddrA, indexRefA, appendA, strA, Nat.reduceMul, Nat.zero_mul, Nat.reduceMod, Int.reduceEq, Int.reduceLT, Int.reduceLE, Nat.reduceLT, Nat.lt_irrefl, Nat.reduceBEq, tys0, tys1, tys2, tys3, tys4, tys5, tys6, tys7, tys8, tys9, tys10, tys11, tys12, tys13, tys14, tys15, tys16, tys17, tys18, tys19, tys20, tys21, tys22, tys23, Try.ntmps34, Try.results34, List.length_map, e1, e2, e3, hb2, Int.toNat_natCast, Int.natCast_nonneg, List.getElem?_append_right, Nat.sub_self]
    refine ⟨by kernel_rfl, ?_⟩
    refine RunL.callp rfl rfl ok_f82 (hc) (by first | rfl | simp only [pureL, pureB, Bool.and_self, Bool.and_true, Bool.true_and]) rfl ?_
    rw [bestI_cons 1 l e q b d.length] at h3
    by_cases hp : 0 < cmpQ e (l.getD b (0, 1))
    · rw [if_pos (cmpQ_one.2 hp)] at h3
      simp only [run0, run1, run2, run3, run4, run5, run6, run7, run8, run9, run10, run11, run12, run13, run14, run15, run16, run17, run18, run19, run20, run21, run22, reduceCtorEq, Nat.reduceEqDiff, Nat.reduceAdd, Nat.reduceSub, Nat.reduceLeDiff, indexAddrA, indexRefA, appendA, strA, Nat.reduceMul, Nat.zero_mul, Nat.reduceMod, Int.reduceEq, Int.reduceLT, Int.reduceLE, Nat.reduceLT, Nat.lt_irrefl, Nat.reduceBEq, tys0, tys1, tys2, tys3, tys4, tys5, tys6, tys7, tys8, tys9, tys10, tys11, tys12, tys13, tys14, tys15, tys16, tys17, tys18, tys19, tys20, tys21, tys22, tys23, Try.ntmps34, Try.results34, hp, e5]
      exact ⟨⟨d ++ [e], q, d.length, _⟩, ⟨by simp [ha], by simp, by simp only [List.length_append, List.length_cons, List.length_nil]; exact h3⟩, by simp, by simp only [List.length_append, List.length_cons, List.length_nil]; repeat constructor, rfl⟩
    · rw [if_neg (fun e => hp (cmpQ_one.1 e))] at h3
      simp only [run0, run1, run2, run3, run4, run5, run6, run7, run8, run9, run10, run11, run12, run13, run14, run15, run16, run17, run18, run19, run20, run21, run22, reduceCtorEq, Nat.reduceEqDiff, Nat.reduceAdd, Nat.reduceSub, Nat.reduceLeDiff, indexAddrA, indexRefA, appendA, strA, Nat.reduceMul, Nat.zero_mul, Nat.reduceMod, Int.reduceEq, Int.reduceLT, Int.reduceLE, Nat.reduceLT, Nat.lt_irrefl, Nat.reduceBEq, tys0, tys1, tys2, tys3, tys4, tys5, tys6, tys7, tys8, tys9, tys10, tys11, tys12, tys13, tys14, tys15, tys16, tys17, tys18, tys19, tys20, tys21, tys22, tys23, Try.ntmps34, Try.results34, hp, e5]
      exact ⟨⟨d ++ [e], q, b, _⟩, ⟨by simp [ha], by simp; omega, by simp only [List.length_append, List.length_cons, List.length_nil]; exact h3⟩, by simp, by simp only [List.length_append, List.length_cons, List.length_nil]; repeat constructor, rfl⟩
  | nil =>
  have e1 := frs_end ha
  have hbm : b = cutM l := h3
  clear h2 h3 ha
  subst hbm
  simp only [run0, run1, run2, run3, run4, run5, run6, run7, run8, run9, run10, run11, run12, run13, run14, run15, run16, run17, run18, run19, run20, run21, run22, reduceCtorEq, Nat.reduceEqDiff, Nat.reduceAdd, Nat.reduceSub, Nat.reduceLeDiff, indexAddrA, indexRefA, appendA, strA, Nat.reduceMul, Nat.zero_mul, Nat.reduceMod, Int.reduceEq, Int.reduceLT, Int.reduceLE, Nat.reduceLT, Nat.lt_irrefl, Nat.reduceBEq, tys0, tys1, tys2, tys3, tys4, tys5, tys6, tys7, tys8, tys9, tys10, tys11, tys12, tys13, tys14, tys15, tys16, tys17, tys18, tys19, tys20, tys21, tys22, tys23, Try.ntmps34, Try.results34, List.length_map, e1]
  refine AWp.loop_inv (ι := BeS) (fun q => ⟨[.sl false (l.map frE), .sl false (r.map frE), .junk, .junk, .ptr 0 0, .int .i64 0, .int .i64 0, .bool false, .int .i64 (cutM l), .int .i64 q.b, .junk, .junk, .junk, .junk, .junk, .junk, .junk, .junk, .junk, .junk, .junk, .junk, .junk, .junk, .junk, .junk, .junk, .junk, .junk, .junk, .junk, .junk, .junk, .junk, .junk, .junk, .junk, .junk, .junk, .junk, .junk, .sl false (r.map frE), .int .i64 r.length, .int .i64 q.d.length, .junk, .junk, .junk, .junk, .junk, .junk, .junk, .junk, .junk, .junk, .junk, .junk, .junk, .junk, .junk, .junk, .junk, .junk, .junk, .junk, .junk, .junk, .junk, .junk, .junk, .junk, .junk, .junk, .junk, .junk, .junk, .junk, .junk, .junk, .junk, .junk, .junk, .junk, .junk, .junk, .junk, .junk, .junk, .junk, .junk, .junk], .box 42 [.int .i64 0, .int .i64 0] :: q.X⟩)
    (fun q => r = q.d ++ q.r ∧ q.b ≤ q.d.length ∧ bestI (-1) r q.b q.r q.d.length = bestI (-1) r 0 r 0) (fun q => q.r.length) ⟨[], r, 0, X⟩ ⟨rfl, Nat.le_refl _, rfl⟩ ⟨by simp only [List.length_nil, Int.natCast_zero]; repeat constructor, rfl⟩ ?_
  rintro ⟨d, q, b, X⟩ ⟨ha, h2, h3⟩
  refine W.sound hmix (E := []) ?_
  simp only at ha h2 h3
  cases q with
  | cons e q =>
    obtain ⟨e1, e2, e5⟩ := frs_split ha hr
    have hb : b < r.length := by omega
    have e3 := frs_at hb
    have hc := cmpP_ok e (r.getD b (0, 1))
    rw [← cmpPQ ((goodL_all g2).2 e (by rw [ha]; simp)) (goodF_at g2 hb)] at hc
    simp only [fr] at hc
    have hb2 : (b : Int) < (r.length : Int) := by omega
    simp only [run0, run1, run2, run3, run4, run5, run6, run7, run8, run9, run10, run11, run12, run13, run14, run15, run16, run17, run18, run19, run20, run21, run22, reduceCtorEq, Nat.reduceEqDiff, Nat.reduceAdd, Nat.reduceSub, Nat.reduceLeDiff, indexAddrA, indexRefA, appendA, strA, Nat.reduceMul, Nat.zero_mul, Nat.reduceMod, Int.reduceEq, Int.reduceLT, Int.reduceLE, Nat.reduceLT, Nat.lt_irrefl, Nat.reduceBEq, tys0, tys1, tys2, tys3, tys4, tys5, tys6, tys7, tys8, tys9, tys10, tys11, tys12, tys13, tys14, tys15, tys16, tys17, tys18, tys19, tys20, tys21, tys22, tys23, Try.ntmps34, Try.results34, List.length_map, e1, e2, e3, hb2, Int.toNat_natCast, Int.natCast_nonneg, List.getElem?_append_right, Nat.sub_self]
    refine ⟨by kernel_rfl, ?_⟩
    refine RunL.callp rfl rfl ok_f82 (hc) (by first | rfl | simp only [pureL, pureB, Bool.and_self, Bool.and_true, Bool.true_and]) rfl ?_
    rw [bestI_cons (-1) r e q b d.length] at h3
    by_cases hp : cmpQ e (r.getD b (0, 1)) < 0
    · rw [if_pos (cmpQ_minus.2 hp)] at h3
      simp only [run0, run1, run2, run3, run4, run5, run6, run7, run8, run9, run10, run11, run12, run13, run14, run15, run16, run17, run18, run19, run20, run21, run22, reduceCtorEq, Nat.reduceEqDiff, Nat.reduceAdd, Nat.reduceSub, Nat.reduceLeDiff, indexAddrA, indexRefA, appendA, strA, Nat.reduceMul, Nat.zero_mul, Nat.reduceMod, Int.reduceEq, Int.reduceLT, Int.reduceLE, Nat.reduceLT, Nat.lt_irrefl, Nat.reduceBEq, tys0, tys1, tys2, tys3, tys4, tys5, tys6, tys7, tys8, tys9, tys10, tys11, tys12, tys13, tys14, tys15, tys16, tys17, tys18, tys19, tys20, tys21, tys22, tys23, Try.ntmps34, Try.results34, hp, e5]
      exact ⟨⟨d ++ [e], q, d.length, _⟩, ⟨by simp [ha], by simp, by simp only [List.length_append, List.length_cons, List.length_nil]; exact h3⟩, by simp, by simp only [List.length_append, List.length_cons, List.length_nil]; repeat constructor, rfl⟩
    · rw [if_neg (fun e => hp (cmpQ_minus.1 e))] at h3
      simp only [run0, run1, run2, run3, run4, run5, run6, run7, run8, run9, run10, run11, run12, run13, run14, run15, run16, run17, run18, run19, run20, run21, run22, reduceCtorEq, Nat.reduceEqDiff, Nat.reduceAdd, Nat.reduceSub, Nat.reduceLeDiff, indexAddrA, indexRefA, appendA, strA, Nat.reduceMul, Nat.zero_mul, Nat.reduceMod, Int.reduceEq, Int.reduceLT, Int.reduceLE, Nat.reduceLT, Nat.lt_irrefl, Nat.reduceBEq, tys0, tys1, tys2, tys3, tys4, tys5, tys6, tys7, tys8, tys9, tys10, tys11, tys12, tys13, tys14, tys15, tys16, tys17, tys18, tys19, tys20, tys21, tys22, tys23, Try.ntmps34, Try.results34, hp, e5]
      exact ⟨⟨d ++ [e], q, b, _⟩, ⟨by simp [ha], by simp; omega, by simp only [List.length_append, List.length_cons, List.length_nil]; exact h3⟩, by simp, by simp only [List.length_append, List.length_cons, List.length_nil]; repeat constructor, rfl⟩
  | nil =>
  have e1 := frs_end ha
  have hbm : b = cutL r := h3
  clear h2 h3 ha
  subst hbm
  have hss := simplest_ok l r hl hr
  have hk : simR l r = if cutBad l r then .tup [frE (0, 0), .bool false] else .tup [frE (frN (cutX l r), frD (cutX l r)), .bool true] := by
    unfold simR; cases cutBad l r <;> rfl
  cases m1 : l.isEmpty
  case true =>
    have k1 := isE_not m1
    have ho : overB l r = false := by simp [overB, m1]
    simp only [run0, run1, run2, run3, run4, run5, run6, run7, run8, run9, run10, run11, run12, run13, run14, run15, run16, run17, run18, run19, run20, run21, run22, reduceCtorEq, Nat.reduceEqDiff, Nat.reduceAdd, Nat.reduceSub, Nat.reduceLeDiff, indexAddrA, indexRefA, appendA, strA, Nat.reduceMul, Nat.zero_mul, Nat.reduceMod, Int.reduceEq, Int.reduceLT, Int.reduceLE, Nat.reduceLT, Nat.lt_irrefl, Nat.reduceBEq, tys0, tys1, tys2, tys3, tys4, tys5, tys6, tys7, tys8, tys9, tys10, tys11, tys12, tys13, tys14, tys15, tys16, tys17, tys18, tys19, tys20, tys21, tys22, tys23, Try.ntmps34, Try.results34, List.length_map, e1, k1]
    refine ⟨by kernel_rfl, ?_⟩
    refine RunL.callp rfl rfl ok_f84 hss (by simp only [pureL, pureB, pl, pr, Bool.and_self]) rfl ?_
    rw [hk]
    cases hb : cutBad l r
    · simp only [run0, run1, run2, run3, run4, run5, run6, run7, run8, run9, run10, run11, run12, run13, run14, run15, run16, run17, run18, run19, run20, run21, run22, reduceCtorEq, Nat.reduceEqDiff, Nat.reduceAdd, Nat.reduceSub, Nat.reduceLeDiff, indexAddrA, indexRefA, appendA, strA, Nat.reduceMul, Nat.zero_mul, Nat.reduceMod, Int.reduceEq, Int.reduceLT, Int.reduceLE, Nat.reduceLT, Nat.lt_irrefl, Nat.reduceBEq, tys0, tys1, tys2, tys3, tys4, tys5, tys6, tys7, tys8, tys9, tys10, tys11, tys12, tys13, tys14, tys15, tys16, tys17, tys18, tys19, tys20, tys21, tys22, tys23, Try.ntmps34, Try.results34, frE, List.getElem?_append_right, Nat.sub_self]
      exact Fin.eq (by simp [cutR, g1, g2, ho, hb, frE]) rfl
    · simp only [run0, run1, run2, run3, run4, run5, run6, run7, run8, run9, run10, run11, run12, run13, run14, run15, run16, run17, run18, run19, run20, run21, run22, reduceCtorEq, Nat.reduceEqDiff, Nat.reduceAdd, Nat.reduceSub, Nat.reduceLeDiff, indexAddrA, indexRefA, appendA, strA, Nat.reduceMul, Nat.zero_mul, Nat.reduceMod, Int.reduceEq, Int.reduceLT, Int.reduceLE, Nat.reduceLT, Nat.lt_irrefl, Nat.reduceBEq, tys0, tys1, tys2, tys3, tys4, tys5, tys6, tys7, tys8, tys9, tys10, tys11, tys12, tys13, tys14, tys15, tys16, tys17, tys18, tys19, tys20, tys21, tys22, tys23, Try.ntmps34, Try.results34, frE, List.getElem?_append_right, Nat.sub_self]
      exact Fin.eq (by simp [cutR, g1, g2, ho, hb, frE]) rfl
  case false =>
    have k1 := isE_length m1
    cases m2 : r.isEmpty
    case true =>
      have k2 := isE_not m2
      have ho : overB l r = false := by simp [overB, m2]
      simp only [run0, run1, run2, run3, run4, run5, run6, run7, run8, run9, run10, run11, run12, run13, run14, run15, run16, run17, run18, run19, run20, run21, run22, reduceCtorEq, Nat.reduceEqDiff, Nat.reduceAdd, Nat.reduceSub, Nat.reduceLeDiff, indexAddrA, indexRefA, appendA, strA, Nat.reduceMul, Nat.zero_mul, Nat.reduceMod, Int.reduceEq, Int.reduceLT, Int.reduceLE, Nat.reduceLT, Nat.lt_irrefl, Nat.reduceBEq, tys0, tys1, tys2, tys3, tys4, tys5, tys6, tys7, tys8, tys9, tys10, tys11, tys12, tys13, tys14, tys15, tys16, tys17, tys18, tys19, tys20, tys21, tys22, tys23, Try.ntmps34, Try.results34, List.length_map, e1, k1, k2]
      refine ⟨by kernel_rfl, ?_⟩
      refine RunL.callp rfl rfl ok_f84 hss (by simp only [pureL, pureB, pl, pr, Bool.and_self]) rfl ?_
      rw [hk]
      cases hb : cutBad l r
      · simp only [run0, run1, run2, run3, run4, run5, run6, run7, run8, run9, run10, run11, run12, run13, run14, run15, run16, run17, run18, run19, run20, run21, run22, reduceCtorEq, Nat.reduceEqDiff, Nat.reduceAdd, Nat.reduceSub, Nat.reduceLeDiff, indexAddrA, indexRefA, appendA, strA, Nat.reduceMul, Nat.zero_mul, Nat.reduceMod, Int.reduceEq, Int.reduceLT, Int.reduceLE, Nat.reduceLT, Nat.lt_irrefl, Nat.reduceBEq, tys0, tys1, tys2, tys3, tys4, tys5, tys6, tys7, tys8, tys9, tys10, tys11, tys12, tys13, tys14, tys15, tys16, tys17, tys18, tys19, tys20, tys21, tys22, tys23, Try.ntmps34, Try.results34, frE, List.getElem?_append_right, Nat.sub_self]
        exact Fin.eq (by simp [cutR, g1, g2, ho, hb, frE]) rfl
      · simp only [run0, run1, run2, run3, run4, run5, run6, run7, run8, run9, run10, run11, run12, run13, run14, run15, run16, run17, run18, run19, run20, run21, run22, reduceCtorEq, Nat.reduceEqDiff, Nat.reduceAdd, Nat.reduceSub, Nat.reduceLeDiff, indexAddrA, indexRefA, appendA, strA, Nat.reduceMul, Nat.zero_mul, Nat.reduceMod, Int.reduceEq, Int.reduceLT, Int.reduceLE, Nat.reduceLT, Nat.lt_irrefl, Nat.reduceBEq, tys0, tys1, tys2, tys3, tys4, tys5, tys6, tys7, tys8, tys9, tys10, tys11, tys12, tys13, tys14, tys15, tys16, tys17, tys18, tys19, tys20, tys21, tys22, tys23, Try.ntmps34, Try.results34, frE, List.getElem?_append_right, Nat.sub_self]
        exact Fin.eq (by simp [cutR, g1, g2, ho, hb, frE]) rfl
    case false =>
      have k2 := isE_length m2
      have b1 : cutM l < l.length := bestI_lt _ _ _ _ _ (by omega) (by omega)
      have b2 : cutL r < r.length := bestI_lt _ _ _ _ _ (by omega) (by omega)
      have c1 := frs_at b1
      have c2 := frs_at b2
      have b3 : (cutM l : Int) < (l.length : Int) := by omega
      have b4 : (cutL r : Int) < (r.length : Int) := by omega
      have hc := cmpP_ok (l.getD (cutM l) (0, 1)) (r.getD (cutL r) (0, 1))
      rw [← cmpPQ (goodF_at g1 b1) (goodF_at g2 b2)] at hc
      simp only [fr] at hc
      simp only [run0, run1, run2, run3, run4, run5, run6, run7, run8, run9, run10, run11, run12, run13, run14, run15, run16, run17, run18, run19, run20, run21, run22, reduceCtorEq, Nat.reduceEqDiff, Nat.reduceAdd, Nat.reduceSub, Nat.reduceLeDiff, indexAddrA, indexRefA, appendA, strA, Nat.reduceMul, Nat.zero_mul, Nat.reduceMod, Int.reduceEq, Int.reduceLT, Int.reduceLE, Nat.reduceLT, Nat.lt_irrefl, Nat.reduceBEq, tys0, tys1, tys2, tys3, tys4, tys5, tys6, tys7, tys8, tys9, tys10, tys11, tys12, tys13, tys14, tys15, tys16, tys17, tys18, tys19, tys20, tys21, tys22, tys23, Try.ntmps34, Try.results34, List.length_map, e1, k1, k2, c1, c2, b3, b4, Int.toNat_natCast, Int.natCast_nonneg]
      refine ⟨by kernel_rfl, ?_⟩
      refine RunL.callp rfl rfl ok_f82 (hc) (by first | rfl | simp only [pureL, pureB, Bool.and_self, Bool.and_true, Bool.true_and]) rfl ?_
      by_cases ho : 0 ≤ cmpQ (l.getD (cutM l) (0, 1)) (r.getD (cutL r) (0, 1))
      · have ho2 : overB l r = true := by simp only [overB, m1, m2, ho]; rfl
        simp only [run0, run1, run2, run3, run4, run5, run6, run7, run8, run9, run10, run11, run12, run13, run14, run15, run16, run17, run18, run19, run20, run21, run22, reduceCtorEq, Nat.reduceEqDiff, Nat.reduceAdd, Nat.reduceSub, Nat.reduceLeDiff, indexAddrA, indexRefA, appendA, strA, Nat.reduceMul, Nat.zero_mul, Nat.reduceMod, Int.reduceEq, Int.reduceLT, Int.reduceLE, Nat.reduceLT, Nat.lt_irrefl, Nat.reduceBEq, tys0, tys1, tys2, tys3, tys4, tys5, tys6, tys7, tys8, tys9, tys10, tys11, tys12, tys13, tys14, tys15, tys16, tys17, tys18, tys19, tys20, tys21, tys22, tys23, Try.ntmps34, Try.results34, ho]
        refine RunL.callp rfl rfl ok_f83 (whole_ok 0) (by first | rfl | simp only [pureL, pureB, Bool.and_self, Bool.and_true, Bool.true_and]) rfl ?_
        simp only [run0, run1, run2, run3, run4, run5, run6, run7, run8, run9, run10, run11, run12, run13, run14, run15, run16, run17, run18, run19, run20, run21, run22, reduceCtorEq, Nat.reduceEqDiff, Nat.reduceAdd, Nat.reduceSub, Nat.reduceLeDiff, indexAddrA, indexRefA, appendA, strA, Nat.reduceMul, Nat.zero_mul, Nat.reduceMod, Int.reduceEq, Int.reduceLT, Int.reduceLE, Nat.reduceLT, Nat.lt_irrefl, Nat.reduceBEq, tys0, tys1, tys2, tys3, tys4, tys5, tys6, tys7, tys8, tys9, tys10, tys11, tys12, tys13, tys14, tys15, tys16, tys17, tys18, tys19, tys20, tys21, tys22, tys23, Try.ntmps34, Try.results34, frE]
        exact Fin.eq (by simp [cutR, g1, g2, ho2, frE]) rfl
      · have ho2 : overB l r = false := by simp only [overB, m1, m2, ho]; rfl
        simp only [run0, run1, run2, run3, run4, run5, run6, run7, run8, run9, run10, run11, run12, run13, run14, run15, run16, run17, run18, run19, run20, run21, run22, reduceCtorEq, Nat.reduceEqDiff, Nat.reduceAdd, Nat.reduceSub, Nat.reduceLeDiff, indexAddrA, indexRefA, appendA, strA, Nat.reduceMul, Nat.zero_mul, Nat.reduceMod, Int.reduceEq, Int.reduceLT, Int.reduceLE, Nat.reduceLT, Nat.lt_irrefl, Nat.reduceBEq, tys0, tys1, tys2, tys3, tys4, tys5, tys6, tys7, tys8, tys9, tys10, tys11, tys12, tys13, tys14, tys15, tys16, tys17, tys18, tys19, tys20, tys21, tys22, tys23, Try.ntmps34, Try.results34, ho]
        refine RunL.callp rfl rfl ok_f84 hss (by simp only [pureL, pureB, pl, pr, Bool.and_self]) rfl ?_
        rw [hk]
        cases hb : cutBad l r
        · simp only [run0, run1, run2, run3, run4, run5, run6, run7, run8, run9, run10, run11, run12, run13, run14, run15, run16, run17, run18, run19, run20, run21, run22, reduceCtorEq, Nat.reduceEqDiff, Nat.reduceAdd, Nat.reduceSub, Nat.reduceLeDiff, indexAddrA, indexRefA, appendA, strA, Nat.reduceMul, Nat.zero_mul, Nat.reduceMod, Int.reduceEq, Int.reduceLT, Int.reduceLE, Nat.reduceLT, Nat.lt_irrefl, Nat.reduceBEq, tys0, tys1, tys2, tys3, tys4, tys5, tys6, tys7, tys8, tys9, tys10, tys11, tys12, tys13, tys14, tys15, tys16, tys17, tys18, tys19, tys20, tys21, tys22, tys23, Try.ntmps34, Try.results34, frE, List.getElem?_append_right, Nat.sub_self]
          exact Fin.eq (by simp [cutR, g1, g2, ho2, hb, frE]) rfl
        · simp only [run0, run1, run2, run3, run4, run5, run6, run7, run8, run9, run10, run11, run12, run13, run14, run15, run16, run17, run18, run19, run20, run21, run22, reduceCtorEq, Nat.reduceEqDiff, Nat.reduceAdd, Nat.reduceSub, Nat.reduceLeDiff, indexAddrA, indexRefA, appendA, strA, Nat.reduceMul, Nat.zero_mul, Nat.reduceMod, Int.reduceEq, Int.reduceLT, Int.reduceLE, Nat.reduceLT, Nat.lt_irrefl, Nat.reduceBEq, tys0, tys1, tys2, tys3, tys4, tys5, tys6, tys7, tys8, tys9, tys10, tys11, tys12, tys13, tys14, tys15, tys16, tys17, tys18, tys19, tys20, tys21, tys22, tys23, Try.ntmps34, Try.results34, frE, List.getElem?_append_right, Nat.sub_self]
          exact Fin.eq (by simp [cutR, g1, g2, ho2, hb, frE]) rfl

end Go.Proofs.Ytllcljajlemmaaa
/-
  Cuts: lists of fractions that come in, their copies; the law.
-/
namespace Go.Proofs.Ytllcljajlemmaaa
open Go K
set_option linter.unusedSimpArgs false
set_option linter.unusedVariables false
set_option maxHeartbeats 1600000
set_option maxRecDepth 8000

theorem frs_in : ∀ es : List AV, (∀ x ∈ es, IsOf Try.prog 40 x) → ∃ l : List Fr, es = l.map frE
  | [], _ => ⟨[], rfl⟩
  | x :: es, hes => by
    obtain ⟨l, rfl⟩ := frs_in es fun y hy => hes y (List.mem_cons_of_mem _ hy)
    obtain ⟨n, d, rfl, _, _⟩ := laws_isFr (hes x (List.mem_cons_self ..))
    exact ⟨(n, d) :: l, rfl⟩
theorem laws_isFrS {x : AV} (h : IsOf Try.prog 46 x) : ∃ l : List Fr, x = .sl false (l.map frE) ∧ l.length ≤ 9223372036854775807 := by
  obtain ⟨n, h0⟩ := h.one ty_a46
  obtain ⟨es, e0, hel, hes⟩ := h0.slice Try.underlying46
  simp only [List.cons.injEq, and_true] at e0
  subst e0
  obtain ⟨l, rfl⟩ := frs_in es hes
  rw [mx_len] at hel
  exact ⟨l, rfl, by simpa using hel⟩
theorem szFractionS_ok (l : List Fr) (k : Int) (hl : l.length ≤ 9223372036854775807) (h0 : 0 ≤ k) (h1 : k ≤ 1048576) : Ct Try.prog 31 [.sl false (l.map frE), .int .i64 k] [] (.int .i64 (szN l.length k)) [] := by
  have hw : IntKind.i64.wrap (k - (l.length : Int)) = k - l.length := i64_id (by omega) (by omega)
  refine Ct.by_ hmix [] Try.func31 rfl ?_
  simp only [run0, run1, run2, run3, run4, run5, run6, run7, run8, run9, run10, run11, run12, run13, run14, run15, run16, run17, run18, run19, run20, run21, run22, reduceCtorEq, Nat.reduceEqDiff, Nat.reduceAdd, Nat.reduceSub, Nat.reduceLeDiff, indexAddrA, indexRefA, appendA, strA, Nat.reduceMul, Nat.zero_mul, Nat.reduceMod, Int.reduceEq, Int.reduceLT, Int.reduceLE, Nat.reduceLT, Nat.lt_irrefl, Nat.reduceBEq, tys0, tys1, tys2, tys3, tys4, tys5, tys6, tys7, tys8, tys9, tys10, tys11, tys12, tys13, tys14, tys15, tys16, tys17, tys18, tys19, tys20, tys21, tys22, tys23, Try.ntmps31, Try.results31, hw, List.length_map]
  by_cases h2 : k - (l.length : Int) < 0
  · simp only [run0, run1, run2, run3, run4, run5, run6, run7, run8, run9, run10, run11, run12, run13, run14, run15, run16, run17, run18, run19, run20, run21, run22, reduceCtorEq, Nat.reduceEqDiff, Nat.reduceAdd, Nat.reduceSub, Nat.reduceLeDiff, indexAddrA, indexRefA, appendA, strA, Nat.reduceMul, Nat.zero_mul, Nat.reduceMod, Int.reduceEq, Int.reduceLT, Int.reduceLE, Nat.reduceLT, Nat.lt_irrefl, Nat.reduceBEq, tys0, tys1, tys2, tys3, tys4, tys5, tys6, tys7, tys8, tys9, tys10, tys11, tys12, tys13, tys14, tys15, tys16, tys17, tys18, tys19, tys20, tys21, tys22, tys23, Try.ntmps31, Try.results31, h2]
    exact Fin.eq (by simp [szN, h2]) rfl
  · simp only [run0, run1, run2, run3, run4, run5, run6, run7, run8, run9, run10, run11, run12, run13, run14, run15, run16, run17, run18, run19, run20, run21, run22, reduceCtorEq, Nat.reduceEqDiff, Nat.reduceAdd, Nat.reduceSub, Nat.reduceLeDiff, indexAddrA, indexRefA, appendA, strA, Nat.reduceMul, Nat.zero_mul, Nat.reduceMod, Int.reduceEq, Int.reduceLT, Int.reduceLE, Nat.reduceLT, Nat.lt_irrefl, Nat.reduceBEq, tys0, tys1, tys2, tys3, tys4, tys5, tys6, tys7, tys8, tys9, tys10, tys11, tys12, tys13, tys14, tys15, tys16, tys17, tys18, tys19, tys20, tys21, tys22, tys23, Try.ntmps31, Try.results31, h2]
    exact Fin.eq (by simp [szN, h2]) rfl
abbrev frsZ (d : List Fr) (n : Nat) : List AV := d.map frE ++ List.replicate n (frE (0, 0))
theorem frsZ_noOwn (d : List Fr) (n : Nat) : noOwn (frsZ d n) = true := by
  refine List.all_eq_true.2 fun e he => ?_
  rcases List.mem_append.1 he with he | he
  · exact List.all_eq_true.1 (frs_noOwn d) e he
  · rw [(List.mem_replicate.1 he).2]; rfl
theorem toFractionS_ok (l : List Fr) (hl : l.length ≤ 1048576) : Ct Try.prog 33 [.sl false (l.map frE)] [] (.sl false (l.map frE)) [] := by
  have b0 : (l.length : Int) ≤ 137438953472 := by omega
  have b1 : (l.length : Int) ≤ 17592186044416 := by omega
  have b2 : (l.length : Int) ≤ 8796093022208 := by omega
  refine Ct.by_ hmix [] Try.func33 rfl ?_
  simp only [run0, run1, run2, run3, run4, run5, run6, run7, run8, run9, run10, run11, run12, run13, run14, run15, run16, run17, run18, run19, run20, run21, run22, reduceCtorEq, Nat.reduceEqDiff, Nat.reduceAdd, Nat.reduceSub, Nat.reduceLeDiff, indexAddrA, indexRefA, appendA, strA, Nat.reduceMul, Nat.zero_mul, Nat.reduceMod, Int.reduceEq, Int.reduceLT, Int.reduceLE, Nat.reduceLT, Nat.lt_irrefl, Nat.reduceBEq, tys0, tys1, tys2, tys3, tys4, tys5, tys6, tys7, tys8, tys9, tys10, tys11, tys12, tys13, tys14, tys15, tys16, tys17, tys18, tys19, tys20, tys21, tys22, tys23, Try.ntmps33, Try.results33, b0, b1, b2, List.length_map, Int.natCast_nonneg, Int.le_refl, Int.toNat_natCast]
  refine AWp.loop_inv (ι := List Fr × List Fr) (fun p => ⟨[.sl false (l.map frE), .junk, .junk, .ref 0 [] 0 l.length, .int .i64 p.1.length, .junk, .junk, .junk, .junk, .junk, .junk, .junk, .junk, .junk, .junk, .junk, .junk, .junk, .junk, .junk, .junk, .junk, .junk], [.vec 42 2 0 (frsZ p.1 p.2.length)]⟩)
    (fun p => l = p.1 ++ p.2) (fun p => p.2.length) ([], l) rfl ⟨by simp only [List.length_nil, Int.natCast_zero]; repeat constructor, rfl⟩ ?_
  rintro ⟨d, r⟩ ha
  refine W.sound hmix (E := []) ?_
  simp only at ha
  cases r with
  | nil =>
    have e1 := frs_end ha
    simp only [run0, run1, run2, run3, run4, run5, run6, run7, run8, run9, run10, run11, run12, run13, run14, run15, run16, run17, run18, run19, run20, run21, run22, reduceCtorEq, Nat.reduceEqDiff, Nat.reduceAdd, Nat.reduceSub, Nat.reduceLeDiff, indexAddrA, indexRefA, appendA, strA, Nat.reduceMul, Nat.zero_mul, Nat.reduceMod, Int.reduceEq, Int.reduceLT, Int.reduceLE, Nat.reduceLT, Nat.lt_irrefl, Nat.reduceBEq, tys0, tys1, tys2, tys3, tys4, tys5, tys6, tys7, tys8, tys9, tys10, tys11, tys12, tys13, tys14, tys15, tys16, tys17, tys18, tys19, tys20, tys21, tys22, tys23, Try.ntmps33, Try.results33, e1, List.length_map]
    have hd : d = l := by rw [ha, List.append_nil]
    subst hd
    exact Fin.value (Vw_frs rfl (by simp) rfl)
  | cons e r =>
    obtain ⟨e1, e2, e5⟩ := frs_split ha hl
    have e6 : (frsZ d (r.length + 1))[d.length]? = some (frE (0, 0)) := by simp [frsZ, List.replicate_succ]
    have e7 : noOwn (frsZ d (r.length + 1)) = true := frsZ_noOwn d (r.length + 1)
    have e8 : (frsZ d (r.length + 1)).set d.length (.agg [.int .i64 e.1, .int .i64 e.2]) = frsZ (d ++ [e]) r.length := by
      unfold frsZ
      rw [List.set_append_right _ _ (by simp)]; simp [List.replicate_succ, frE]
    have hc := toFraction_ok e.1 e.2
    simp only [fr] at hc
    have e9 : (frE (0, 0)).cells = [.int .i64 0, .int .i64 0] := rfl
    have e10 : aggB (frE (0, 0)) = true := rfl
    have e11 : setE (frE (0, 0)) 0 2 (.agg [.int .i64 e.1, .int .i64 e.2]) = .agg [.int .i64 e.1, .int .i64 e.2] := rfl
    simp only [run0, run1, run2, run3, run4, run5, run6, run7, run8, run9, run10, run11, run12, run13, run14, run15, run16, run17, run18, run19, run20, run21, run22, reduceCtorEq, Nat.reduceEqDiff, Nat.reduceAdd, Nat.reduceSub, Nat.reduceLeDiff, indexAddrA, indexRefA, appendA, strA, Nat.reduceMul, Nat.zero_mul, Nat.reduceMod, Int.reduceEq, Int.reduceLT, Int.reduceLE, Nat.reduceLT, Nat.lt_irrefl, Nat.reduceBEq, tys0, tys1, tys2, tys3, tys4, tys5, tys6, tys7, tys8, tys9, tys10, tys11, tys12, tys13, tys14, tys15, tys16, tys17, tys18, tys19, tys20, tys21, tys22, tys23, Try.ntmps33, Try.results33, List.length_map, e1, e2, Int.toNat_natCast, Int.natCast_nonneg]
    refine RunL.callp rfl rfl ok_f27 (hc) (by first | rfl | simp only [pureL, pureB, Bool.and_self, Bool.and_true, Bool.true_and]) rfl ?_
    simp only [run0, run1, run2, run3, run4, run5, run6, run7, run8, run9, run10, run11, run12, run13, run14, run15, run16, run17, run18, run19, run20, run21, run22, reduceCtorEq, Nat.reduceEqDiff, Nat.reduceAdd, Nat.reduceSub, Nat.reduceLeDiff, indexAddrA, indexRefA, appendA, strA, Nat.reduceMul, Nat.zero_mul, Nat.reduceMod, Int.reduceEq, Int.reduceLT, Int.reduceLE, Nat.reduceLT, Nat.lt_irrefl, Nat.reduceBEq, tys0, tys1, tys2, tys3, tys4, tys5, tys6, tys7, tys8, tys9, tys10, tys11, tys12, tys13, tys14, tys15, tys16, tys17, tys18, tys19, tys20, tys21, tys22, tys23, Try.ntmps33, Try.results33, List.length_map, e1, e5, e6, e7, e8, e9, e10, e11, Int.toNat_natCast, Int.natCast_nonneg]
    exact ⟨(d ++ [e], r), by simp [ha], by simp, by simp only [List.length_append, List.length_cons, List.length_nil]; repeat constructor, rfl⟩

theorem cutR_form (l r : List Fr) : ∃ (a b i k : Int) (o : Bool), cutR l r = .tup [.agg [.int .i64 a, .int .i64 b], .int .i64 i, .int .i64 k, .bool o] := by
  unfold cutR
  split
  · split
    · exact ⟨_, _, _, _, _, rfl⟩
    · split <;> exact ⟨_, _, _, _, _, rfl⟩
  · exact ⟨_, _, _, _, _, rfl⟩
theorem FnExactCutOf_ok {a0 a1 : AV} (h0 : IsOf Try.prog 46 a0) (h1 : IsOf Try.prog 46 a1) : Ct Try.prog 9 [a0, a1] [] (.bool true) [] := by
  obtain ⟨l, rfl, hl⟩ := laws_isFrS h0
  obtain ⟨r, rfl, hr⟩ := laws_isFrS h1
  have pl := frs_pure l
  have pr := frs_pure r
  refine Ct.by_ hmix [] Try.func9 rfl ?_
  simp only [run0, run1, run2, run3, run4, run5, run6, run7, run8, run9, run10, run11, run12, run13, run14, run15, run16, run17, run18, run19, run20, run21, run22, reduceCtorEq, Nat.reduceEqDiff, Nat.reduceAdd, Nat.reduceSub, Nat.reduceLeDiff, indexAddrA, indexRefA, appendA, strA, Nat.reduceMul, Nat.zero_mul, Nat.reduceMod, Int.reduceEq, Int.reduceLT, Int.reduceLE, Nat.reduceLT, Nat.lt_irrefl, Nat.reduceBEq, tys0, tys1, tys2, tys3, tys4, tys5, tys6, tys7, tys8, tys9, tys10, tys11, tys12, tys13, tys14, tys15, tys16, tys17, tys18, tys19, tys20, tys21, tys22, tys23, Try.ntmps9, Try.results9]
  refine RunL.callp rfl rfl ok_f31 (szFractionS_ok l 1048576 hl (by omega) (by omega)) (by simp only [pureL, pureB, pl, Bool.and_self]) rfl ?_
  rcases szN_spec l.length 1048576 with ⟨g1, g2⟩ | ⟨g1, g2⟩
  case inr =>
    have e1 : szN l.length 1048576 < 0 := by omega
    simp only [run0, run1, run2, run3, run4, run5, run6, run7, run8, run9, run10, run11, run12, run13, run14, run15, run16, run17, run18, run19, run20, run21, run22, reduceCtorEq, Nat.reduceEqDiff, Nat.reduceAdd, Nat.reduceSub, Nat.reduceLeDiff, indexAddrA, indexRefA, appendA, strA, Nat.reduceMul, Nat.zero_mul, Nat.reduceMod, Int.reduceEq, Int.reduceLT, Int.reduceLE, Nat.reduceLT, Nat.lt_irrefl, Nat.reduceBEq, tys0, tys1, tys2, tys3, tys4, tys5, tys6, tys7, tys8, tys9, tys10, tys11, tys12, tys13, tys14, tys15, tys16, tys17, tys18, tys19, tys20, tys21, tys22, tys23, Try.ntmps9, Try.results9, e1]
    exact Fin.eq rfl rfl
  have e1 : ¬ szN l.length 1048576 < 0 := by omega
  simp only [run0, run1, run2, run3, run4, run5, run6, run7, run8, run9, run10, run11, run12, run13, run14, run15, run16, run17, run18, run19, run20, run21, run22, reduceCtorEq, Nat.reduceEqDiff, Nat.reduceAdd, Nat.reduceSub, Nat.reduceLeDiff, indexAddrA, indexRefA, appendA, strA, Nat.reduceMul, Nat.zero_mul, Nat.reduceMod, Int.reduceEq, Int.reduceLT, Int.reduceLE, Nat.reduceLT, Nat.lt_irrefl, Nat.reduceBEq, tys0, tys1, tys2, tys3, tys4, tys5, tys6, tys7, tys8, tys9, tys10, tys11, tys12, tys13, tys14, tys15, tys16, tys17, tys18, tys19, tys20, tys21, tys22, tys23, Try.ntmps9, Try.results9, e1]
  refine RunL.callp rfl rfl ok_f31 (szFractionS_ok r (szN l.length 1048576) hr (by omega) (by omega)) (by simp only [pureL, pureB, pr, Bool.and_self]) rfl ?_
  rcases szN_spec r.length (szN l.length 1048576) with ⟨k1, k2⟩ | ⟨k1, k2⟩
  case inr =>
    have e2 : szN r.length (szN l.length 1048576) < 0 := by omega
    simp only [run0, run1, run2, run3, run4, run5, run6, run7, run8, run9, run10, run11, run12, run13, run14, run15, run16, run17, run18, run19, run20, run21, run22, reduceCtorEq, Nat.reduceEqDiff, Nat.reduceAdd, Nat.reduceSub, Nat.reduceLeDiff, indexAddrA, indexRefA, appendA, strA, Nat.reduceMul, Nat.zero_mul, Nat.reduceMod, Int.reduceEq, Int.reduceLT, Int.reduceLE, Nat.reduceLT, Nat.lt_irrefl, Nat.reduceBEq, tys0, tys1, tys2, tys3, tys4, tys5, tys6, tys7, tys8, tys9, tys10, tys11, tys12, tys13, tys14, tys15, tys16, tys17, tys18, tys19, tys20, tys21, tys22, tys23, Try.ntmps9, Try.results9, e2]
    exact Fin.eq rfl rfl
  have e2 : ¬ szN r.length (szN l.length 1048576) < 0 := by omega
  have lP : l.length ≤ 1048576 := by omega
  have lQ : r.length ≤ 1048576 := by omega
  have hs := specCut_ok l r lP lQ
  have hi := implCut_ok l r lP lQ
  obtain ⟨a, b, i, k, o, hR⟩ := cutR_form l r
  rw [hR] at hs hi
  have he := eqFraction_ok a b
  simp only [fr] at he
  simp only [run0, run1, run2, run3, run4, run5, run6, run7, run8, run9, run10, run11, run12, run13, run14, run15, run16, run17, run18, run19, run20, run21, run22, reduceCtorEq, Nat.reduceEqDiff, Nat.reduceAdd, Nat.reduceSub, Nat.reduceLeDiff, indexAddrA, indexRefA, appendA, strA, Nat.reduceMul, Nat.zero_mul, Nat.reduceMod, Int.reduceEq, Int.reduceLT, Int.reduceLE, Nat.reduceLT, Nat.lt_irrefl, Nat.reduceBEq, tys0, tys1, tys2, tys3, tys4, tys5, tys6, tys7, tys8, tys9, tys10, tys11, tys12, tys13, tys14, tys15, tys16, tys17, tys18, tys19, tys20, tys21, tys22, tys23, Try.ntmps9, Try.results9, e2]
  refine RunL.callp rfl rfl ok_f33 (toFractionS_ok l lP) (by simp only [pureL, pureB, pl, Bool.and_self]) rfl ?_
  simp only [run0, run1, run2, run3, run4, run5, run6, run7, run8, run9, run10, run11, run12, run13, run14, run15, run16, run17, run18, run19, run20, run21, run22, reduceCtorEq, Nat.reduceEqDiff, Nat.reduceAdd, Nat.reduceSub, Nat.reduceLeDiff, indexAddrA, indexRefA, appendA, strA, Nat.reduceMul, Nat.zero_mul, Nat.reduceMod, Int.reduceEq, Int.reduceLT, Int.reduceLE, Nat.reduceLT, Nat.lt_irrefl, Nat.reduceBEq, tys0, tys1, tys2, tys3, tys4, tys5, tys6, tys7, tys8, tys9, tys10, tys11, tys12, tys13, tys14, tys15, tys16, tys17, tys18, tys19, tys20, tys21, tys22, tys23, Try.ntmps9, Try.results9]
  refine RunL.callp rfl rfl ok_f33 (toFractionS_ok r lQ) (by simp only [pureL, pureB, pr, Bool.and_self]) rfl ?_
  simp only [run0, run1, run2, run3, run4, run5, run6, run7, run8, run9, run10, run11, run12, run13, run14, run15, run16, run17, run18, run19, run20, run21, run22, reduceCtorEq, Nat.reduceEqDiff, Nat.reduceAdd, Nat.reduceSub, Nat.reduceLeDiff, indexAddrA, indexRefA, appendA, strA, Nat.reduceMul, Nat.zero_mul, Nat.reduceMod, Int.reduceEq, Int.reduceLT, Int.reduceLE, Nat.reduceLT, Nat.lt_irrefl, Nat.reduceBEq, tys0, tys1, tys2, tys3, tys4, tys5, tys6, tys7, tys8, tys9, tys10, tys11, tys12, tys13, tys14, tys15, tys16, tys17, tys18, tys19, tys20, tys21, tys22, tys23, Try.ntmps9, Try.results9]
  refine RunL.callp rfl rfl ok_f32 hs (by simp only [pureL, pureB, pl, pr, Bool.and_self]) rfl ?_
  simp only [run0, run1, run2, run3, run4, run5, run6, run7, run8, run9, run10, run11, run12, run13, run14, run15, run16, run17, run18, run19, run20, run21, run22, reduceCtorEq, Nat.reduceEqDiff, Nat.reduceAdd, Nat.reduceSub, Nat.reduceLeDiff, indexAddrA, indexRefA, appendA, strA, Nat.reduceMul, Nat.zero_mul, Nat.reduceMod, Int.reduceEq, Int.reduceLT, Int.reduceLE, Nat.reduceLT, Nat.lt_irrefl, Nat.reduceBEq, tys0, tys1, tys2, tys3, tys4, tys5, tys6, tys7, tys8, tys9, tys10, tys11, tys12, tys13, tys14, tys15, tys16, tys17, tys18, tys19, tys20, tys21, tys22, tys23, Try.ntmps9, Try.results9]
  refine RunL.callp rfl rfl ok_f33 (toFractionS_ok l lP) (by simp only [pureL, pureB, pl, Bool.and_self]) rfl ?_
  simp only [run0, run1, run2, run3, run4, run5, run6, run7, run8, run9, run10, run11, run12, run13, run14, run15, run16, run17, run18, run19, run20, run21, run22, reduceCtorEq, Nat.reduceEqDiff, Nat.reduceAdd, Nat.reduceSub, Nat.reduceLeDiff, indexAddrA, indexRefA, appendA, strA, Nat.reduceMul, Nat.zero_mul, Nat.reduceMod, Int.reduceEq, Int.reduceLT, Int.reduceLE, Nat.reduceLT, Nat.lt_irrefl, Nat.reduceBEq, tys0, tys1, tys2, tys3, tys4, tys5, tys6, tys7, tys8, tys9, tys10, tys11, tys12, tys13, tys14, tys15, tys16, tys17, tys18, tys19, tys20, tys21, tys22, tys23, Try.ntmps9, Try.results9]
  refine RunL.callp rfl rfl ok_f33 (toFractionS_ok r lQ) (by simp only [pureL, pureB, pr, Bool.and_self]) rfl ?_
  simp only [run0, run1, run2, run3, run4, run5, run6, run7, run8, run9, run10, run11, run12, run13, run14, run15, run16, run17, run18, run19, run20, run21, run22, reduceCtorEq, Nat.reduceEqDiff, Nat.reduceAdd, Nat.reduceSub, Nat.reduceLeDiff, indexAddrA, indexRefA, appendA, strA, Nat.reduceMul, Nat.zero_mul, Nat.reduceMod, Int.reduceEq, Int.reduceLT, Int.reduceLE, Nat.reduceLT, Nat.lt_irrefl, Nat.reduceBEq, tys0, tys1, tys2, tys3, tys4, tys5, tys6, tys7, tys8, tys9, tys10, tys11, tys12, tys13, tys14, tys15, tys16, tys17, tys18, tys19, tys20, tys21, tys22, tys23, Try.ntmps9, Try.results9]
  refine RunL.callp rfl rfl ok_f34 hi (by simp only [pureL, pureB, pl, pr, Bool.and_self]) rfl ?_
  simp only [run0, run1, run2, run3, run4, run5, run6, run7, run8, run9, run10, run11, run12, run13, run14, run15, run16, run17, run18, run19, run20, run21, run22, reduceCtorEq, Nat.reduceEqDiff, Nat.reduceAdd, Nat.reduceSub, Nat.reduceLeDiff, indexAddrA, indexRefA, appendA, strA, Nat.reduceMul, Nat.zero_mul, Nat.reduceMod, Int.reduceEq, Int.reduceLT, Int.reduceLE, Nat.reduceLT, Nat.lt_irrefl, Nat.reduceBEq, tys0, tys1, tys2, tys3, tys4, tys5, tys6, tys7, tys8, tys9, tys10, tys11, tys12, tys13, tys14, tys15, tys16, tys17, tys18, tys19, tys20, tys21, tys22, tys23, Try.ntmps9, Try.results9]
  refine RunL.callp rfl rfl ok_f35 (he) (by first | rfl | simp only [pureL, pureB, Bool.and_self, Bool.and_true, Bool.true_and]) rfl ?_
  simp only [run0, run1, run2, run3, run4, run5, run6, run7, run8, run9, run10, run11, run12, run13, run14, run15, run16, run17, run18, run19, run20, run21, run22, reduceCtorEq, Nat.reduceEqDiff, Nat.reduceAdd, Nat.reduceSub, Nat.reduceLeDiff, indexAddrA, indexRefA, appendA, strA, Nat.reduceMul, Nat.zero_mul, Nat.reduceMod, Int.reduceEq, Int.reduceLT, Int.reduceLE, Nat.reduceLT, Nat.lt_irrefl, Nat.reduceBEq, tys0, tys1, tys2, tys3, tys4, tys5, tys6, tys7, tys8, tys9, tys10, tys11, tys12, tys13, tys14, tys15, tys16, tys17, tys18, tys19, tys20, tys21, tys22, tys23, Try.ntmps9, Try.results9, bne_self_eq_false]
  refine RunL.callp rfl rfl ok_f33 (toFractionS_ok l lP) (by simp only [pureL, pureB, pl, Bool.and_self]) rfl ?_
  simp only [run0, run1, run2, run3, run4, run5, run6, run7, run8, run9, run10, run11, run12, run13, run14, run15, run16, run17, run18, run19, run20, run21, run22, reduceCtorEq, Nat.reduceEqDiff, Nat.reduceAdd, Nat.reduceSub, Nat.reduceLeDiff, indexAddrA, indexRefA, appendA, strA, Nat.reduceMul, Nat.zero_mul, Nat.reduceMod, Int.reduceEq, Int.reduceLT, Int.reduceLE, Nat.reduceLT, Nat.lt_irrefl, Nat.reduceBEq, tys0, tys1, tys2, tys3, tys4, tys5, tys6, tys7, tys8, tys9, tys10, tys11, tys12, tys13, tys14, tys15, tys16, tys17, tys18, tys19, tys20, tys21, tys22, tys23, Try.ntmps9, Try.results9]
  refine RunL.callp rfl rfl ok_f36 (eqFractionS_ok l lP) (by simp only [pureL, pureB, pl, Bool.and_self]) rfl ?_
  simp only [run0, run1, run2, run3, run4, run5, run6, run7, run8, run9, run10, run11, run12, run13, run14, run15, run16, run17, run18, run19, run20, run21, run22, reduceCtorEq, Nat.reduceEqDiff, Nat.reduceAdd, Nat.reduceSub, Nat.reduceLeDiff, indexAddrA, indexRefA, appendA, strA, Nat.reduceMul, Nat.zero_mul, Nat.reduceMod, Int.reduceEq, Int.reduceLT, Int.reduceLE, Nat.reduceLT, Nat.lt_irrefl, Nat.reduceBEq, tys0, tys1, tys2, tys3, tys4, tys5, tys6, tys7, tys8, tys9, tys10, tys11, tys12, tys13, tys14, tys15, tys16, tys17, tys18, tys19, tys20, tys21, tys22, tys23, Try.ntmps9, Try.results9]
  refine RunL.callp rfl rfl ok_f33 (toFractionS_ok r lQ) (by simp only [pureL, pureB, pr, Bool.and_self]) rfl ?_
  simp only [run0, run1, run2, run3, run4, run5, run6, run7, run8, run9, run10, run11, run12, run13, run14, run15, run16, run17, run18, run19, run20, run21, run22, reduceCtorEq, Nat.reduceEqDiff, Nat.reduceAdd, Nat.reduceSub, Nat.reduceLeDiff, indexAddrA, indexRefA, appendA, strA, Nat.reduceMul, Nat.zero_mul, Nat.reduceMod, Int.reduceEq, Int.reduceLT, Int.reduceLE, Nat.reduceLT, Nat.lt_irrefl, Nat.reduceBEq, tys0, tys1, tys2, tys3, tys4, tys5, tys6, tys7, tys8, tys9, tys10, tys11, tys12, tys13, tys14, tys15, tys16, tys17, tys18, tys19, tys20, tys21, tys22, tys23, Try.ntmps9, Try.results9]
  refine RunL.callp rfl rfl ok_f36 (eqFractionS_ok r lQ) (by simp only [pureL, pureB, pr, Bool.and_self]) rfl ?_
  simp only [run0, run1, run2, run3, run4, run5, run6, run7, run8, run9, run10, run11, run12, run13, run14, run15, run16, run17, run18, run19, run20, run21, run22, reduceCtorEq, Nat.reduceEqDiff, Nat.reduceAdd, Nat.reduceSub, Nat.reduceLeDiff, indexAddrA, indexRefA, appendA, strA, Nat.reduceMul, Nat.zero_mul, Nat.reduceMod, Int.reduceEq, Int.reduceLT, Int.reduceLE, Nat.reduceLT, Nat.lt_irrefl, Nat.reduceBEq, tys0, tys1, tys2, tys3, tys4, tys5, tys6, tys7, tys8, tys9, tys10, tys11, tys12, tys13, tys14, tys15, tys16, tys17, tys18, tys19, tys20, tys21, tys22, tys23, Try.ntmps9, Try.results9]
  exact Fin.eq rfl rfl

end Go.Proofs.Ytllcljajlemmaaa
/-
  Short numbers: where two words part.
-/
namespace Go.Proofs.Ytllcljajlemmaaa
open Go K
set_option linter.unusedSimpArgs false
set_option linter.unusedVariables false
set_option maxHeartbeats 1600000

def cpl (v w : ByteArray) : Nat → Nat → Nat
  | 0, k => k
  | m + 1, k => if k < v.size ∧ k < w.size ∧ v.data.getD k 0 = w.data.getD k 0 then cpl v w m (k + 1) else k
def wordS (n d : Int) : ByteArray := if shortB n d then (gWk n d).word else ⟨#[]⟩

theorem specWordS_ok (n d : Int) : Ct Try.prog 68 [fr n d] [] (.tup [.str (wordS n d), .bool (shortB n d)]) [] := specWordOf_ok walks_agree n d
theorem wordS_size (n d : Int) : (wordS n d).size ≤ 20 := by
  unfold wordS
  split
  · exact wk_size n d
  · decide
theorem cpl_le (v w : ByteArray) : ∀ (m k : Nat), k ≤ v.size → cpl v w m k ≤ v.size
  | 0, k, h => h
  | m + 1, k, h => by
    unfold cpl; split
    · exact cpl_le v w m (k + 1) (by omega)
    · exact h
theorem specPre_ok (s : ByteArray) (k : Nat) (hs : s.size ≤ 20) (hk : k ≤ s.size) (hm : mkOk (atWk s k).x 1048576 = true) : Ct Try.prog 118 [.str (s.extract 0 k)] [] (fr (frN (atWk s k).x) (frD (atWk s k).x)) [] := by
  have hz : (s.extract 0 k).size = k := size_ext _ _ hk
  have hx := atWk_ext s k _ (Nat.le_refl _)
  generalize s.extract 0 k = p at *
  have hv := shValue_ok p (by omega) (fun i hi => swAt_ok _ _ (by omega))
  rw [hz] at hv
  obtain ⟨e1, e2⟩ := swAt_fr p k (by omega) (by rw [hx]; exact hm)
  rw [e1, e2, hx] at hv
  exact hv

def meetK (a b c d : Int) : Nat := cpl (wordS a b) (wordS c d) 1000 0
def meetX (a b c d : Int) : Int := (atWk (wordS a b) (meetK a b c d)).x
theorem meet_ok {a b : Int} (c d : Int) (h : shortB a b = true) : mkOk (meetX a b c d) 1048576 = true := by
  have hk : meetK a b c d ≤ (wordS a b).size := cpl_le (wordS a b) (wordS c d) 1000 0 (Nat.zero_le _)
  have hws : wordS a b = (gWk a b).word := by simp [wordS, h]
  unfold meetX
  generalize meetK a b c d = k at *
  rw [hws] at hk ⊢
  exact wk_ok h k hk
theorem byte_eq {v w : ByteArray} {k : Nat} : (((v.data.getD k 0).toNat : Int) == ((w.data.getD k 0).toNat : Int)) = (v.data.getD k 0 == w.data.getD k 0) := by
  rw [Bool.eq_iff_iff]; simp only [beq_iff_eq]
  constructor
  · intro he; exact UInt8.toNat_inj.1 (by omega)
  · intro he; rw [he]

def meetR (a b c d : Int) : AV := .tup [fr (if shortB a b && shortB c d then frN (meetX a b c d) else 0) (if shortB a b && shortB c d then frD (meetX a b c d) else 0), .bool (shortB a b && shortB c d)]
end Go.Proofs.Ytllcljajlemmaaa
/-
  The draws: a cursor over bytes.
-/
namespace Go.Proofs.Ytllcljajlemmaaa
open Go K
set_option linter.unusedSimpArgs false
set_option linter.unusedVariables false
set_option maxHeartbeats 1600000
set_option maxRecDepth 8000

def bytesV (l : List Int) : List AV := l.map (AV.int .u8)
def bytesOk (l : List Int) : Prop := l.length ≤ 1048576 ∧ ∀ b ∈ l, 0 ≤ b ∧ b ≤ 255
def curB (code : List Int) (p seed : Int) : AObj := .box 103 [.sl false (bytesV code), .int .i64 p, .int .u64 seed]
def nextS (seed b : Int) : Int := IntKind.u64.wrap (IntKind.u64.wrap (IntKind.u64.wrap (seed * 6364136223846793005) + IntKind.u64.wrap b) + 1442695040888963407)
theorem and_255 (x : Int) : 0 ≤ Go.bits .and .u64 x 255 ∧ Go.bits .and .u64 x 255 ≤ 255 := by
  have h : ((BitVec.ofInt 64 x) &&& (BitVec.ofInt 64 255)).toNat ≤ 255 := by
    rw [BitVec.toNat_and]; exact Nat.and_le_right
  have e : Go.bits .and .u64 x 255 = IntKind.u64.wrap ((((BitVec.ofInt 64 x) &&& (BitVec.ofInt 64 255)).toNat : Nat) : Int) := rfl
  generalize ((BitVec.ofInt 64 x) &&& (BitVec.ofInt 64 255)).toNat = n at *
  have e2 : IntKind.u64.wrap (n : Int) = (n : Int) % 18446744073709551616 := rfl
  rw [e, e2]
  omega

theorem conv_u64 (x : Int) : convA Try.prog 3 101 (.int .i64 x) = some (.int .u64 (IntKind.u64.wrap x)) := by
  simp only [convA, Try.underlying3, Try.underlying101]
theorem conv_i64 (x : Int) : convA Try.prog 101 3 (.int .u64 x) = some (.int .i64 (IntKind.i64.wrap x)) := by
  simp only [convA, Try.underlying3, Try.underlying101]
theorem next_ok (code : List Int) (hc : bytesOk code) (p : Nat) (hp : p ≤ 1000000000) (seed : Int) (L : List AObj) (id : Nat) (hL : L[id]? = some (curB code p seed)) :
    ∃ r seed', (0 ≤ r ∧ r ≤ 255) ∧ Ct Try.prog 157 [.ptr id 0] L (.int .i64 r) (L.set id (curB code ((p + 1 : Nat) : Int) seed')) := by
  obtain ⟨hlen, hb⟩ := hc
  have hidl := (List.getElem?_eq_some_iff.1 hL).1
  have hget : ∀ X, (L.set id X)[id]? = some X := fun X => List.getElem?_set_self hidl
  have e5 : IntKind.i64.wrap ((p : Int) + 1) = ((p + 1 : Nat) : Int) := by
    have := w64_id (x := (p : Int) + 1) (by omega) (by omega)
    simp only [w64] at this
    rw [this]; simp
  have hbl : (bytesV code).length = code.length := by simp [bytesV]
  unfold curB at hL
  by_cases h : p < code.length
  · have e1 : (p : Int) < (code.length : Int) := by omega
    have e3 : ((p + 1 : Nat) : Int) ≤ (code.length : Int) := by omega
    have e2 : (bytesV code)[p]? = some (.int .u8 code[p]) := by simp [bytesV, h]
    obtain ⟨b0, b1⟩ := hb code[p] (List.getElem_mem h)
    generalize code[p] = b at *
    have e4 : IntKind.i64.wrap b = b := by
      have := w64_id (x := b) (by omega) (by omega)
      simp only [w64] at this
      exact this
    refine ⟨b, nextS seed b, ⟨b0, b1⟩, ?_⟩
    refine Ct.by_ hmix [] Try.func157 rfl ?_
    simp only [run0, run1, run2, run3, run4, run5, run6, run7, run8, run9, run10, run11, run12, run13, run14, run15, run16, run17, run18, run19, run20, run21, run22, reduceCtorEq, Nat.reduceEqDiff, Nat.reduceAdd, Nat.reduceSub, Nat.reduceLeDiff, indexAddrA, indexRefA, appendA, strA, Nat.reduceMul, Nat.zero_mul, Nat.reduceMod, Int.reduceEq, Int.reduceLT, Int.reduceLE, Nat.reduceLT, Nat.lt_irrefl, Nat.reduceBEq, tys0, tys1, tys2, tys3, tys4, tys5, tys6, tys7, tys8, tys9, tys10, tys11, tys12, tys13, tys14, tys15, tys16, tys17, tys18, tys19, tys20, tys21, tys22, tys23, Try.ntmps157, Try.results157, hL, hget, hbl, e1, e2, e3, e4, e5, List.set_set, Int.toNat_natCast, Int.natCast_nonneg, conv_u64, conv_i64]
    refine ⟨by kernel_rfl, ?_⟩
    try simp only [run0, run1, run2, run3, run4, run5, run6, run7, run8, run9, run10, run11, run12, run13, run14, run15, run16, run17, run18, run19, run20, run21, run22, reduceCtorEq, Nat.reduceEqDiff, Nat.reduceAdd, Nat.reduceSub, Nat.reduceLeDiff, indexAddrA, indexRefA, appendA, strA, Nat.reduceMul, Nat.zero_mul, Nat.reduceMod, Int.reduceEq, Int.reduceLT, Int.reduceLE, Nat.reduceLT, Nat.lt_irrefl, Nat.reduceBEq, tys0, tys1, tys2, tys3, tys4, tys5, tys6, tys7, tys8, tys9, tys10, tys11, tys12, tys13, tys14, tys15, tys16, tys17, tys18, tys19, tys20, tys21, tys22, tys23, Try.ntmps157, Try.results157, hL, hget, hbl, e1, e2, e3, e4, e5, List.set_set, Int.toNat_natCast, Int.natCast_nonneg, conv_u64, conv_i64]
    refine ⟨by kernel_rfl, ?_⟩
    try simp only [run0, run1, run2, run3, run4, run5, run6, run7, run8, run9, run10, run11, run12, run13, run14, run15, run16, run17, run18, run19, run20, run21, run22, reduceCtorEq, Nat.reduceEqDiff, Nat.reduceAdd, Nat.reduceSub, Nat.reduceLeDiff, indexAddrA, indexRefA, appendA, strA, Nat.reduceMul, Nat.zero_mul, Nat.reduceMod, Int.reduceEq, Int.reduceLT, Int.reduceLE, Nat.reduceLT, Nat.lt_irrefl, Nat.reduceBEq, tys0, tys1, tys2, tys3, tys4, tys5, tys6, tys7, tys8, tys9, tys10, tys11, tys12, tys13, tys14, tys15, tys16, tys17, tys18, tys19, tys20, tys21, tys22, tys23, Try.ntmps157, Try.results157, hL, hget, hbl, e1, e2, e3, e4, e5, List.set_set, Int.toNat_natCast, Int.natCast_nonneg, conv_u64, conv_i64]
    refine ⟨by kernel_rfl, ?_⟩
    try simp only [run0, run1, run2, run3, run4, run5, run6, run7, run8, run9, run10, run11, run12, run13, run14, run15, run16, run17, run18, run19, run20, run21, run22, reduceCtorEq, Nat.reduceEqDiff, Nat.reduceAdd, Nat.reduceSub, Nat.reduceLeDiff, indexAddrA, indexRefA, appendA, strA, Nat.reduceMul, Nat.zero_mul, Nat.reduceMod, Int.reduceEq, Int.reduceLT, Int.reduceLE, Nat.reduceLT, Nat.lt_irrefl, Nat.reduceBEq, tys0, tys1, tys2, tys3, tys4, tys5, tys6, tys7, tys8, tys9, tys10, tys11, tys12, tys13, tys14, tys15, tys16, tys17, tys18, tys19, tys20, tys21, tys22, tys23, Try.ntmps157, Try.results157, hL, hget, hbl, e1, e2, e3, e4, e5, List.set_set, Int.toNat_natCast, Int.natCast_nonneg, conv_u64, conv_i64]
    refine ⟨by kernel_rfl, ?_⟩
    exact Fin.own rfl rfl
  · have e1 : ¬ (p : Int) < (code.length : Int) := by omega
    have e3 : ¬ ((p + 1 : Nat) : Int) ≤ (code.length : Int) := by omega
    obtain ⟨a1, a2⟩ := and_255 ((nextS seed 0).fdiv (2 ^ min (40 : Int).toNat IntKind.u64.bits))
    have e4 : IntKind.i64.wrap (Go.bits .and .u64 ((nextS seed 0).fdiv (2 ^ min (40 : Int).toNat IntKind.u64.bits)) 255) = Go.bits .and .u64 ((nextS seed 0).fdiv (2 ^ min (40 : Int).toNat IntKind.u64.bits)) 255 := by
      have := w64_id (x := Go.bits .and .u64 ((nextS seed 0).fdiv (2 ^ min (40 : Int).toNat IntKind.u64.bits)) 255) (by omega) (by omega)
      simp only [w64] at this
      exact this
    refine ⟨IntKind.i64.wrap (Go.bits .and .u64 ((nextS seed 0).fdiv (2 ^ min (40 : Int).toNat IntKind.u64.bits)) 255), nextS seed 0, by rw [e4]; exact ⟨a1, a2⟩, ?_⟩
    refine Ct.by_ hmix [] Try.func157 rfl ?_
    simp only [run0, run1, run2, run3, run4, run5, run6, run7, run8, run9, run10, run11, run12, run13, run14, run15, run16, run17, run18, run19, run20, run21, run22, reduceCtorEq, Nat.reduceEqDiff, Nat.reduceAdd, Nat.reduceSub, Nat.reduceLeDiff, indexAddrA, indexRefA, appendA, strA, Nat.reduceMul, Nat.zero_mul, Nat.reduceMod, Int.reduceEq, Int.reduceLT, Int.reduceLE, Nat.reduceLT, Nat.lt_irrefl, Nat.reduceBEq, tys0, tys1, tys2, tys3, tys4, tys5, tys6, tys7, tys8, tys9, tys10, tys11, tys12, tys13, tys14, tys15, tys16, tys17, tys18, tys19, tys20, tys21, tys22, tys23, Try.ntmps157, Try.results157, hL, hget, hbl, e1, e3, e5, List.set_set, Int.toNat_natCast, Int.natCast_nonneg, conv_u64, conv_i64]
    refine ⟨by kernel_rfl, ?_⟩
    try simp only [run0, run1, run2, run3, run4, run5, run6, run7, run8, run9, run10, run11, run12, run13, run14, run15, run16, run17, run18, run19, run20, run21, run22, reduceCtorEq, Nat.reduceEqDiff, Nat.reduceAdd, Nat.reduceSub, Nat.reduceLeDiff, indexAddrA, indexRefA, appendA, strA, Nat.reduceMul, Nat.zero_mul, Nat.reduceMod, Int.reduceEq, Int.reduceLT, Int.reduceLE, Nat.reduceLT, Nat.lt_irrefl, Nat.reduceBEq, tys0, tys1, tys2, tys3, tys4, tys5, tys6, tys7, tys8, tys9, tys10, tys11, tys12, tys13, tys14, tys15, tys16, tys17, tys18, tys19, tys20, tys21, tys22, tys23, Try.ntmps157, Try.results157, hL, hget, hbl, e1, e3, e5, List.set_set, Int.toNat_natCast, Int.natCast_nonneg, conv_u64, conv_i64]
    refine ⟨by kernel_rfl, ?_⟩
    try simp only [run0, run1, run2, run3, run4, run5, run6, run7, run8, run9, run10, run11, run12, run13, run14, run15, run16, run17, run18, run19, run20, run21, run22, reduceCtorEq, Nat.reduceEqDiff, Nat.reduceAdd, Nat.reduceSub, Nat.reduceLeDiff, indexAddrA, indexRefA, appendA, strA, Nat.reduceMul, Nat.zero_mul, Nat.reduceMod, Int.reduceEq, Int.reduceLT, Int.reduceLE, Nat.reduceLT, Nat.lt_irrefl, Nat.reduceBEq, tys0, tys1, tys2, tys3, tys4, tys5, tys6, tys7, tys8, tys9, tys10, tys11, tys12, tys13, tys14, tys15, tys16, tys17, tys18, tys19, tys20, tys21, tys22, tys23, Try.ntmps157, Try.results157, hL, hget, hbl, e1, e3, e5, List.set_set, Int.toNat_natCast, Int.natCast_nonneg, conv_u64, conv_i64]
    exact Fin.own rfl rfl

theorem tmod_rng {x n : Int} (hx : 0 ≤ x) (hn : 0 < n) : 0 ≤ x.tmod n ∧ x.tmod n < n :=
  ⟨Int.tmod_nonneg _ hx, Int.tmod_lt_of_pos _ hn⟩
theorem pick_ok (code : List Int) (hc : bytesOk code) (p : Nat) (hp : p ≤ 900000000) (seed n : Int) (hn : 1 < n) (hn2 : n ≤ 1000000) (L : List AObj) (id : Nat) (hL : L[id]? = some (curB code p seed)) :
    ∃ (r : Int) (p' : Nat) (seed' : Int), (0 ≤ r ∧ r < n) ∧ p' ≤ p + 2 ∧ Ct Try.prog 134 [.ptr id 0, .int .i64 n] L (.int .i64 r) (L.set id (curB code p' seed')) := by
  have hidl := (List.getElem?_eq_some_iff.1 hL).1
  have hget : ∀ X, (L.set id X)[id]? = some X := fun X => List.getElem?_set_self hidl
  obtain ⟨r1, s1, ⟨h1, h2⟩, c1⟩ := next_ok code hc p (by omega) seed L id hL
  have e1 : ¬ (n ≤ 1) := by omega
  have e0 : ¬ (n = 0) := by omega
  by_cases hbig : 200 < n
  · obtain ⟨r2, s2, ⟨h3, h4⟩, c2⟩ := next_ok code hc (p + 1) (by omega) s1 (L.set id (curB code ((p + 1 : Nat) : Int) s1)) id (hget _)
    obtain ⟨t1, t2⟩ := tmod_rng (x := r1 * 256 + r2) (n := n) (by omega) (by omega)
    have e2 : IntKind.i64.wrap (r1 * 256) = r1 * 256 := w64_id (by omega) (by omega)
    have e3 : IntKind.i64.wrap (r1 * 256 + r2) = r1 * 256 + r2 := w64_id (by omega) (by omega)
    refine ⟨(r1 * 256 + r2).tmod n, p + 1 + 1, s2, ⟨t1, t2⟩, by omega, ?_⟩
    rw [List.set_set] at c2
    refine Ct.by_ hmix [] Try.func134 rfl ?_
    simp only [run0, run1, run2, run3, run4, run5, run6, run7, run8, run9, run10, run11, run12, run13, run14, run15, run16, run17, run18, run19, run20, run21, run22, reduceCtorEq, Nat.reduceEqDiff, Nat.reduceAdd, Nat.reduceSub, Nat.reduceLeDiff, indexAddrA, indexRefA, appendA, strA, Nat.reduceMul, Nat.zero_mul, Nat.reduceMod, Int.reduceEq, Int.reduceLT, Int.reduceLE, Nat.reduceLT, Nat.lt_irrefl, Nat.reduceBEq, tys0, tys1, tys2, tys3, tys4, tys5, tys6, tys7, tys8, tys9, tys10, tys11, tys12, tys13, tys14, tys15, tys16, tys17, tys18, tys19, tys20, tys21, tys22, tys23, Try.ntmps134, Try.results134, e1]
    refine RunL.callM rfl rfl ok_f157 rfl rfl c1 rfl ?_
    simp only [run0, run1, run2, run3, run4, run5, run6, run7, run8, run9, run10, run11, run12, run13, run14, run15, run16, run17, run18, run19, run20, run21, run22, reduceCtorEq, Nat.reduceEqDiff, Nat.reduceAdd, Nat.reduceSub, Nat.reduceLeDiff, indexAddrA, indexRefA, appendA, strA, Nat.reduceMul, Nat.zero_mul, Nat.reduceMod, Int.reduceEq, Int.reduceLT, Int.reduceLE, Nat.reduceLT, Nat.lt_irrefl, Nat.reduceBEq, tys0, tys1, tys2, tys3, tys4, tys5, tys6, tys7, tys8, tys9, tys10, tys11, tys12, tys13, tys14, tys15, tys16, tys17, tys18, tys19, tys20, tys21, tys22, tys23, Try.ntmps134, Try.results134, hbig, e2]
    refine RunL.callM rfl rfl ok_f157 rfl rfl c2 rfl ?_
    simp only [run0, run1, run2, run3, run4, run5, run6, run7, run8, run9, run10, run11, run12, run13, run14, run15, run16, run17, run18, run19, run20, run21, run22, reduceCtorEq, Nat.reduceEqDiff, Nat.reduceAdd, Nat.reduceSub, Nat.reduceLeDiff, indexAddrA, indexRefA, appendA, strA, Nat.reduceMul, Nat.zero_mul, Nat.reduceMod, Int.reduceEq, Int.reduceLT, Int.reduceLE, Nat.reduceLT, Nat.lt_irrefl, Nat.reduceBEq, tys0, tys1, tys2, tys3, tys4, tys5, tys6, tys7, tys8, tys9, tys10, tys11, tys12, tys13, tys14, tys15, tys16, tys17, tys18, tys19, tys20, tys21, tys22, tys23, Try.ntmps134, Try.results134, e3, e0]
    exact Fin.own rfl rfl
  · obtain ⟨t1, t2⟩ := tmod_rng (x := r1) (n := n) (by omega) (by omega)
    refine ⟨r1.tmod n, p + 1, s1, ⟨t1, t2⟩, by omega, ?_⟩
    refine Ct.by_ hmix [] Try.func134 rfl ?_
    simp only [run0, run1, run2, run3, run4, run5, run6, run7, run8, run9, run10, run11, run12, run13, run14, run15, run16, run17, run18, run19, run20, run21, run22, reduceCtorEq, Nat.reduceEqDiff, Nat.reduceAdd, Nat.reduceSub, Nat.reduceLeDiff, indexAddrA, indexRefA, appendA, strA, Nat.reduceMul, Nat.zero_mul, Nat.reduceMod, Int.reduceEq, Int.reduceLT, Int.reduceLE, Nat.reduceLT, Nat.lt_irrefl, Nat.reduceBEq, tys0, tys1, tys2, tys3, tys4, tys5, tys6, tys7, tys8, tys9, tys10, tys11, tys12, tys13, tys14, tys15, tys16, tys17, tys18, tys19, tys20, tys21, tys22, tys23, Try.ntmps134, Try.results134, e1]
    refine RunL.callM rfl rfl ok_f157 rfl rfl c1 rfl ?_
    simp only [run0, run1, run2, run3, run4, run5, run6, run7, run8, run9, run10, run11, run12, run13, run14, run15, run16, run17, run18, run19, run20, run21, run22, reduceCtorEq, Nat.reduceEqDiff, Nat.reduceAdd, Nat.reduceSub, Nat.reduceLeDiff, indexAddrA, indexRefA, appendA, strA, Nat.reduceMul, Nat.zero_mul, Nat.reduceMod, Int.reduceEq, Int.reduceLT, Int.reduceLE, Nat.reduceLT, Nat.lt_irrefl, Nat.reduceBEq, tys0, tys1, tys2, tys3, tys4, tys5, tys6, tys7, tys8, tys9, tys10, tys11, tys12, tys13, tys14, tys15, tys16, tys17, tys18, tys19, tys20, tys21, tys22, tys23, Try.ntmps134, Try.results134, hbig, e0]
    exact Fin.own rfl rfl

theorem among_ok (l : List Int) (o : Bool) (h1 : 1 < l.length) (h2 : l.length ≤ 100) (code : List Int) (hc : bytesOk code) (p : Nat) (hp : p ≤ 900000000) (seed : Int) (L : List AObj) (id : Nat) (hL : L[id]? = some (curB code p seed)) :
    ∃ (r : Int) (p' : Nat) (seed' : Int), r ∈ l ∧ p' ≤ p + 2 ∧ Ct Try.prog 159 [.ptr id 0, .sl o (ints l)] L (.int .i64 r) (L.set id (curB code p' seed')) := by
  obtain ⟨r, p', s', ⟨k1, k2⟩, k3, c1⟩ := pick_ok code hc p hp seed l.length (by omega) (by omega) L id hL
  obtain ⟨i, rfl⟩ := Int.eq_ofNat_of_zero_le k1
  have hi : i < l.length := by omega
  have e2 : (ints l)[i]? = some (.int .i64 l[i]) := by simp [hi]
  have e3 : (i : Int) < (l.length : Int) := by omega
  refine ⟨l[i], p', s', List.getElem_mem hi, k3, ?_⟩
  refine Ct.by_ hmix [] Try.func159 rfl ?_
  simp only [run0, run1, run2, run3, run4, run5, run6, run7, run8, run9, run10, run11, run12, run13, run14, run15, run16, run17, run18, run19, run20, run21, run22, reduceCtorEq, Nat.reduceEqDiff, Nat.reduceAdd, Nat.reduceSub, Nat.reduceLeDiff, indexAddrA, indexRefA, appendA, strA, Nat.reduceMul, Nat.zero_mul, Nat.reduceMod, Int.reduceEq, Int.reduceLT, Int.reduceLE, Nat.reduceLT, Nat.lt_irrefl, Nat.reduceBEq, tys0, tys1, tys2, tys3, tys4, tys5, tys6, tys7, tys8, tys9, tys10, tys11, tys12, tys13, tys14, tys15, tys16, tys17, tys18, tys19, tys20, tys21, tys22, tys23, Try.ntmps159, Try.results159]
  refine RunL.callM rfl rfl ok_f134 rfl rfl c1 rfl ?_
  simp only [run0, run1, run2, run3, run4, run5, run6, run7, run8, run9, run10, run11, run12, run13, run14, run15, run16, run17, run18, run19, run20, run21, run22, reduceCtorEq, Nat.reduceEqDiff, Nat.reduceAdd, Nat.reduceSub, Nat.reduceLeDiff, indexAddrA, indexRefA, appendA, strA, Nat.reduceMul, Nat.zero_mul, Nat.reduceMod, Int.reduceEq, Int.reduceLT, Int.reduceLE, Nat.reduceLT, Nat.lt_irrefl, Nat.reduceBEq, tys0, tys1, tys2, tys3, tys4, tys5, tys6, tys7, tys8, tys9, tys10, tys11, tys12, tys13, tys14, tys15, tys16, tys17, tys18, tys19, tys20, tys21, tys22, tys23, Try.ntmps159, Try.results159, e2, e3, Int.toNat_natCast, Int.natCast_nonneg]
  exact Fin.own rfl rfl

theorem of_ok (l : List ByteArray) (o : Bool) (h1 : 1 < l.length) (h2 : l.length ≤ 100) (code : List Int) (hc : bytesOk code) (p : Nat) (hp : p ≤ 900000000) (seed : Int) (L : List AObj) (id : Nat) (hL : L[id]? = some (curB code p seed)) :
    ∃ (r : ByteArray) (p' : Nat) (seed' : Int), r ∈ l ∧ p' ≤ p + 2 ∧ Ct Try.prog 177 [.ptr id 0, .sl o (l.map AV.str)] L (.str r) (L.set id (curB code p' seed')) := by
  obtain ⟨r, p', s', ⟨k1, k2⟩, k3, c1⟩ := pick_ok code hc p hp seed l.length (by omega) (by omega) L id hL
  obtain ⟨i, rfl⟩ := Int.eq_ofNat_of_zero_le k1
  have hi : i < l.length := by omega
  have e2 : (l.map AV.str)[i]? = some (.str l[i]) := by simp [hi]
  have e3 : (i : Int) < (l.length : Int) := by omega
  refine ⟨l[i], p', s', List.getElem_mem hi, k3, ?_⟩
  refine Ct.by_ hmix [] Try.func177 rfl ?_
  simp only [run0, run1, run2, run3, run4, run5, run6, run7, run8, run9, run10, run11, run12, run13, run14, run15, run16, run17, run18, run19, run20, run21, run22, reduceCtorEq, Nat.reduceEqDiff, Nat.reduceAdd, Nat.reduceSub, Nat.reduceLeDiff, indexAddrA, indexRefA, appendA, strA, Nat.reduceMul, Nat.zero_mul, Nat.reduceMod, Int.reduceEq, Int.reduceLT, Int.reduceLE, Nat.reduceLT, Nat.lt_irrefl, Nat.reduceBEq, tys0, tys1, tys2, tys3, tys4, tys5, tys6, tys7, tys8, tys9, tys10, tys11, tys12, tys13, tys14, tys15, tys16, tys17, tys18, tys19, tys20, tys21, tys22, tys23, Try.ntmps177, Try.results177]
  refine RunL.callM rfl rfl ok_f134 rfl rfl c1 rfl ?_
  simp only [run0, run1, run2, run3, run4, run5, run6, run7, run8, run9, run10, run11, run12, run13, run14, run15, run16, run17, run18, run19, run20, run21, run22, reduceCtorEq, Nat.reduceEqDiff, Nat.reduceAdd, Nat.reduceSub, Nat.reduceLeDiff, indexAddrA, indexRefA, appendA, strA, Nat.reduceMul, Nat.zero_mul, Nat.reduceMod, Int.reduceEq, Int.reduceLT, Int.reduceLE, Nat.reduceLT, Nat.lt_irrefl, Nat.reduceBEq, tys0, tys1, tys2, tys3, tys4, tys5, tys6, tys7, tys8, tys9, tys10, tys11, tys12, tys13, tys14, tys15, tys16, tys17, tys18, tys19, tys20, tys21, tys22, tys23, Try.ntmps177, Try.results177, e2, e3, Int.toNat_natCast, Int.natCast_nonneg]
  exact Fin.own rfl rfl

theorem callM_ex {P : Program} {k : Oper → Knd} {ops : Array Oper} {Kq : AV → List AObj → St → Prop} {Z : AV → List AObj → Prop} {o : Oper} {rest : List Oper} {s : St} {f : FuncId} {args : Array Operand} {ats : Array TypeId} {r : AV} {L' : List AObj} {xs : List AV}
    (hg : guardA ops s o = some true) (ho : o.op = .call { callee := .value (.func f), args := args, argTypes := ats }) (hf : okFn P f = true) (hkd : Knd.le .C (k o) = true) (hal : isAlloc k o = false)
    (h : Ct P f xs s.L r L') (hx : args.toList.map s.ev = xs) (hk : ∃ r1 L1, R P k ops rest ({ s with L := L' }.put o.dst r) (Kq r1 L1) ∧ Z r1 L1) : ∃ r1 L1, RunL P k ops (o :: rest) s (Kq r1 L1) ∧ Z r1 L1 := by
  obtain ⟨r1, L1, h1, h2⟩ := hk
  exact ⟨r1, L1, RunL.callM hg ho hf hkd hal h hx h1, h2⟩
structure WdS where
  k : Nat
  s : ByteArray
  p : Nat
  seed : Int
theorem word_ok (code : List Int) (hc : bytesOk code) (p : Nat) (hp : p ≤ 800000000) (seed most : Int) (hm : 1 ≤ most) (hm2 : most ≤ 20) (L : List AObj) (id : Nat) (hL : L[id]? = some (curB code p seed)) :
    ∃ (s : ByteArray) (p' : Nat) (seed' : Int), s.size ≤ 20 ∧ p' ≤ p + 100 ∧ Ct Try.prog 160 [.ptr id 0, .int .i64 most] L (.str s) (L.set id (curB code p' seed')) := by
  have hidl := (List.getElem?_eq_some_iff.1 hL).1
  have hget : ∀ X, (L.set id X)[id]? = some X := fun X => List.getElem?_set_self hidl
  obtain ⟨r, p1, s1, ⟨k1, k2⟩, k3, c1⟩ := pick_ok code hc p (by omega) seed (most + 1) (by omega) (by omega) L id hL
  obtain ⟨n, rfl⟩ := Int.eq_ofNat_of_zero_le k1
  have w1 : IntKind.i64.wrap (most + 1) = most + 1 := w64_id (by omega) (by omega)
  suffices h : ∃ r L', Ct Try.prog 160 [.ptr id 0, .int .i64 most] L r L' ∧ ∃ (s : ByteArray) (p' : Nat) (seed' : Int), s.size ≤ 20 ∧ p' ≤ p + 100 ∧ r = .str s ∧ L' = L.set id (curB code p' seed') by
    obtain ⟨r, L', h1, s, p', seed', h2, h3, rfl, rfl⟩ := h
    exact ⟨s, p', seed', h2, h3, h1⟩
  refine Ct.ex hmix [] Try.func160 rfl ?_
  simp only [run0, run1, run2, run3, run4, run5, run6, run7, run8, run9, run10, run11, run12, run13, run14, run15, run16, run17, run18, run19, run20, run21, run22, reduceCtorEq, Nat.reduceEqDiff, Nat.reduceAdd, Nat.reduceSub, Nat.reduceLeDiff, indexAddrA, indexRefA, appendA, strA, Nat.reduceMul, Nat.zero_mul, Nat.reduceMod, Int.reduceEq, Int.reduceLT, Int.reduceLE, Nat.reduceLT, Nat.lt_irrefl, Nat.reduceBEq, tys0, tys1, tys2, tys3, tys4, tys5, tys6, tys7, tys8, tys9, tys10, tys11, tys12, tys13, tys14, tys15, tys16, tys17, tys18, tys19, tys20, tys21, tys22, tys23, Try.ntmps160, Try.results160, w1]
  refine callM_ex rfl rfl ok_f134 rfl rfl c1 rfl ?_
  simp only [run0, run1, run2, run3, run4, run5, run6, run7, run8, run9, run10, run11, run12, run13, run14, run15, run16, run17, run18, run19, run20, run21, run22, reduceCtorEq, Nat.reduceEqDiff, Nat.reduceAdd, Nat.reduceSub, Nat.reduceLeDiff, indexAddrA, indexRefA, appendA, strA, Nat.reduceMul, Nat.zero_mul, Nat.reduceMod, Int.reduceEq, Int.reduceLT, Int.reduceLE, Nat.reduceLT, Nat.lt_irrefl, Nat.reduceBEq, tys0, tys1, tys2, tys3, tys4, tys5, tys6, tys7, tys8, tys9, tys10, tys11, tys12, tys13, tys14, tys15, tys16, tys17, tys18, tys19, tys20, tys21, tys22, tys23, Try.ntmps160, Try.results160]
  refine AWp.loop_exK (ι := WdS) (fun q => ⟨[.ptr id 0, .junk, .junk, .junk, .str ⟨#[]⟩, .str q.s, .int .i64 q.k, .junk, .junk, .junk, .junk, .junk, .junk, .junk, .junk, .junk, .junk, .junk, .junk, .junk, .junk], L.set id (curB code q.p q.seed)⟩)
    (fun q => q.s.size + q.k ≤ 20 ∧ q.p + 2 * q.k ≤ p + 50) (fun q => q.k) ⟨n, ⟨#[]⟩, p1, s1⟩ ⟨by show 0 + n ≤ 20; omega, by simp only; omega⟩ ⟨by repeat constructor, rfl⟩ ?_
  rintro ⟨k, s, q, sd⟩ ⟨h1, h2⟩
  simp only at h1 h2
  cases k with
  | zero =>
    left
    refine ⟨.str s, L.set id (curB code q sd), ?_, s, q, sd, by omega, by omega, rfl, rfl⟩
    refine W.sound hmix (E := []) ?_
    simp only [run0, run1, run2, run3, run4, run5, run6, run7, run8, run9, run10, run11, run12, run13, run14, run15, run16, run17, run18, run19, run20, run21, run22, reduceCtorEq, Nat.reduceEqDiff, Nat.reduceAdd, Nat.reduceSub, Nat.reduceLeDiff, indexAddrA, indexRefA, appendA, strA, Nat.reduceMul, Nat.zero_mul, Nat.reduceMod, Int.reduceEq, Int.reduceLT, Int.reduceLE, Nat.reduceLT, Nat.lt_irrefl, Nat.reduceBEq, tys0, tys1, tys2, tys3, tys4, tys5, tys6, tys7, tys8, tys9, tys10, tys11, tys12, tys13, tys14, tys15, tys16, tys17, tys18, tys19, tys20, tys21, tys22, tys23, Try.ntmps160, Try.results160, Int.natCast_zero, Int.lt_irrefl]
    exact Fin.own rfl rfl
  | succ k =>
    right
    obtain ⟨t, p2, s2, ht, hp2, c2⟩ := of_ok [⟨#[43]⟩, ⟨#[45]⟩, ⟨#[43]⟩] false (by decide) (by decide) code hc q (by omega) sd (L.set id (curB code q sd)) id (hget _)
    rw [List.set_set] at c2
    have htz : t.size = 1 := by
      simp only [List.mem_cons, List.not_mem_nil, or_false] at ht
      rcases ht with rfl | rfl | rfl <;> rfl
    have hsz : (s ++ t).size = s.size + 1 := by rw [ByteArray.size_append, htz]
    refine ⟨⟨k, s ++ t, p2, s2⟩, ⟨by simp only [hsz]; omega, by simp only; omega⟩, by simp only; omega, ?_⟩
    refine W.sound hmix (E := []) ?_
    have e1 : (0 : Int) < ((k + 1 : Nat) : Int) := by omega
    have e2 : IntKind.i64.wrap (((k + 1 : Nat) : Int) - 1) = (k : Int) := by
      have := w64_id (x := ((k + 1 : Nat) : Int) - 1) (by omega) (by omega)
      simp only [w64] at this
      rw [this]; omega
    have b3 : s.size + t.size ≤ 9223372036854775807 := by omega
    simp only [run0, run1, run2, run3, run4, run5, run6, run7, run8, run9, run10, run11, run12, run13, run14, run15, run16, run17, run18, run19, run20, run21, run22, reduceCtorEq, Nat.reduceEqDiff, Nat.reduceAdd, Nat.reduceSub, Nat.reduceLeDiff, indexAddrA, indexRefA, appendA, strA, Nat.reduceMul, Nat.zero_mul, Nat.reduceMod, Int.reduceEq, Int.reduceLT, Int.reduceLE, Nat.reduceLT, Nat.lt_irrefl, Nat.reduceBEq, tys0, tys1, tys2, tys3, tys4, tys5, tys6, tys7, tys8, tys9, tys10, tys11, tys12, tys13, tys14, tys15, tys16, tys17, tys18, tys19, tys20, tys21, tys22, tys23, Try.ntmps160, Try.results160, e1]
    refine RunL.callM rfl rfl ok_f177 rfl rfl c2 rfl ?_
    simp only [run0, run1, run2, run3, run4, run5, run6, run7, run8, run9, run10, run11, run12, run13, run14, run15, run16, run17, run18, run19, run20, run21, run22, reduceCtorEq, Nat.reduceEqDiff, Nat.reduceAdd, Nat.reduceSub, Nat.reduceLeDiff, indexAddrA, indexRefA, appendA, strA, Nat.reduceMul, Nat.zero_mul, Nat.reduceMod, Int.reduceEq, Int.reduceLT, Int.reduceLE, Nat.reduceLT, Nat.lt_irrefl, Nat.reduceBEq, tys0, tys1, tys2, tys3, tys4, tys5, tys6, tys7, tys8, tys9, tys10, tys11, tys12, tys13, tys14, tys15, tys16, tys17, tys18, tys19, tys20, tys21, tys22, tys23, Try.ntmps160, Try.results160, e2, b3]
    repeat constructor

/-- A drawn fraction. -/
theorem fraction_ok (code : List Int) (hc : bytesOk code) (p : Nat) (hp : p ≤ 700000000) (seed : Int) (L : List AObj) (id : Nat) (hL : L[id]? = some (curB code p seed)) :
    ∃ (n d : Int) (p' : Nat) (seed' : Int), p' ≤ p + 1000 ∧ Ct Try.prog 135 [.ptr id 0] L (fr n d) (L.set id (curB code p' seed') ++ [.box 42 [.int .i64 n, .int .i64 d]]) := by
  have hidl := (List.getElem?_eq_some_iff.1 hL).1
  have hget : ∀ X Y, (L.set id X ++ [Y])[id]? = some X := fun X Y => by rw [List.getElem?_append_left (by simpa using hidl)]; exact List.getElem?_set_self hidl
  have hset : ∀ X Y Z, (L.set id X ++ [Y]).set id Z = L.set id Z ++ [Y] := fun X Y Z => by rw [List.set_append_left _ _ (by simpa using hidl), List.set_set]
  have hL0 : (L ++ [AObj.box 42 [.int .i64 0, .int .i64 0]])[id]? = some (curB code p seed) := by rw [List.getElem?_append_left hidl]; exact hL
  have hset0 : ∀ Y Z, (L ++ [Y]).set id Z = L.set id Z ++ [Y] := fun Y Z => by rw [List.set_append_left _ _ hidl]
  have hlen : ∀ X, (L.set id X).length = L.length := fun X => by simp
  obtain ⟨r, p1, s1, ⟨k1, k2⟩, k3, c1⟩ := pick_ok code hc p (by omega) seed 8 (by omega) (by omega) (L ++ [.box 42 [.int .i64 0, .int .i64 0]]) id hL0
  rw [hset0] at c1
  have setX : ∀ X Y Z, (L.set id X ++ [Y]).set L.length Z = L.set id X ++ [Z] := fun X Y Z => by
    rw [List.set_append_right _ _ (by simp), hlen, Nat.sub_self]; rfl
  have getL : ∀ X Y, (L.set id X ++ [Y])[L.length]? = some Y := fun X Y => by
    rw [List.getElem?_append_right (by simp), hlen, Nat.sub_self]; rfl
  by_cases q0 : r = 0
  · have f0 : (r == 0) = true := by simp [q0]
    obtain ⟨r2, p2, s2, ⟨a1, a2⟩, a3, c2⟩ := pick_ok code hc p1 (by omega) s1 41 (by omega) (by omega) _ id (hget (curB code p1 s1) (.box 42 [.int .i64 0, .int .i64 0]))
    rw [hset] at c2
    obtain ⟨r3, p3, s3, ⟨b1, b2⟩, b3, c3⟩ := pick_ok code hc p2 (by omega) s2 30 (by omega) (by omega) _ id (hget (curB code p2 s2) (.box 42 [.int .i64 0, .int .i64 0]))
    rw [hset] at c3
    have e2 : IntKind.i64.wrap (r2 - 20) = r2 - 20 := w64_id (by omega) (by omega)
    have e3 : IntKind.i64.wrap (1 + r3) = 1 + r3 := w64_id (by omega) (by omega)
    have hmk := shMake_ok (r2 - 20) (1 + r3) (by omega) ⟨by omega, by omega⟩
    refine ⟨mkN (r2 - 20) (1 + r3), mkD (r2 - 20) (1 + r3), p3, s3, by omega, ?_⟩
    refine Ct.by_ hmix [] Try.func135 rfl ?_
    simp only [run0, run1, run2, run3, run4, run5, run6, run7, run8, run9, run10, run11, run12, run13, run14, run15, run16, run17, run18, run19, run20, run21, run22, reduceCtorEq, Nat.reduceEqDiff, Nat.reduceAdd, Nat.reduceSub, Nat.reduceLeDiff, indexAddrA, indexRefA, appendA, strA, Nat.reduceMul, Nat.zero_mul, Nat.reduceMod, Int.reduceEq, Int.reduceLT, Int.reduceLE, Nat.reduceLT, Nat.lt_irrefl, Nat.reduceBEq, tys0, tys1, tys2, tys3, tys4, tys5, tys6, tys7, tys8, tys9, tys10, tys11, tys12, tys13, tys14, tys15, tys16, tys17, tys18, tys19, tys20, tys21, tys22, tys23, Try.ntmps135, Try.results135]
    refine RunL.callM rfl rfl ok_f134 rfl rfl c1 rfl ?_
    simp only [run0, run1, run2, run3, run4, run5, run6, run7, run8, run9, run10, run11, run12, run13, run14, run15, run16, run17, run18, run19, run20, run21, run22, reduceCtorEq, Nat.reduceEqDiff, Nat.reduceAdd, Nat.reduceSub, Nat.reduceLeDiff, indexAddrA, indexRefA, appendA, strA, Nat.reduceMul, Nat.zero_mul, Nat.reduceMod, Int.reduceEq, Int.reduceLT, Int.reduceLE, Nat.reduceLT, Nat.lt_irrefl, Nat.reduceBEq, tys0, tys1, tys2, tys3, tys4, tys5, tys6, tys7, tys8, tys9, tys10, tys11, tys12, tys13, tys14, tys15, tys16, tys17, tys18, tys19, tys20, tys21, tys22, tys23, Try.ntmps135, Try.results135, f0]
    refine RunL.callM rfl rfl ok_f134 rfl rfl c2 rfl ?_
    simp only [run0, run1, run2, run3, run4, run5, run6, run7, run8, run9, run10, run11, run12, run13, run14, run15, run16, run17, run18, run19, run20, run21, run22, reduceCtorEq, Nat.reduceEqDiff, Nat.reduceAdd, Nat.reduceSub, Nat.reduceLeDiff, indexAddrA, indexRefA, appendA, strA, Nat.reduceMul, Nat.zero_mul, Nat.reduceMod, Int.reduceEq, Int.reduceLT, Int.reduceLE, Nat.reduceLT, Nat.lt_irrefl, Nat.reduceBEq, tys0, tys1, tys2, tys3, tys4, tys5, tys6, tys7, tys8, tys9, tys10, tys11, tys12, tys13, tys14, tys15, tys16, tys17, tys18, tys19, tys20, tys21, tys22, tys23, Try.ntmps135, Try.results135, e2]
    refine RunL.callM rfl rfl ok_f134 rfl rfl c3 rfl ?_
    simp only [run0, run1, run2, run3, run4, run5, run6, run7, run8, run9, run10, run11, run12, run13, run14, run15, run16, run17, run18, run19, run20, run21, run22, reduceCtorEq, Nat.reduceEqDiff, Nat.reduceAdd, Nat.reduceSub, Nat.reduceLeDiff, indexAddrA, indexRefA, appendA, strA, Nat.reduceMul, Nat.zero_mul, Nat.reduceMod, Int.reduceEq, Int.reduceLT, Int.reduceLE, Nat.reduceLT, Nat.lt_irrefl, Nat.reduceBEq, tys0, tys1, tys2, tys3, tys4, tys5, tys6, tys7, tys8, tys9, tys10, tys11, tys12, tys13, tys14, tys15, tys16, tys17, tys18, tys19, tys20, tys21, tys22, tys23, Try.ntmps135, Try.results135, e3]
    refine RunL.callp rfl rfl ok_f158 (hmk) (by first | rfl | simp only [pureL, pureB, Bool.and_self, Bool.and_true, Bool.true_and]) rfl ?_
    simp only [run0, run1, run2, run3, run4, run5, run6, run7, run8, run9, run10, run11, run12, run13, run14, run15, run16, run17, run18, run19, run20, run21, run22, reduceCtorEq, Nat.reduceEqDiff, Nat.reduceAdd, Nat.reduceSub, Nat.reduceLeDiff, indexAddrA, indexRefA, appendA, strA, Nat.reduceMul, Nat.zero_mul, Nat.reduceMod, Int.reduceEq, Int.reduceLT, Int.reduceLE, Nat.reduceLT, Nat.lt_irrefl, Nat.reduceBEq, tys0, tys1, tys2, tys3, tys4, tys5, tys6, tys7, tys8, tys9, tys10, tys11, tys12, tys13, tys14, tys15, tys16, tys17, tys18, tys19, tys20, tys21, tys22, tys23, Try.ntmps135, Try.results135, fr, hlen, setX, getL]
    exact Fin.own rfl rfl
  have f0 : (r == 0) = false := by simp [q0]
  by_cases q1 : r = 1
  · have f1 : (r == 1) = true := by simp [q1]
    obtain ⟨r2, p2, s2, ⟨a1, a2⟩, a3, c2⟩ := pick_ok code hc p1 (by omega) s1 9 (by omega) (by omega) _ id (hget (curB code p1 s1) (.box 42 [.int .i64 0, .int .i64 0]))
    rw [hset] at c2
    have e2 : IntKind.i64.wrap (r2 - 4) = r2 - 4 := w64_id (by omega) (by omega)
    refine ⟨r2 - 4, 1, p2, s2, by omega, ?_⟩
    refine Ct.by_ hmix [] Try.func135 rfl ?_
    simp only [run0, run1, run2, run3, run4, run5, run6, run7, run8, run9, run10, run11, run12, run13, run14, run15, run16, run17, run18, run19, run20, run21, run22, reduceCtorEq, Nat.reduceEqDiff, Nat.reduceAdd, Nat.reduceSub, Nat.reduceLeDiff, indexAddrA, indexRefA, appendA, strA, Nat.reduceMul, Nat.zero_mul, Nat.reduceMod, Int.reduceEq, Int.reduceLT, Int.reduceLE, Nat.reduceLT, Nat.lt_irrefl, Nat.reduceBEq, tys0, tys1, tys2, tys3, tys4, tys5, tys6, tys7, tys8, tys9, tys10, tys11, tys12, tys13, tys14, tys15, tys16, tys17, tys18, tys19, tys20, tys21, tys22, tys23, Try.ntmps135, Try.results135]
    refine RunL.callM rfl rfl ok_f134 rfl rfl c1 rfl ?_
    simp only [run0, run1, run2, run3, run4, run5, run6, run7, run8, run9, run10, run11, run12, run13, run14, run15, run16, run17, run18, run19, run20, run21, run22, reduceCtorEq, Nat.reduceEqDiff, Nat.reduceAdd, Nat.reduceSub, Nat.reduceLeDiff, indexAddrA, indexRefA, appendA, strA, Nat.reduceMul, Nat.zero_mul, Nat.reduceMod, Int.reduceEq, Int.reduceLT, Int.reduceLE, Nat.reduceLT, Nat.lt_irrefl, Nat.reduceBEq, tys0, tys1, tys2, tys3, tys4, tys5, tys6, tys7, tys8, tys9, tys10, tys11, tys12, tys13, tys14, tys15, tys16, tys17, tys18, tys19, tys20, tys21, tys22, tys23, Try.ntmps135, Try.results135, f0, f1]
    refine RunL.callM rfl rfl ok_f134 rfl rfl c2 rfl ?_
    simp only [run0, run1, run2, run3, run4, run5, run6, run7, run8, run9, run10, run11, run12, run13, run14, run15, run16, run17, run18, run19, run20, run21, run22, reduceCtorEq, Nat.reduceEqDiff, Nat.reduceAdd, Nat.reduceSub, Nat.reduceLeDiff, indexAddrA, indexRefA, appendA, strA, Nat.reduceMul, Nat.zero_mul, Nat.reduceMod, Int.reduceEq, Int.reduceLT, Int.reduceLE, Nat.reduceLT, Nat.lt_irrefl, Nat.reduceBEq, tys0, tys1, tys2, tys3, tys4, tys5, tys6, tys7, tys8, tys9, tys10, tys11, tys12, tys13, tys14, tys15, tys16, tys17, tys18, tys19, tys20, tys21, tys22, tys23, Try.ntmps135, Try.results135, e2]
    refine RunL.callp rfl rfl ok_f79 (shInt_ok (r2 - 4)) (by first | rfl | simp only [pureL, pureB, Bool.and_self, Bool.and_true, Bool.true_and]) rfl ?_
    simp only [run0, run1, run2, run3, run4, run5, run6, run7, run8, run9, run10, run11, run12, run13, run14, run15, run16, run17, run18, run19, run20, run21, run22, reduceCtorEq, Nat.reduceEqDiff, Nat.reduceAdd, Nat.reduceSub, Nat.reduceLeDiff, indexAddrA, indexRefA, appendA, strA, Nat.reduceMul, Nat.zero_mul, Nat.reduceMod, Int.reduceEq, Int.reduceLT, Int.reduceLE, Nat.reduceLT, Nat.lt_irrefl, Nat.reduceBEq, tys0, tys1, tys2, tys3, tys4, tys5, tys6, tys7, tys8, tys9, tys10, tys11, tys12, tys13, tys14, tys15, tys16, tys17, tys18, tys19, tys20, tys21, tys22, tys23, Try.ntmps135, Try.results135, fr, hlen, setX, getL]
    exact Fin.own rfl rfl
  have f1 : (r == 1) = false := by simp [q1]
  by_cases q2 : r = 2
  · have f2 : (r == 2) = true := by simp [q2]
    obtain ⟨r2, p2, s2, _, a3, c2⟩ := among_ok [0, 0, 2, -2, 1000000, -999999, -9223372036854775808, 1000001] false (by decide) (by decide) code hc p1 (by omega) s1 _ id (hget (curB code p1 s1) (.box 42 [.int .i64 0, .int .i64 0]))
    rw [hset] at c2
    obtain ⟨r3, p3, s3, _, b3, c3⟩ := among_ok [1, 1, 1, 3, 1000000, 0, -1, 1000001] false (by decide) (by decide) code hc p2 (by omega) s2 _ id (hget (curB code p2 s2) (.box 42 [.int .i64 0, .int .i64 0]))
    rw [hset] at c3
    refine ⟨r2, r3, p3, s3, by omega, ?_⟩
    refine Ct.by_ hmix [] Try.func135 rfl ?_
    simp only [run0, run1, run2, run3, run4, run5, run6, run7, run8, run9, run10, run11, run12, run13, run14, run15, run16, run17, run18, run19, run20, run21, run22, reduceCtorEq, Nat.reduceEqDiff, Nat.reduceAdd, Nat.reduceSub, Nat.reduceLeDiff, indexAddrA, indexRefA, appendA, strA, Nat.reduceMul, Nat.zero_mul, Nat.reduceMod, Int.reduceEq, Int.reduceLT, Int.reduceLE, Nat.reduceLT, Nat.lt_irrefl, Nat.reduceBEq, tys0, tys1, tys2, tys3, tys4, tys5, tys6, tys7, tys8, tys9, tys10, tys11, tys12, tys13, tys14, tys15, tys16, tys17, tys18, tys19, tys20, tys21, tys22, tys23, Try.ntmps135, Try.results135]
    refine RunL.callM rfl rfl ok_f134 rfl rfl c1 rfl ?_
    simp only [run0, run1, run2, run3, run4, run5, run6, run7, run8, run9, run10, run11, run12, run13, run14, run15, run16, run17, run18, run19, run20, run21, run22, reduceCtorEq, Nat.reduceEqDiff, Nat.reduceAdd, Nat.reduceSub, Nat.reduceLeDiff, indexAddrA, indexRefA, appendA, strA, Nat.reduceMul, Nat.zero_mul, Nat.reduceMod, Int.reduceEq, Int.reduceLT, Int.reduceLE, Nat.reduceLT, Nat.lt_irrefl, Nat.reduceBEq, tys0, tys1, tys2, tys3, tys4, tys5, tys6, tys7, tys8, tys9, tys10, tys11, tys12, tys13, tys14, tys15, tys16, tys17, tys18, tys19, tys20, tys21, tys22, tys23, Try.ntmps135, Try.results135, f0, f1, f2]
    refine RunL.callM rfl rfl ok_f159 rfl rfl c2 rfl ?_
    simp only [run0, run1, run2, run3, run4, run5, run6, run7, run8, run9, run10, run11, run12, run13, run14, run15, run16, run17, run18, run19, run20, run21, run22, reduceCtorEq, Nat.reduceEqDiff, Nat.reduceAdd, Nat.reduceSub, Nat.reduceLeDiff, indexAddrA, indexRefA, appendA, strA, Nat.reduceMul, Nat.zero_mul, Nat.reduceMod, Int.reduceEq, Int.reduceLT, Int.reduceLE, Nat.reduceLT, Nat.lt_irrefl, Nat.reduceBEq, tys0, tys1, tys2, tys3, tys4, tys5, tys6, tys7, tys8, tys9, tys10, tys11, tys12, tys13, tys14, tys15, tys16, tys17, tys18, tys19, tys20, tys21, tys22, tys23, Try.ntmps135, Try.results135]
    refine RunL.callM rfl rfl ok_f159 rfl rfl c3 rfl ?_
    simp only [run0, run1, run2, run3, run4, run5, run6, run7, run8, run9, run10, run11, run12, run13, run14, run15, run16, run17, run18, run19, run20, run21, run22, reduceCtorEq, Nat.reduceEqDiff, Nat.reduceAdd, Nat.reduceSub, Nat.reduceLeDiff, indexAddrA, indexRefA, appendA, strA, Nat.reduceMul, Nat.zero_mul, Nat.reduceMod, Int.reduceEq, Int.reduceLT, Int.reduceLE, Nat.reduceLT, Nat.lt_irrefl, Nat.reduceBEq, tys0, tys1, tys2, tys3, tys4, tys5, tys6, tys7, tys8, tys9, tys10, tys11, tys12, tys13, tys14, tys15, tys16, tys17, tys18, tys19, tys20, tys21, tys22, tys23, Try.ntmps135, Try.results135, hlen, setX, getL]
    exact Fin.own rfl rfl
  have f2 : (r == 2) = false := by simp [q2]
  by_cases q3 : r = 3
  · have f3 : (r == 3) = true := by simp [q3]
    obtain ⟨r2, p2, s2, ⟨a1, a2⟩, a3, c2⟩ := pick_ok code hc p1 (by omega) s1 2000 (by omega) (by omega) _ id (hget (curB code p1 s1) (.box 42 [.int .i64 0, .int .i64 0]))
    rw [hset] at c2
    obtain ⟨r3, p3, s3, ⟨b1, b2⟩, b3, c3⟩ := pick_ok code hc p2 (by omega) s2 2000 (by omega) (by omega) _ id (hget (curB code p2 s2) (.box 42 [.int .i64 0, .int .i64 0]))
    rw [hset] at c3
    have e2 : IntKind.i64.wrap (r2 - 1000) = r2 - 1000 := w64_id (by omega) (by omega)
    have e3 : IntKind.i64.wrap (1 + r3) = 1 + r3 := w64_id (by omega) (by omega)
    have hmk := shMake_ok (r2 - 1000) (1 + r3) (by omega) ⟨by omega, by omega⟩
    refine ⟨mkN (r2 - 1000) (1 + r3), mkD (r2 - 1000) (1 + r3), p3, s3, by omega, ?_⟩
    refine Ct.by_ hmix [] Try.func135 rfl ?_
    simp only [run0, run1, run2, run3, run4, run5, run6, run7, run8, run9, run10, run11, run12, run13, run14, run15, run16, run17, run18, run19, run20, run21, run22, reduceCtorEq, Nat.reduceEqDiff, Nat.reduceAdd, Nat.reduceSub, Nat.reduceLeDiff, indexAddrA, indexRefA, appendA, strA, Nat.reduceMul, Nat.zero_mul, Nat.reduceMod, Int.reduceEq, Int.reduceLT, Int.reduceLE, Nat.reduceLT, Nat.lt_irrefl, Nat.reduceBEq, tys0, tys1, tys2, tys3, tys4, tys5, tys6, tys7, tys8, tys9, tys10, tys11, tys12, tys13, tys14, tys15, tys16, tys17, tys18, tys19, tys20, tys21, tys22, tys23, Try.ntmps135, Try.results135]
    refine RunL.callM rfl rfl ok_f134 rfl rfl c1 rfl ?_
    simp only [run0, run1, run2, run3, run4, run5, run6, run7, run8, run9, run10, run11, run12, run13, run14, run15, run16, run17, run18, run19, run20, run21, run22, reduceCtorEq, Nat.reduceEqDiff, Nat.reduceAdd, Nat.reduceSub, Nat.reduceLeDiff, indexAddrA, indexRefA, appendA, strA, Nat.reduceMul, Nat.zero_mul, Nat.reduceMod, Int.reduceEq, Int.reduceLT, Int.reduceLE, Nat.reduceLT, Nat.lt_irrefl, Nat.reduceBEq, tys0, tys1, tys2, tys3, tys4, tys5, tys6, tys7, tys8, tys9, tys10, tys11, tys12, tys13, tys14, tys15, tys16, tys17, tys18, tys19, tys20, tys21, tys22, tys23, Try.ntmps135, Try.results135, f0, f1, f2, f3]
    refine RunL.callM rfl rfl ok_f134 rfl rfl c2 rfl ?_
    simp only [run0, run1, run2, run3, run4, run5, run6, run7, run8, run9, run10, run11, run12, run13, run14, run15, run16, run17, run18, run19, run20, run21, run22, reduceCtorEq, Nat.reduceEqDiff, Nat.reduceAdd, Nat.reduceSub, Nat.reduceLeDiff, indexAddrA, indexRefA, appendA, strA, Nat.reduceMul, Nat.zero_mul, Nat.reduceMod, Int.reduceEq, Int.reduceLT, Int.reduceLE, Nat.reduceLT, Nat.lt_irrefl, Nat.reduceBEq, tys0, tys1, tys2, tys3, tys4, tys5, tys6, tys7, tys8, tys9, tys10, tys11, tys12, tys13, tys14, tys15, tys16, tys17, tys18, tys19, tys20, tys21, tys22, tys23, Try.ntmps135, Try.results135, e2]
    refine RunL.callM rfl rfl ok_f134 rfl rfl c3 rfl ?_
    simp only [run0, run1, run2, run3, run4, run5, run6, run7, run8, run9, run10, run11, run12, run13, run14, run15, run16, run17, run18, run19, run20, run21, run22, reduceCtorEq, Nat.reduceEqDiff, Nat.reduceAdd, Nat.reduceSub, Nat.reduceLeDiff, indexAddrA, indexRefA, appendA, strA, Nat.reduceMul, Nat.zero_mul, Nat.reduceMod, Int.reduceEq, Int.reduceLT, Int.reduceLE, Nat.reduceLT, Nat.lt_irrefl, Nat.reduceBEq, tys0, tys1, tys2, tys3, tys4, tys5, tys6, tys7, tys8, tys9, tys10, tys11, tys12, tys13, tys14, tys15, tys16, tys17, tys18, tys19, tys20, tys21, tys22, tys23, Try.ntmps135, Try.results135, e3]
    refine RunL.callp rfl rfl ok_f158 (hmk) (by first | rfl | simp only [pureL, pureB, Bool.and_self, Bool.and_true, Bool.true_and]) rfl ?_
    simp only [run0, run1, run2, run3, run4, run5, run6, run7, run8, run9, run10, run11, run12, run13, run14, run15, run16, run17, run18, run19, run20, run21, run22, reduceCtorEq, Nat.reduceEqDiff, Nat.reduceAdd, Nat.reduceSub, Nat.reduceLeDiff, indexAddrA, indexRefA, appendA, strA, Nat.reduceMul, Nat.zero_mul, Nat.reduceMod, Int.reduceEq, Int.reduceLT, Int.reduceLE, Nat.reduceLT, Nat.lt_irrefl, Nat.reduceBEq, tys0, tys1, tys2, tys3, tys4, tys5, tys6, tys7, tys8, tys9, tys10, tys11, tys12, tys13, tys14, tys15, tys16, tys17, tys18, tys19, tys20, tys21, tys22, tys23, Try.ntmps135, Try.results135, fr, hlen, setX, getL]
    exact Fin.own rfl rfl
  have f3 : (r == 3) = false := by simp [q3]
  obtain ⟨m, p2, s2, hm, a3, c2⟩ := among_ok [2, 4, 8, 20] false (by decide) (by decide) code hc p1 (by omega) s1 _ id (hget (curB code p1 s1) (.box 42 [.int .i64 0, .int .i64 0]))
  rw [hset] at c2
  have hm2 : 1 ≤ m ∧ m ≤ 20 := by
    simp only [List.mem_cons, List.not_mem_nil, or_false] at hm
    omega
  obtain ⟨w, p3, s3, hw, b3, c3⟩ := word_ok code hc p2 (by omega) s2 m hm2.1 hm2.2 _ id (hget (curB code p2 s2) (.box 42 [.int .i64 0, .int .i64 0]))
  rw [hset] at c3
  have hv := shValue_ok w (by omega) (fun k hk => swAt_ok w k (by omega))
  refine ⟨(swAt w w.size).an, (swAt w w.size).ad, p3, s3, by omega, ?_⟩
  refine Ct.by_ hmix [] Try.func135 rfl ?_
  simp only [run0, run1, run2, run3, run4, run5, run6, run7, run8, run9, run10, run11, run12, run13, run14, run15, run16, run17, run18, run19, run20, run21, run22, reduceCtorEq, Nat.reduceEqDiff, Nat.reduceAdd, Nat.reduceSub, Nat.reduceLeDiff, indexAddrA, indexRefA, appendA, strA, Nat.reduceMul, Nat.zero_mul, Nat.reduceMod, Int.reduceEq, Int.reduceLT, Int.reduceLE, Nat.reduceLT, Nat.lt_irrefl, Nat.reduceBEq, tys0, tys1, tys2, tys3, tys4, tys5, tys6, tys7, tys8, tys9, tys10, tys11, tys12, tys13, tys14, tys15, tys16, tys17, tys18, tys19, tys20, tys21, tys22, tys23, Try.ntmps135, Try.results135]
  refine RunL.callM rfl rfl ok_f134 rfl rfl c1 rfl ?_
  simp only [run0, run1, run2, run3, run4, run5, run6, run7, run8, run9, run10, run11, run12, run13, run14, run15, run16, run17, run18, run19, run20, run21, run22, reduceCtorEq, Nat.reduceEqDiff, Nat.reduceAdd, Nat.reduceSub, Nat.reduceLeDiff, indexAddrA, indexRefA, appendA, strA, Nat.reduceMul, Nat.zero_mul, Nat.reduceMod, Int.reduceEq, Int.reduceLT, Int.reduceLE, Nat.reduceLT, Nat.lt_irrefl, Nat.reduceBEq, tys0, tys1, tys2, tys3, tys4, tys5, tys6, tys7, tys8, tys9, tys10, tys11, tys12, tys13, tys14, tys15, tys16, tys17, tys18, tys19, tys20, tys21, tys22, tys23, Try.ntmps135, Try.results135, f0, f1, f2, f3]
  refine RunL.callM rfl rfl ok_f159 rfl rfl c2 rfl ?_
  simp only [run0, run1, run2, run3, run4, run5, run6, run7, run8, run9, run10, run11, run12, run13, run14, run15, run16, run17, run18, run19, run20, run21, run22, reduceCtorEq, Nat.reduceEqDiff, Nat.reduceAdd, Nat.reduceSub, Nat.reduceLeDiff, indexAddrA, indexRefA, appendA, strA, Nat.reduceMul, Nat.zero_mul, Nat.reduceMod, Int.reduceEq, Int.reduceLT, Int.reduceLE, Nat.reduceLT, Nat.lt_irrefl, Nat.reduceBEq, tys0, tys1, tys2, tys3, tys4, tys5, tys6, tys7, tys8, tys9, tys10, tys11, tys12, tys13, tys14, tys15, tys16, tys17, tys18, tys19, tys20, tys21, tys22, tys23, Try.ntmps135, Try.results135]
  refine RunL.callM rfl rfl ok_f160 rfl rfl c3 rfl ?_
  simp only [run0, run1, run2, run3, run4, run5, run6, run7, run8, run9, run10, run11, run12, run13, run14, run15, run16, run17, run18, run19, run20, run21, run22, reduceCtorEq, Nat.reduceEqDiff, Nat.reduceAdd, Nat.reduceSub, Nat.reduceLeDiff, indexAddrA, indexRefA, appendA, strA, Nat.reduceMul, Nat.zero_mul, Nat.reduceMod, Int.reduceEq, Int.reduceLT, Int.reduceLE, Nat.reduceLT, Nat.lt_irrefl, Nat.reduceBEq, tys0, tys1, tys2, tys3, tys4, tys5, tys6, tys7, tys8, tys9, tys10, tys11, tys12, tys13, tys14, tys15, tys16, tys17, tys18, tys19, tys20, tys21, tys22, tys23, Try.ntmps135, Try.results135]
  refine RunL.callp rfl rfl ok_f118 (hv) (by first | rfl | simp only [pureL, pureB, Bool.and_self, Bool.and_true, Bool.true_and]) rfl ?_
  simp only [run0, run1, run2, run3, run4, run5, run6, run7, run8, run9, run10, run11, run12, run13, run14, run15, run16, run17, run18, run19, run20, run21, run22, reduceCtorEq, Nat.reduceEqDiff, Nat.reduceAdd, Nat.reduceSub, Nat.reduceLeDiff, indexAddrA, indexRefA, appendA, strA, Nat.reduceMul, Nat.zero_mul, Nat.reduceMod, Int.reduceEq, Int.reduceLT, Int.reduceLE, Nat.reduceLT, Nat.lt_irrefl, Nat.reduceBEq, tys0, tys1, tys2, tys3, tys4, tys5, tys6, tys7, tys8, tys9, tys10, tys11, tys12, tys13, tys14, tys15, tys16, tys17, tys18, tys19, tys20, tys21, tys22, tys23, Try.ntmps135, Try.results135, fr, hlen, setX, getL]
  exact Fin.own rfl rfl

end Go.Proofs.Ytllcljajlemmaaa
/-
  Fractions: sums and products are undone. No program in sight.
-/
namespace Go.Proofs.Ytllcljajlemmaaa
open Go K
set_option linter.unusedSimpArgs false
set_option linter.unusedVariables false
set_option maxHeartbeats 400000

theorem good_prod {a b c d : Int} (h1 : goodB a b = true) (h2 : goodB c d = true) : w64 (b * d) = b * d ∧ 0 < b * d ∧ (b * d).natAbs ≤ 1000000000000 ∧ w64 (a * d) = a * d ∧ w64 (c * b) = c * b ∧ (a * d).natAbs ≤ 1000000000000 ∧ (c * b).natAbs ≤ 1000000000000 ∧ w64 (a * c) = a * c ∧ (a * c).natAbs ≤ 1000000000000 := by
  have r1 := good_range h1
  have r2 := good_range h2
  have q1 := mul_le (a := b) (b := d) (A := 1000000) (B := 1000000) (by omega) (by omega)
  have q2 := mul_le (a := a) (b := d) (A := 1000000) (B := 1000000) (by omega) (by omega)
  have q3 := mul_le (a := c) (b := b) (A := 1000000) (B := 1000000) (by omega) (by omega)
  have q4 := mul_le (a := a) (b := c) (A := 1000000) (B := 1000000) (by omega) (by omega)
  have q5 : 0 < b * d := Int.mul_pos (by omega) (by omega)
  exact ⟨w64_small (by omega), q5, by omega, w64_small (by omega), w64_small (by omega), by omega, by omega, w64_small (by omega), by omega⟩
theorem addN_eq {a b c d : Int} (h1 : goodB a b = true) (h2 : goodB c d = true) : addN a b c d = a * d + c * b := by
  obtain ⟨_, _, _, e1, e2, b1, b2, _, _⟩ := good_prod h1 h2
  unfold addN; rw [e1, e2, w64_small (by omega)]
theorem subN_eq {a b c d : Int} (h1 : goodB a b = true) (h2 : goodB c d = true) : subN a b c d = a * d - c * b := by
  obtain ⟨_, _, _, e1, e2, b1, b2, _, _⟩ := good_prod h1 h2
  unfold subN; rw [e1, e2, w64_small (by omega)]

/-- A sum, less the one, is the other. -/
theorem sum_back {a b c d : Int} (h1 : goodB a b = true) (h2 : goodB c d = true) (h3 : mkOk (addN a b c d) (w64 (b * d)) = true) :
    mkN (subN (mkN (addN a b c d) (w64 (b * d))) (mkD (addN a b c d) (w64 (b * d))) c d) (w64 (mkD (addN a b c d) (w64 (b * d)) * d)) = a ∧
    mkD (subN (mkN (addN a b c d) (w64 (b * d))) (mkD (addN a b c d) (w64 (b * d))) c d) (w64 (mkD (addN a b c d) (w64 (b * d)) * d)) = b := by
  have r1 := good_range h1
  obtain ⟨e1, p1, b1, e2, e3, b2, b3, _, _⟩ := good_prod h1 h2
  obtain ⟨g, hg, en, ed, hd, _, _, _⟩ := mk_spec (n := addN a b c d) (d := w64 (b * d)) (by rw [e1]; exact p1) ⟨by rw [addN_eq h1 h2]; omega, by rw [e1]; omega⟩
  unfold mkOk at h3
  generalize mkN (addN a b c d) (w64 (b * d)) = s at *
  generalize mkD (addN a b c d) (w64 (b * d)) = t at *
  rw [addN_eq h1 h2] at en
  rw [e1] at ed
  have hr := good_range h3
  obtain ⟨f1, q1, c1, f2, f3, c2, c3, _, _⟩ := good_prod h3 h2
  rw [subN_eq h3 h2, f1]
  obtain ⟨s1, s2⟩ := mk_self h1
  have := mk_ratio (n1 := s * d - c * t) (d1 := t * d) (n2 := a) (d2 := b) q1 (by omega) ⟨by omega, by omega⟩ ⟨by omega, by omega⟩ (by
    have hx : s * (b * d) = (a * d + c * b) * t := by rw [en, ed]; ac_rfl
    rw [Int.sub_mul]
    have h4 : s * d * b = s * (b * d) := by ac_rfl
    have h5 : (a * d + c * b) * t = a * (t * d) + c * t * b := by rw [Int.add_mul]; congr 1 <;> ac_rfl
    rw [h4, hx, h5]; omega)
  rw [s1, s2] at this
  exact this
/-- The sign of a difference. -/
theorem diff_sign {a b c d : Int} (h1 : goodB a b = true) (h2 : goodB c d = true) :
    (0 < cmpI (w64 (w64 (a * d) - w64 (c * b))) 0 → 0 < mkN (subN a b c d) (w64 (b * d))) ∧ (cmpI (w64 (w64 (a * d) - w64 (c * b))) 0 < 0 → mkN (subN a b c d) (w64 (b * d)) < 0) ∧ (cmpI (w64 (w64 (a * d) - w64 (c * b))) 0 = 0 → mkN (subN a b c d) (w64 (b * d)) = 0) := by
  obtain ⟨e1, p1, b1, e2, e3, b2, b3, _, _⟩ := good_prod h1 h2
  obtain ⟨g, hg, en, ed, hd, _, _, _⟩ := mk_spec (n := subN a b c d) (d := w64 (b * d)) (by rw [e1]; exact p1) ⟨by rw [subN_eq h1 h2]; omega, by rw [e1]; omega⟩
  have hs : w64 (w64 (a * d) - w64 (c * b)) = subN a b c d := rfl
  rw [hs]
  generalize subN a b c d = z at *
  generalize mkN z (w64 (b * d)) = s at *
  have hc : (0 < cmpI z 0 → 0 < z) ∧ (cmpI z 0 < 0 → z < 0) ∧ (cmpI z 0 = 0 → z = 0) := by
    unfold cmpI
    (repeat' split) <;> omega
  refine ⟨fun h => ?_, fun h => ?_, fun h => ?_⟩
  · have := hc.1 h
    refine Decidable.byContradiction fun hn => ?_
    have := Int.mul_nonpos_of_nonneg_of_nonpos (show 0 ≤ g by omega) (show s ≤ 0 by omega)
    omega
  · have := hc.2.1 h
    refine Decidable.byContradiction fun hn => ?_
    have := Int.mul_nonneg (show 0 ≤ g by omega) (show 0 ≤ s by omega)
    omega
  · have := hc.2.2 h
    rw [this] at en
    rcases Int.mul_eq_zero.1 en.symm with h | h
    · omega
    · exact h

/-- Parts with a divisor below 0. -/
theorem mk_neg {n d : Int} (hd : d < 0) (hs : small n d) : mkN n d = mkN (-n) (-d) ∧ mkD n d = mkD (-n) (-d) := by
  have h1 := gcdI_gcd (n := n) (d := d) (by omega) hs.1 hs.2
  have h2 := gcdI_gcd (n := -n) (d := -d) (by omega) (by have := hs.1; omega) (by have := hs.2; omega)
  rw [Int.natAbs_neg, Int.natAbs_neg] at h2
  have hp := gcdI_pos (n := n) (d := d) (by omega) hs.1 hs.2
  have hG : mkG n d = - gcdI n d := by
    unfold mkG; rw [if_pos hd]
    have := w64_id (x := 0 - gcdI n d) (by omega) (by omega)
    simp only [w64] at this
    rw [this]; omega
  have hG2 : mkG (-n) (-d) = gcdI n d := by unfold mkG; rw [if_neg (by omega), h2, h1]
  unfold mkN mkD
  rw [hG, hG2, Int.tdiv_neg, Int.tdiv_neg, Int.neg_tdiv, Int.neg_tdiv]
  exact ⟨rfl, rfl⟩
/-- A product over the one is the other. -/
theorem prod_back {a b c d : Int} (h1 : goodB a b = true) (h2 : goodB c d = true) (h0 : c ≠ 0) (h3 : mkOk (w64 (a * c)) (w64 (b * d)) = true) :
    mkN (w64 (mkN (w64 (a * c)) (w64 (b * d)) * d)) (w64 (mkD (w64 (a * c)) (w64 (b * d)) * c)) = a ∧
    mkD (w64 (mkN (w64 (a * c)) (w64 (b * d)) * d)) (w64 (mkD (w64 (a * c)) (w64 (b * d)) * c)) = b := by
  have r1 := good_range h1
  have r2 := good_range h2
  obtain ⟨e1, p1, b1, e2, e3, b2, b3, e4, b4⟩ := good_prod h1 h2
  obtain ⟨g, hg, en, ed, hd, _, _, _⟩ := mk_spec (n := w64 (a * c)) (d := w64 (b * d)) (by rw [e1]; exact p1) ⟨by rw [e4]; omega, by rw [e1]; omega⟩
  unfold mkOk at h3
  generalize mkN (w64 (a * c)) (w64 (b * d)) = s at *
  generalize mkD (w64 (a * c)) (w64 (b * d)) = t at *
  rw [e4] at en
  rw [e1] at ed
  have hr := good_range h3
  obtain ⟨f1, q1, c1, f2, f3, c2, c3, _, _⟩ := good_prod h3 h2
  rw [Int.mul_comm c t] at f3 c3
  rw [f2, f3]
  obtain ⟨s1, s2⟩ := mk_self h1
  have hx : s * d * b = a * (t * c) := by
    have : s * (b * d) = a * c * t := by rw [en, ed]; ac_rfl
    rw [show s * d * b = s * (b * d) by ac_rfl, this]; ac_rfl
  rcases Int.lt_trichotomy c 0 with hc | hc | hc
  · have hneg : t * c < 0 := Int.mul_neg_of_pos_of_neg (by omega) hc
    obtain ⟨m1, m2⟩ := mk_neg (n := s * d) (d := t * c) hneg ⟨by omega, by omega⟩
    rw [m1, m2]
    have := mk_ratio (n1 := -(s * d)) (d1 := -(t * c)) (n2 := a) (d2 := b) (by omega) (by omega) ⟨by omega, by omega⟩ ⟨by omega, by omega⟩ (by rw [Int.neg_mul, Int.mul_neg, hx])
    rw [s1, s2] at this
    exact this
  · exact absurd hc h0
  · have hpos : 0 < t * c := Int.mul_pos (by omega) hc
    have := mk_ratio (n1 := s * d) (d1 := t * c) (n2 := a) (d2 := b) hpos (by omega) ⟨by omega, by omega⟩ ⟨by omega, by omega⟩ hx
    rw [s1, s2] at this
    exact this

/-- The whole part. -/
def flF (a b : Int) : Int := if a < a.tdiv b * b then a.tdiv b - 1 else a.tdiv b
theorem flF_spec {a b : Int} (h : goodB a b = true) : w64 (a.tdiv b) = a.tdiv b ∧ w64 (a.tdiv b * b) = a.tdiv b * b ∧ w64 (a.tdiv b - 1) = a.tdiv b - 1 ∧ w64 (flF a b * b) = flF a b * b ∧ w64 (flF a b + 1) = flF a b + 1 ∧ w64 ((flF a b + 1) * b) = (flF a b + 1) * b ∧ flF a b * b ≤ a ∧ a < (flF a b + 1) * b := by
  have r := good_range h
  have h1 := Int.mul_tdiv_add_tmod a b
  have h2 := tmod_lt (a := a) (b := b) (by omega)
  have h3 : (a.tdiv b).natAbs ≤ a.natAbs := by rw [Int.natAbs_tdiv]; exact Nat.div_le_self _ _
  have hq : b * a.tdiv b = a.tdiv b * b := Int.mul_comm _ _
  rw [hq] at h1
  have hf : flF a b = if a < a.tdiv b * b then a.tdiv b - 1 else a.tdiv b := rfl
  generalize flF a b = f at *
  generalize a.tdiv b = q at *
  generalize a.tmod b = m at *
  have k1 : (q - 1) * b = q * b - b := by rw [Int.sub_mul, Int.one_mul]
  have k2 : (f + 1) * b = f * b + b := by rw [Int.add_mul, Int.one_mul]
  rw [k2]
  have hfb : f * b = if a < q * b then q * b - b else q * b := by
    rw [hf]; split
    · exact k1
    · rfl
  generalize q * b = z at *
  generalize f * b = y at *
  have hfr : f.natAbs ≤ 1000001 := by rw [hf]; split <;> omega
  have hyr : y.natAbs ≤ 4000000 := by rw [hfb]; split <;> omega
  refine ⟨w64_small (by omega), w64_small (by omega), w64_small (by omega), w64_small (by omega), w64_small (by omega), w64_small (by omega), ?_, ?_⟩
  · rw [hfb]; split <;> omega
  · rw [hfb]; split <;> omega

end Go.Proofs.Ytllcljajlemmaaa
/-
  Fractions: the law of draws: sums and products are undone, the order is the difference's sign, the whole part.
-/
namespace Go.Proofs.Ytllcljajlemmaaa
open Go K
set_option linter.unusedSimpArgs false
set_option linter.unusedVariables false
set_option maxHeartbeats 3200000
set_option maxRecDepth 8000

theorem bytes_list : ∀ es : List AV, (∀ x ∈ es, IsOf Try.prog 5 x) → ∃ l : List Int, es = bytesV l ∧ ∀ b ∈ l, 0 ≤ b ∧ b ≤ 255
  | [], _ => ⟨[], rfl, by simp⟩
  | x :: es, hes => by
    obtain ⟨l, rfl, h2⟩ := bytes_list es fun y hy => hes y (List.mem_cons_of_mem _ hy)
    obtain ⟨_, h⟩ := (hes x (List.mem_cons_self ..)).one ty_a5
    obtain ⟨i, e, hw⟩ := h.int Try.underlying5
    simp only [List.cons.injEq, and_true] at e
    subst e
    refine ⟨i :: l, rfl, fun b hb => ?_⟩
    rcases List.mem_cons.1 hb with rfl | hb
    · simp only [Lit.wf, Bool.and_eq_true, decide_eq_true_eq] at hw
      exact hw
    · exact h2 b hb
theorem laws_isBytes {x : AV} (h : IsOf Try.prog 55 x) : ∃ l : List Int, x = .sl false (bytesV l) ∧ (∀ b ∈ l, 0 ≤ b ∧ b ≤ 255) ∧ l.length ≤ maxLen := by
  obtain ⟨_, h⟩ := h.one ty_a55
  obtain ⟨es, e0, hel, hes⟩ := h.slice Try.underlying55
  simp only [List.cons.injEq, and_true] at e0
  subst e0
  obtain ⟨l, rfl, h2⟩ := bytes_list es hes
  exact ⟨l, rfl, h2, by simpa [bytesV] using hel⟩

theorem bytes_pure : ∀ l : List Int, pureL (bytesV l) = true
  | [] => rfl
  | x :: r => by
    have := bytes_pure r
    simp only [bytesV, List.map_cons, pureL, pureB, Bool.true_and] at this ⊢
    exact this
theorem maxLen_eq : maxLen = 9223372036854775807 := by decide
theorem big_ok (l m : List Int) (hl : l.length ≤ maxLen) (hm : m.length ≤ maxLen) : Ct Try.prog 37 [.sl false (bytesV l), .sl false (bytesV m)] [] (.bool (decide ((1048576 : Int) < l.length) || decide (1048576 - (l.length : Int) < m.length))) [] := by
  rw [maxLen_eq] at hl hm
  have e1 : (bytesV l).length = l.length := by simp [bytesV]
  have e2 : (bytesV m).length = m.length := by simp [bytesV]
  have e3 : IntKind.i64.wrap (1048576 - (l.length : Int)) = 1048576 - (l.length : Int) := w64_id (by omega) (by omega)
  refine Ct.by_ hmix [] Try.func37 rfl ?_
  by_cases h : (1048576 : Int) < l.length
  · simp only [run0, run1, run2, run3, run4, run5, run6, run7, run8, run9, run10, run11, run12, run13, run14, run15, run16, run17, run18, run19, run20, run21, run22, reduceCtorEq, Nat.reduceEqDiff, Nat.reduceAdd, Nat.reduceSub, Nat.reduceLeDiff, indexAddrA, indexRefA, appendA, strA, Nat.reduceMul, Nat.zero_mul, Nat.reduceMod, Int.reduceEq, Int.reduceLT, Int.reduceLE, Nat.reduceLT, Nat.lt_irrefl, Nat.reduceBEq, tys0, tys1, tys2, tys3, tys4, tys5, tys6, tys7, tys8, tys9, tys10, tys11, tys12, tys13, tys14, tys15, tys16, tys17, tys18, tys19, tys20, tys21, tys22, tys23, Try.ntmps37, Try.results37, e1, e2, h]
    exact Fin.eq (by simp) rfl
  · simp only [run0, run1, run2, run3, run4, run5, run6, run7, run8, run9, run10, run11, run12, run13, run14, run15, run16, run17, run18, run19, run20, run21, run22, reduceCtorEq, Nat.reduceEqDiff, Nat.reduceAdd, Nat.reduceSub, Nat.reduceLeDiff, indexAddrA, indexRefA, appendA, strA, Nat.reduceMul, Nat.zero_mul, Nat.reduceMod, Int.reduceEq, Int.reduceLT, Int.reduceLE, Nat.reduceLT, Nat.lt_irrefl, Nat.reduceBEq, tys0, tys1, tys2, tys3, tys4, tys5, tys6, tys7, tys8, tys9, tys10, tys11, tys12, tys13, tys14, tys15, tys16, tys17, tys18, tys19, tys20, tys21, tys22, tys23, Try.ntmps37, Try.results37, e1, e2, h, e3]
    exact Fin.eq (by simp) rfl

theorem opR_eq (ok : Bool) (n d : Int) : opR ok n d = .tup [fr (if ok && mkOk n d then mkN n d else 0) (if ok && mkOk n d then mkD n d else 0), .bool (ok && mkOk n d)] := rfl
end Go.Proofs.Ytllcljajlemmaaa
/-
  Cuts have reasons: drawn lists of fractions, and the law.
-/
namespace Go.Proofs.Ytllcljajlemmaaa
open Go K
set_option linter.unusedSimpArgs false
set_option linter.unusedVariables false
set_option maxHeartbeats 1600000
set_option maxRecDepth 8000

structure FsS where
  k : Nat
  d : List Fr
  p : Nat
  seed : Int
  X : List AObj
theorem fractions_ok (code : List Int) (hc : bytesOk code) (p : Nat) (hp : p ≤ 600000000) (seed : Int) (L : List AObj) (id : Nat) (hL : L[id]? = some (curB code p seed)) :
    ∃ (d : List Fr) (p' : Nat) (seed' : Int) (X : List AObj), d.length ≤ 4 ∧ p' ≤ p + 10000 ∧
      Ct Try.prog 85 [.ptr id 0, .int .i64 4] L (.ref L.length [] d.length d.length) (L.set id (curB code p' seed') ++ .vec 42 2 d.length (d.map frE) :: X) := by
  have hidl := (List.getElem?_eq_some_iff.1 hL).1
  have hlen : ∀ X, (L.set id X).length = L.length := fun X => by simp
  have hget : ∀ X Y, (L.set id X ++ Y)[id]? = some X := fun X Y => by rw [List.getElem?_append_left (by simpa using hidl)]; exact List.getElem?_set_self hidl
  have hset : ∀ X Y Z, (L.set id X ++ Y).set id Z = L.set id Z ++ Y := fun X Y Z => by rw [List.set_append_left _ _ (by simpa using hidl), List.set_set]
  have getL : ∀ X Y Z, (L.set id X ++ Y :: Z)[L.length]? = some Y := fun X Y Z => by
    rw [List.getElem?_append_right (by simp), hlen, Nat.sub_self]; rfl
  have setL : ∀ X Y Z W, (L.set id X ++ Y :: Z).set L.length W = L.set id X ++ W :: Z := fun X Y Z W => by
    rw [List.set_append_right _ _ (by simp), hlen, Nat.sub_self]; rfl
  obtain ⟨r, p1, s1, ⟨k1, k2⟩, k3, c1⟩ := pick_ok code hc p (by omega) seed 5 (by omega) (by omega) L id hL
  obtain ⟨n, rfl⟩ := Int.eq_ofNat_of_zero_le k1
  have w1 : IntKind.i64.wrap (4 + 1) = 5 := by decide
  suffices h : ∃ r L', Ct Try.prog 85 [.ptr id 0, .int .i64 4] L r L' ∧ ∃ (d : List Fr) (p' : Nat) (seed' : Int) (X : List AObj), d.length ≤ 4 ∧ p' ≤ p + 10000 ∧ r = .ref L.length [] d.length d.length ∧ L' = L.set id (curB code p' seed') ++ .vec 42 2 d.length (d.map frE) :: X by
    obtain ⟨r, L', h1, d, p', seed', X, h2, h3, rfl, rfl⟩ := h
    exact ⟨d, p', seed', X, h2, h3, h1⟩
  refine Ct.ex hmix [] Try.func85 rfl ?_
  simp only [run0, run1, run2, run3, run4, run5, run6, run7, run8, run9, run10, run11, run12, run13, run14, run15, run16, run17, run18, run19, run20, run21, run22, reduceCtorEq, Nat.reduceEqDiff, Nat.reduceAdd, Nat.reduceSub, Nat.reduceLeDiff, indexAddrA, indexRefA, appendA, strA, Nat.reduceMul, Nat.zero_mul, Nat.reduceMod, Int.reduceEq, Int.reduceLT, Int.reduceLE, Nat.reduceLT, Nat.lt_irrefl, Nat.reduceBEq, tys0, tys1, tys2, tys3, tys4, tys5, tys6, tys7, tys8, tys9, tys10, tys11, tys12, tys13, tys14, tys15, tys16, tys17, tys18, tys19, tys20, tys21, tys22, tys23, Try.ntmps85, Try.results85, w1]
  refine callM_ex rfl rfl ok_f134 rfl rfl c1 rfl ?_
  simp only [run0, run1, run2, run3, run4, run5, run6, run7, run8, run9, run10, run11, run12, run13, run14, run15, run16, run17, run18, run19, run20, run21, run22, reduceCtorEq, Nat.reduceEqDiff, Nat.reduceAdd, Nat.reduceSub, Nat.reduceLeDiff, indexAddrA, indexRefA, appendA, strA, Nat.reduceMul, Nat.zero_mul, Nat.reduceMod, Int.reduceEq, Int.reduceLT, Int.reduceLE, Nat.reduceLT, Nat.lt_irrefl, Nat.reduceBEq, tys0, tys1, tys2, tys3, tys4, tys5, tys6, tys7, tys8, tys9, tys10, tys11, tys12, tys13, tys14, tys15, tys16, tys17, tys18, tys19, tys20, tys21, tys22, tys23, Try.ntmps85, Try.results85]
  refine AWp.nil_ex 5 42 2 rfl ?_
  simp only [List.length_set]
  refine AWp.loop_exK (ι := FsS) (fun q => ⟨[.ptr id 0, .junk, .junk, .junk, nilV, .ref L.length [] q.d.length q.d.length, .int .i64 q.k, .junk, .junk, .junk, .junk, .junk, .junk, .junk, .junk, .junk, .junk, .junk, .junk, .junk, .junk], L.set id (curB code q.p q.seed) ++ .vec 42 2 q.d.length (q.d.map frE) :: q.X⟩)
    (fun q => q.d.length + q.k ≤ 4 ∧ q.p + 1000 * q.k ≤ p + 5000) (fun q => q.k) ⟨n, [], p1, s1, []⟩ ⟨by show 0 + n ≤ 4; omega, by simp only; omega⟩ ⟨by repeat constructor, rfl⟩ ?_
  rintro ⟨k, d, q, sd, X⟩ ⟨h1, h2⟩
  simp only at h1 h2
  cases k with
  | zero =>
    left
    refine ⟨.ref L.length [] d.length d.length, L.set id (curB code q sd) ++ .vec 42 2 d.length (d.map frE) :: X, ?_, d, q, sd, X, by omega, by omega, rfl, rfl⟩
    refine W.sound hmix (E := []) ?_
    simp only [run0, run1, run2, run3, run4, run5, run6, run7, run8, run9, run10, run11, run12, run13, run14, run15, run16, run17, run18, run19, run20, run21, run22, reduceCtorEq, Nat.reduceEqDiff, Nat.reduceAdd, Nat.reduceSub, Nat.reduceLeDiff, indexAddrA, indexRefA, appendA, strA, Nat.reduceMul, Nat.zero_mul, Nat.reduceMod, Int.reduceEq, Int.reduceLT, Int.reduceLE, Nat.reduceLT, Nat.lt_irrefl, Nat.reduceBEq, tys0, tys1, tys2, tys3, tys4, tys5, tys6, tys7, tys8, tys9, tys10, tys11, tys12, tys13, tys14, tys15, tys16, tys17, tys18, tys19, tys20, tys21, tys22, tys23, Try.ntmps85, Try.results85, Int.natCast_zero, Int.lt_irrefl]
    exact Fin.own rfl rfl
  | succ k =>
    right
    obtain ⟨a, b, p2, s2, hp2, c2⟩ := fraction_ok code hc q (by omega) sd _ id (hget (curB code q sd) (.vec 42 2 d.length (d.map frE) :: X))
    rw [hset] at c2
    refine ⟨⟨k, d ++ [(a, b)], p2, s2, X ++ [.box 42 [.int .i64 a, .int .i64 b]]⟩, ⟨by simp only [List.length_append, List.length_cons, List.length_nil]; omega, by simp only; omega⟩, by simp only; omega, ?_⟩
    refine W.sound hmix (E := []) ?_
    have e1 : (0 : Int) < ((k + 1 : Nat) : Int) := by omega
    have e2 : IntKind.i64.wrap (((k + 1 : Nat) : Int) - 1) = (k : Int) := by
      have := w64_id (x := ((k + 1 : Nat) : Int) - 1) (by omega) (by omega)
      simp only [w64] at this
      rw [this]; omega
    have f3 : d.length + 1 ≤ 137438953472 := by omega
    have f4 := frs_noOwn d
    simp only [run0, run1, run2, run3, run4, run5, run6, run7, run8, run9, run10, run11, run12, run13, run14, run15, run16, run17, run18, run19, run20, run21, run22, reduceCtorEq, Nat.reduceEqDiff, Nat.reduceAdd, Nat.reduceSub, Nat.reduceLeDiff, indexAddrA, indexRefA, appendA, strA, Nat.reduceMul, Nat.zero_mul, Nat.reduceMod, Int.reduceEq, Int.reduceLT, Int.reduceLE, Nat.reduceLT, Nat.lt_irrefl, Nat.reduceBEq, tys0, tys1, tys2, tys3, tys4, tys5, tys6, tys7, tys8, tys9, tys10, tys11, tys12, tys13, tys14, tys15, tys16, tys17, tys18, tys19, tys20, tys21, tys22, tys23, Try.ntmps85, Try.results85, e1]
    refine RunL.callM rfl rfl ok_f135 rfl rfl c2 rfl ?_
    simp only [run0, run1, run2, run3, run4, run5, run6, run7, run8, run9, run10, run11, run12, run13, run14, run15, run16, run17, run18, run19, run20, run21, run22, reduceCtorEq, Nat.reduceEqDiff, Nat.reduceAdd, Nat.reduceSub, Nat.reduceLeDiff, indexAddrA, indexRefA, appendA, strA, Nat.reduceMul, Nat.zero_mul, Nat.reduceMod, Int.reduceEq, Int.reduceLT, Int.reduceLE, Nat.reduceLT, Nat.lt_irrefl, Nat.reduceBEq, tys0, tys1, tys2, tys3, tys4, tys5, tys6, tys7, tys8, tys9, tys10, tys11, tys12, tys13, tys14, tys15, tys16, tys17, tys18, tys19, tys20, tys21, tys22, tys23, Try.ntmps85, Try.results85, fr, e2, f3, f4, List.append_assoc, List.cons_append, getL, setL, List.length_map, Int.toNat_natCast, Int.natCast_nonneg]
    exact ⟨by repeat constructor, by simp [frE]⟩
theorem drawCut_ok (code : List Int) (hc : bytesOk code) : ∃ (l r : List Fr), l.length ≤ 4 ∧ r.length ≤ 4 ∧ Ct Try.prog 38 [.sl false (bytesV code)] [] (.tup [.sl false (l.map frE), .sl false (r.map frE)]) [] := by
  obtain ⟨l, p1, s1, X, h1, h2, c1⟩ := fractions_ok code hc 0 (by omega) 0 [curB code 0 0] 0 rfl
  simp only [List.set_cons_zero, List.length_cons, List.length_nil, List.cons_append, List.nil_append] at c1
  obtain ⟨r, p2, s2, Y, h3, h4, c2⟩ := fractions_ok code hc p1 (by omega) s1 (curB code p1 s1 :: .vec 42 2 l.length (l.map frE) :: X) 0 rfl
  simp only [List.set_cons_zero, List.length_cons, List.length_nil, List.cons_append, List.nil_append] at c2
  refine ⟨l, r, h1, h3, ?_⟩
  refine Ct.by_ hmix [] Try.func38 rfl ?_
  simp only [run0, run1, run2, run3, run4, run5, run6, run7, run8, run9, run10, run11, run12, run13, run14, run15, run16, run17, run18, run19, run20, run21, run22, reduceCtorEq, Nat.reduceEqDiff, Nat.reduceAdd, Nat.reduceSub, Nat.reduceLeDiff, indexAddrA, indexRefA, appendA, strA, Nat.reduceMul, Nat.zero_mul, Nat.reduceMod, Int.reduceEq, Int.reduceLT, Int.reduceLE, Nat.reduceLT, Nat.lt_irrefl, Nat.reduceBEq, tys0, tys1, tys2, tys3, tys4, tys5, tys6, tys7, tys8, tys9, tys10, tys11, tys12, tys13, tys14, tys15, tys16, tys17, tys18, tys19, tys20, tys21, tys22, tys23, Try.ntmps38, Try.results38]
  refine RunL.callM rfl rfl ok_f85 rfl rfl c1 rfl ?_
  simp only [run0, run1, run2, run3, run4, run5, run6, run7, run8, run9, run10, run11, run12, run13, run14, run15, run16, run17, run18, run19, run20, run21, run22, reduceCtorEq, Nat.reduceEqDiff, Nat.reduceAdd, Nat.reduceSub, Nat.reduceLeDiff, indexAddrA, indexRefA, appendA, strA, Nat.reduceMul, Nat.zero_mul, Nat.reduceMod, Int.reduceEq, Int.reduceLT, Int.reduceLE, Nat.reduceLT, Nat.lt_irrefl, Nat.reduceBEq, tys0, tys1, tys2, tys3, tys4, tys5, tys6, tys7, tys8, tys9, tys10, tys11, tys12, tys13, tys14, tys15, tys16, tys17, tys18, tys19, tys20, tys21, tys22, tys23, Try.ntmps38, Try.results38]
  refine RunL.callM rfl rfl ok_f85 rfl rfl c2 rfl ?_
  simp only [run0, run1, run2, run3, run4, run5, run6, run7, run8, run9, run10, run11, run12, run13, run14, run15, run16, run17, run18, run19, run20, run21, run22, reduceCtorEq, Nat.reduceEqDiff, Nat.reduceAdd, Nat.reduceSub, Nat.reduceLeDiff, indexAddrA, indexRefA, appendA, strA, Nat.reduceMul, Nat.zero_mul, Nat.reduceMod, Int.reduceEq, Int.reduceLT, Int.reduceLE, Nat.reduceLT, Nat.lt_irrefl, Nat.reduceBEq, tys0, tys1, tys2, tys3, tys4, tys5, tys6, tys7, tys8, tys9, tys10, tys11, tys12, tys13, tys14, tys15, tys16, tys17, tys18, tys19, tys20, tys21, tys22, tys23, Try.ntmps38, Try.results38]
  exact Fin.value (.tup (.cons (Vw_frs (T := 42) (by rfl) rfl rfl) (.cons (Vw_frs (T := 42) (by simp only [List.getElem?_cons_succ, List.getElem?_append_right, Nat.le_refl, Nat.sub_self, List.getElem?_cons_zero]) rfl rfl) .nil)))
theorem simplestOf_ok (l r : List Fr) (hl : l.length ≤ 1048576) (hr : r.length ≤ 1048576) : Ct Try.prog 39 [.sl false (l.map frE), .sl false (r.map frE)] [] (if goodL l && goodL r then simR l r else .tup [frE (0, 0), .bool false]) [] := by
  have pl := frs_pure l
  have pr := frs_pure r
  refine Ct.by_ hmix [] Try.func39 rfl ?_
  simp only [run0, run1, run2, run3, run4, run5, run6, run7, run8, run9, run10, run11, run12, run13, run14, run15, run16, run17, run18, run19, run20, run21, run22, reduceCtorEq, Nat.reduceEqDiff, Nat.reduceAdd, Nat.reduceSub, Nat.reduceLeDiff, indexAddrA, indexRefA, appendA, strA, Nat.reduceMul, Nat.zero_mul, Nat.reduceMod, Int.reduceEq, Int.reduceLT, Int.reduceLE, Nat.reduceLT, Nat.lt_irrefl, Nat.reduceBEq, tys0, tys1, tys2, tys3, tys4, tys5, tys6, tys7, tys8, tys9, tys10, tys11, tys12, tys13, tys14, tys15, tys16, tys17, tys18, tys19, tys20, tys21, tys22, tys23, Try.ntmps39, Try.results39]
  refine RunL.callp rfl rfl ok_f81 (fractionsOk_ok l hl) (by simp only [pureL, pureB, pl, Bool.and_self]) rfl ?_
  cases h1 : goodL l
  · simp only [run0, run1, run2, run3, run4, run5, run6, run7, run8, run9, run10, run11, run12, run13, run14, run15, run16, run17, run18, run19, run20, run21, run22, reduceCtorEq, Nat.reduceEqDiff, Nat.reduceAdd, Nat.reduceSub, Nat.reduceLeDiff, indexAddrA, indexRefA, appendA, strA, Nat.reduceMul, Nat.zero_mul, Nat.reduceMod, Int.reduceEq, Int.reduceLT, Int.reduceLE, Nat.reduceLT, Nat.lt_irrefl, Nat.reduceBEq, tys0, tys1, tys2, tys3, tys4, tys5, tys6, tys7, tys8, tys9, tys10, tys11, tys12, tys13, tys14, tys15, tys16, tys17, tys18, tys19, tys20, tys21, tys22, tys23, Try.ntmps39, Try.results39]
    exact Fin.eq rfl rfl
  simp only [run0, run1, run2, run3, run4, run5, run6, run7, run8, run9, run10, run11, run12, run13, run14, run15, run16, run17, run18, run19, run20, run21, run22, reduceCtorEq, Nat.reduceEqDiff, Nat.reduceAdd, Nat.reduceSub, Nat.reduceLeDiff, indexAddrA, indexRefA, appendA, strA, Nat.reduceMul, Nat.zero_mul, Nat.reduceMod, Int.reduceEq, Int.reduceLT, Int.reduceLE, Nat.reduceLT, Nat.lt_irrefl, Nat.reduceBEq, tys0, tys1, tys2, tys3, tys4, tys5, tys6, tys7, tys8, tys9, tys10, tys11, tys12, tys13, tys14, tys15, tys16, tys17, tys18, tys19, tys20, tys21, tys22, tys23, Try.ntmps39, Try.results39]
  refine RunL.callp rfl rfl ok_f81 (fractionsOk_ok r hr) (by simp only [pureL, pureB, pr, Bool.and_self]) rfl ?_
  cases h2 : goodL r
  · simp only [run0, run1, run2, run3, run4, run5, run6, run7, run8, run9, run10, run11, run12, run13, run14, run15, run16, run17, run18, run19, run20, run21, run22, reduceCtorEq, Nat.reduceEqDiff, Nat.reduceAdd, Nat.reduceSub, Nat.reduceLeDiff, indexAddrA, indexRefA, appendA, strA, Nat.reduceMul, Nat.zero_mul, Nat.reduceMod, Int.reduceEq, Int.reduceLT, Int.reduceLE, Nat.reduceLT, Nat.lt_irrefl, Nat.reduceBEq, tys0, tys1, tys2, tys3, tys4, tys5, tys6, tys7, tys8, tys9, tys10, tys11, tys12, tys13, tys14, tys15, tys16, tys17, tys18, tys19, tys20, tys21, tys22, tys23, Try.ntmps39, Try.results39]
    exact Fin.eq rfl rfl
  simp only [run0, run1, run2, run3, run4, run5, run6, run7, run8, run9, run10, run11, run12, run13, run14, run15, run16, run17, run18, run19, run20, run21, run22, reduceCtorEq, Nat.reduceEqDiff, Nat.reduceAdd, Nat.reduceSub, Nat.reduceLeDiff, indexAddrA, indexRefA, appendA, strA, Nat.reduceMul, Nat.zero_mul, Nat.reduceMod, Int.reduceEq, Int.reduceLT, Int.reduceLE, Nat.reduceLT, Nat.lt_irrefl, Nat.reduceBEq, tys0, tys1, tys2, tys3, tys4, tys5, tys6, tys7, tys8, tys9, tys10, tys11, tys12, tys13, tys14, tys15, tys16, tys17, tys18, tys19, tys20, tys21, tys22, tys23, Try.ntmps39, Try.results39]
  refine RunL.callp rfl rfl ok_f84 (simplest_ok l r hl hr) (by simp only [pureL, pureB, pl, pr, Bool.and_self]) rfl ?_
  unfold simR
  simp only [run0, run1, run2, run3, run4, run5, run6, run7, run8, run9, run10, run11, run12, run13, run14, run15, run16, run17, run18, run19, run20, run21, run22, reduceCtorEq, Nat.reduceEqDiff, Nat.reduceAdd, Nat.reduceSub, Nat.reduceLeDiff, indexAddrA, indexRefA, appendA, strA, Nat.reduceMul, Nat.zero_mul, Nat.reduceMod, Int.reduceEq, Int.reduceLT, Int.reduceLE, Nat.reduceLT, Nat.lt_irrefl, Nat.reduceBEq, tys0, tys1, tys2, tys3, tys4, tys5, tys6, tys7, tys8, tys9, tys10, tys11, tys12, tys13, tys14, tys15, tys16, tys17, tys18, tys19, tys20, tys21, tys22, tys23, Try.ntmps39, Try.results39, frE]
  exact Fin.eq rfl rfl

theorem over_bad {l r : List Fr} (hl : goodL l = true) (hr : goodL r = true) (h : overB l r = true) : cutBad l r = true ∧ cutM l < l.length ∧ cutL r < r.length ∧ 0 ≤ cmpQ (l.getD (cutM l) (0, 1)) (r.getD (cutL r) (0, 1)) := by
  simp only [overB, Bool.and_eq_true, Bool.not_eq_true', decide_eq_true_eq] at h
  obtain ⟨⟨h1, h2⟩, h3⟩ := h
  have b1 : cutM l < l.length := bestI_lt 1 l l 0 0 (by cases l <;> simp at h1 ⊢) (by omega)
  have b2 : cutL r < r.length := bestI_lt (-1) r r 0 0 (by cases r <;> simp at h2 ⊢) (by omega)
  refine ⟨?_, b1, b2, h3⟩
  have g1 := goodF_FB (goodF_at hl b1)
  have g2 := goodF_FB (goodF_at hr b2)
  have m1 : l.getD (cutM l) (0, 1) ∈ l := by
    rw [List.getD_eq_getElem?_getD, List.getElem?_eq_getElem b1]; exact List.getElem_mem _
  have m2 : r.getD (cutL r) (0, 1) ∈ r := by
    rw [List.getD_eq_getElem?_getD, List.getElem?_eq_getElem b2]; exact List.getElem_mem _
  generalize l.getD (cutM l) (0, 1) = a at *
  generalize r.getD (cutL r) (0, 1) = b at *
  have hx := (cut_small l r).1
  have hq : leQ b a := by
    rcases Classical.em (leQ b a) with h | h
    · exact h
    · have := (cmpQ_neg g1 g2).2 h; omega
  unfold cutBad
  generalize cutX l r = x at *
  by_cases k : leB x a = true
  · simp only [Bool.or_eq_true, List.any_eq_true]
    exact .inl ⟨a, m1, k⟩
  · have k2 : geB x a = true := by
      rw [geB_iff hx g1]; rw [leB_iff hx g1] at k; omega
    simp only [Bool.or_eq_true, List.any_eq_true]
    exact .inr ⟨b, m2, geB_mono hx g1 g2 hq k2⟩

end Go.Proofs.Ytllcljajlemmaaa
/-
  Cuts have reasons: the law.
-/
namespace Go.Proofs.Ytllcljajlemmaaa
open Go K
set_option linter.unusedSimpArgs false
set_option linter.unusedVariables false
set_option maxHeartbeats 1600000
set_option maxRecDepth 8000

theorem FnCutsHaveReasons_ok {a0 a1 : AV} (h0 : IsOf Try.prog 55 a0) (h1 : IsOf Try.prog 55 a1) : Ct Try.prog 10 [a0, a1] [] (.bool true) [] := by
  obtain ⟨l, rfl, hb, hl⟩ := laws_isBytes h0
  obtain ⟨k, rfl, _, hk⟩ := laws_isBytes h1
  have hbig := big_ok l k hl hk
  cases hB : (decide ((1048576 : Int) < l.length) || decide (1048576 - (l.length : Int) < k.length))
  case true =>
    rw [hB] at hbig
    refine Ct.by_ hmix [] Try.func10 rfl ?_
    simp only [run0, run1, run2, run3, run4, run5, run6, run7, run8, run9, run10, run11, run12, run13, run14, run15, run16, run17, run18, run19, run20, run21, run22, reduceCtorEq, Nat.reduceEqDiff, Nat.reduceAdd, Nat.reduceSub, Nat.reduceLeDiff, indexAddrA, indexRefA, appendA, strA, Nat.reduceMul, Nat.zero_mul, Nat.reduceMod, Int.reduceEq, Int.reduceLT, Int.reduceLE, Nat.reduceLT, Nat.lt_irrefl, Nat.reduceBEq, tys0, tys1, tys2, tys3, tys4, tys5, tys6, tys7, tys8, tys9, tys10, tys11, tys12, tys13, tys14, tys15, tys16, tys17, tys18, tys19, tys20, tys21, tys22, tys23, Try.ntmps10, Try.results10]
    refine RunL.callp rfl rfl ok_f37 hbig (by simp only [pureL, pureB, bytes_pure, Bool.and_self]) rfl ?_
    simp only [run0, run1, run2, run3, run4, run5, run6, run7, run8, run9, run10, run11, run12, run13, run14, run15, run16, run17, run18, run19, run20, run21, run22, reduceCtorEq, Nat.reduceEqDiff, Nat.reduceAdd, Nat.reduceSub, Nat.reduceLeDiff, indexAddrA, indexRefA, appendA, strA, Nat.reduceMul, Nat.zero_mul, Nat.reduceMod, Int.reduceEq, Int.reduceLT, Int.reduceLE, Nat.reduceLT, Nat.lt_irrefl, Nat.reduceBEq, tys0, tys1, tys2, tys3, tys4, tys5, tys6, tys7, tys8, tys9, tys10, tys11, tys12, tys13, tys14, tys15, tys16, tys17, tys18, tys19, tys20, tys21, tys22, tys23, Try.ntmps10, Try.results10]
    exact Fin.eq rfl rfl
  rw [hB] at hbig
  simp only [Bool.or_eq_false_iff, decide_eq_false_iff_not] at hB
  have hc : bytesOk l := ⟨by omega, hb⟩
  obtain ⟨p, q, hp, hq, hdraw⟩ := drawCut_ok l hc
  have lP : p.length ≤ 1048576 := by omega
  have lQ : q.length ≤ 1048576 := by omega
  have hs := specCut_ok p q lP lQ
  have hi := implCut_ok p q lP lQ
  have hm := simplestOf_ok p q lP lQ
  have pp := frs_pure p
  have pq := frs_pure q
  cases hg : goodL p && goodL q
  · unfold cutR at hs hi
    rw [hg, if_neg (by simp)] at hs hi hm
    simp only [frE] at hs hi hm
    refine Ct.by_ hmix [] Try.func10 rfl ?_
    simp only [run0, run1, run2, run3, run4, run5, run6, run7, run8, run9, run10, run11, run12, run13, run14, run15, run16, run17, run18, run19, run20, run21, run22, reduceCtorEq, Nat.reduceEqDiff, Nat.reduceAdd, Nat.reduceSub, Nat.reduceLeDiff, indexAddrA, indexRefA, appendA, strA, Nat.reduceMul, Nat.zero_mul, Nat.reduceMod, Int.reduceEq, Int.reduceLT, Int.reduceLE, Nat.reduceLT, Nat.lt_irrefl, Nat.reduceBEq, tys0, tys1, tys2, tys3, tys4, tys5, tys6, tys7, tys8, tys9, tys10, tys11, tys12, tys13, tys14, tys15, tys16, tys17, tys18, tys19, tys20, tys21, tys22, tys23, Try.ntmps10, Try.results10]
    refine RunL.callp rfl rfl ok_f37 hbig (by simp only [pureL, pureB, bytes_pure, Bool.and_self]) rfl ?_
    simp only [run0, run1, run2, run3, run4, run5, run6, run7, run8, run9, run10, run11, run12, run13, run14, run15, run16, run17, run18, run19, run20, run21, run22, reduceCtorEq, Nat.reduceEqDiff, Nat.reduceAdd, Nat.reduceSub, Nat.reduceLeDiff, indexAddrA, indexRefA, appendA, strA, Nat.reduceMul, Nat.zero_mul, Nat.reduceMod, Int.reduceEq, Int.reduceLT, Int.reduceLE, Nat.reduceLT, Nat.lt_irrefl, Nat.reduceBEq, tys0, tys1, tys2, tys3, tys4, tys5, tys6, tys7, tys8, tys9, tys10, tys11, tys12, tys13, tys14, tys15, tys16, tys17, tys18, tys19, tys20, tys21, tys22, tys23, Try.ntmps10, Try.results10]
    refine RunL.callp rfl rfl ok_f38 hdraw (by simp only [pureL, pureB, bytes_pure, Bool.and_self]) rfl ?_
    simp only [run0, run1, run2, run3, run4, run5, run6, run7, run8, run9, run10, run11, run12, run13, run14, run15, run16, run17, run18, run19, run20, run21, run22, reduceCtorEq, Nat.reduceEqDiff, Nat.reduceAdd, Nat.reduceSub, Nat.reduceLeDiff, indexAddrA, indexRefA, appendA, strA, Nat.reduceMul, Nat.zero_mul, Nat.reduceMod, Int.reduceEq, Int.reduceLT, Int.reduceLE, Nat.reduceLT, Nat.lt_irrefl, Nat.reduceBEq, tys0, tys1, tys2, tys3, tys4, tys5, tys6, tys7, tys8, tys9, tys10, tys11, tys12, tys13, tys14, tys15, tys16, tys17, tys18, tys19, tys20, tys21, tys22, tys23, Try.ntmps10, Try.results10]
    refine RunL.callp rfl rfl ok_f34 hi (by simp only [pureL, pureB, pp, pq, Bool.and_self]) rfl ?_
    simp only [run0, run1, run2, run3, run4, run5, run6, run7, run8, run9, run10, run11, run12, run13, run14, run15, run16, run17, run18, run19, run20, run21, run22, reduceCtorEq, Nat.reduceEqDiff, Nat.reduceAdd, Nat.reduceSub, Nat.reduceLeDiff, indexAddrA, indexRefA, appendA, strA, Nat.reduceMul, Nat.zero_mul, Nat.reduceMod, Int.reduceEq, Int.reduceLT, Int.reduceLE, Nat.reduceLT, Nat.lt_irrefl, Nat.reduceBEq, tys0, tys1, tys2, tys3, tys4, tys5, tys6, tys7, tys8, tys9, tys10, tys11, tys12, tys13, tys14, tys15, tys16, tys17, tys18, tys19, tys20, tys21, tys22, tys23, Try.ntmps10, Try.results10]
    refine RunL.callp rfl rfl ok_f32 hs (by simp only [pureL, pureB, pp, pq, Bool.and_self]) rfl ?_
    simp only [run0, run1, run2, run3, run4, run5, run6, run7, run8, run9, run10, run11, run12, run13, run14, run15, run16, run17, run18, run19, run20, run21, run22, reduceCtorEq, Nat.reduceEqDiff, Nat.reduceAdd, Nat.reduceSub, Nat.reduceLeDiff, indexAddrA, indexRefA, appendA, strA, Nat.reduceMul, Nat.zero_mul, Nat.reduceMod, Int.reduceEq, Int.reduceLT, Int.reduceLE, Nat.reduceLT, Nat.lt_irrefl, Nat.reduceBEq, tys0, tys1, tys2, tys3, tys4, tys5, tys6, tys7, tys8, tys9, tys10, tys11, tys12, tys13, tys14, tys15, tys16, tys17, tys18, tys19, tys20, tys21, tys22, tys23, Try.ntmps10, Try.results10, bne_self_eq_false]
    refine RunL.callp rfl rfl ok_f39 hm (by simp only [pureL, pureB, pp, pq, Bool.and_self]) rfl ?_
    simp only [run0, run1, run2, run3, run4, run5, run6, run7, run8, run9, run10, run11, run12, run13, run14, run15, run16, run17, run18, run19, run20, run21, run22, reduceCtorEq, Nat.reduceEqDiff, Nat.reduceAdd, Nat.reduceSub, Nat.reduceLeDiff, indexAddrA, indexRefA, appendA, strA, Nat.reduceMul, Nat.zero_mul, Nat.reduceMod, Int.reduceEq, Int.reduceLT, Int.reduceLE, Nat.reduceLT, Nat.lt_irrefl, Nat.reduceBEq, tys0, tys1, tys2, tys3, tys4, tys5, tys6, tys7, tys8, tys9, tys10, tys11, tys12, tys13, tys14, tys15, tys16, tys17, tys18, tys19, tys20, tys21, tys22, tys23, Try.ntmps10, Try.results10, bne_self_eq_false]
    exact Fin.eq rfl rfl
  unfold cutR at hs hi
  rw [hg, if_pos rfl] at hs hi hm
  simp only [Bool.and_eq_true] at hg
  cases ho : overB p q
  · rw [ho, if_neg (by simp)] at hs hi
    unfold simR at hm
    cases hbad : cutBad p q
    all_goals
      rw [hbad] at hs hi hm
      simp only [frE, Bool.false_eq_true, if_false, if_true, Bool.not_true, Bool.not_false] at hs hi hm
      refine Ct.by_ hmix [] Try.func10 rfl ?_
      simp only [run0, run1, run2, run3, run4, run5, run6, run7, run8, run9, run10, run11, run12, run13, run14, run15, run16, run17, run18, run19, run20, run21, run22, reduceCtorEq, Nat.reduceEqDiff, Nat.reduceAdd, Nat.reduceSub, Nat.reduceLeDiff, indexAddrA, indexRefA, appendA, strA, Nat.reduceMul, Nat.zero_mul, Nat.reduceMod, Int.reduceEq, Int.reduceLT, Int.reduceLE, Nat.reduceLT, Nat.lt_irrefl, Nat.reduceBEq, tys0, tys1, tys2, tys3, tys4, tys5, tys6, tys7, tys8, tys9, tys10, tys11, tys12, tys13, tys14, tys15, tys16, tys17, tys18, tys19, tys20, tys21, tys22, tys23, Try.ntmps10, Try.results10]
      refine RunL.callp rfl rfl ok_f37 hbig (by simp only [pureL, pureB, bytes_pure, Bool.and_self]) rfl ?_
      simp only [run0, run1, run2, run3, run4, run5, run6, run7, run8, run9, run10, run11, run12, run13, run14, run15, run16, run17, run18, run19, run20, run21, run22, reduceCtorEq, Nat.reduceEqDiff, Nat.reduceAdd, Nat.reduceSub, Nat.reduceLeDiff, indexAddrA, indexRefA, appendA, strA, Nat.reduceMul, Nat.zero_mul, Nat.reduceMod, Int.reduceEq, Int.reduceLT, Int.reduceLE, Nat.reduceLT, Nat.lt_irrefl, Nat.reduceBEq, tys0, tys1, tys2, tys3, tys4, tys5, tys6, tys7, tys8, tys9, tys10, tys11, tys12, tys13, tys14, tys15, tys16, tys17, tys18, tys19, tys20, tys21, tys22, tys23, Try.ntmps10, Try.results10]
      refine RunL.callp rfl rfl ok_f38 hdraw (by simp only [pureL, pureB, bytes_pure, Bool.and_self]) rfl ?_
      simp only [run0, run1, run2, run3, run4, run5, run6, run7, run8, run9, run10, run11, run12, run13, run14, run15, run16, run17, run18, run19, run20, run21, run22, reduceCtorEq, Nat.reduceEqDiff, Nat.reduceAdd, Nat.reduceSub, Nat.reduceLeDiff, indexAddrA, indexRefA, appendA, strA, Nat.reduceMul, Nat.zero_mul, Nat.reduceMod, Int.reduceEq, Int.reduceLT, Int.reduceLE, Nat.reduceLT, Nat.lt_irrefl, Nat.reduceBEq, tys0, tys1, tys2, tys3, tys4, tys5, tys6, tys7, tys8, tys9, tys10, tys11, tys12, tys13, tys14, tys15, tys16, tys17, tys18, tys19, tys20, tys21, tys22, tys23, Try.ntmps10, Try.results10]
      refine RunL.callp rfl rfl ok_f34 hi (by simp only [pureL, pureB, pp, pq, Bool.and_self]) rfl ?_
      simp only [run0, run1, run2, run3, run4, run5, run6, run7, run8, run9, run10, run11, run12, run13, run14, run15, run16, run17, run18, run19, run20, run21, run22, reduceCtorEq, Nat.reduceEqDiff, Nat.reduceAdd, Nat.reduceSub, Nat.reduceLeDiff, indexAddrA, indexRefA, appendA, strA, Nat.reduceMul, Nat.zero_mul, Nat.reduceMod, Int.reduceEq, Int.reduceLT, Int.reduceLE, Nat.reduceLT, Nat.lt_irrefl, Nat.reduceBEq, tys0, tys1, tys2, tys3, tys4, tys5, tys6, tys7, tys8, tys9, tys10, tys11, tys12, tys13, tys14, tys15, tys16, tys17, tys18, tys19, tys20, tys21, tys22, tys23, Try.ntmps10, Try.results10]
      refine RunL.callp rfl rfl ok_f32 hs (by simp only [pureL, pureB, pp, pq, Bool.and_self]) rfl ?_
      simp only [run0, run1, run2, run3, run4, run5, run6, run7, run8, run9, run10, run11, run12, run13, run14, run15, run16, run17, run18, run19, run20, run21, run22, reduceCtorEq, Nat.reduceEqDiff, Nat.reduceAdd, Nat.reduceSub, Nat.reduceLeDiff, indexAddrA, indexRefA, appendA, strA, Nat.reduceMul, Nat.zero_mul, Nat.reduceMod, Int.reduceEq, Int.reduceLT, Int.reduceLE, Nat.reduceLT, Nat.lt_irrefl, Nat.reduceBEq, tys0, tys1, tys2, tys3, tys4, tys5, tys6, tys7, tys8, tys9, tys10, tys11, tys12, tys13, tys14, tys15, tys16, tys17, tys18, tys19, tys20, tys21, tys22, tys23, Try.ntmps10, Try.results10, bne_self_eq_false]
      refine RunL.callp rfl rfl ok_f39 hm (by simp only [pureL, pureB, pp, pq, Bool.and_self]) rfl ?_
      simp only [run0, run1, run2, run3, run4, run5, run6, run7, run8, run9, run10, run11, run12, run13, run14, run15, run16, run17, run18, run19, run20, run21, run22, reduceCtorEq, Nat.reduceEqDiff, Nat.reduceAdd, Nat.reduceSub, Nat.reduceLeDiff, indexAddrA, indexRefA, appendA, strA, Nat.reduceMul, Nat.zero_mul, Nat.reduceMod, Int.reduceEq, Int.reduceLT, Int.reduceLE, Nat.reduceLT, Nat.lt_irrefl, Nat.reduceBEq, tys0, tys1, tys2, tys3, tys4, tys5, tys6, tys7, tys8, tys9, tys10, tys11, tys12, tys13, tys14, tys15, tys16, tys17, tys18, tys19, tys20, tys21, tys22, tys23, Try.ntmps10, Try.results10, bne_self_eq_false, beq_self_eq_true]
      exact Fin.eq rfl rfl
  obtain ⟨hbad, b1, b2, b3⟩ := over_bad hg.1 hg.2 ho
  rw [ho, if_pos rfl] at hs hi
  unfold simR at hm
  rw [hbad] at hm
  simp only [frE, if_true, Bool.not_true] at hs hi hm
  have a1 := frs_at b1
  have a2 := frs_at b2
  have g1 := goodF_at hg.1 b1
  have g2 := goodF_at hg.2 b2
  have hcmp := implCompare_ok (p.getD (cutM p) (0, 1)).1 (p.getD (cutM p) (0, 1)).2 (q.getD (cutL q) (0, 1)).1 (q.getD (cutL q) (0, 1)).2
  have hz := cmpPQ g1 g2
  unfold cmpP at hz
  rw [← hz] at hcmp
  unfold goodF at g1 g2
  rw [g1, g2] at hcmp
  simp only [fr, Bool.and_self, if_true] at hcmp
  have c1 : (cutM p : Int) < (p.length : Int) := by omega
  have c2 : (cutL q : Int) < (q.length : Int) := by omega
  have c3 : ¬ ((cutM p : Int) < 0) := by omega
  refine Ct.by_ hmix [] Try.func10 rfl ?_
  simp only [run0, run1, run2, run3, run4, run5, run6, run7, run8, run9, run10, run11, run12, run13, run14, run15, run16, run17, run18, run19, run20, run21, run22, reduceCtorEq, Nat.reduceEqDiff, Nat.reduceAdd, Nat.reduceSub, Nat.reduceLeDiff, indexAddrA, indexRefA, appendA, strA, Nat.reduceMul, Nat.zero_mul, Nat.reduceMod, Int.reduceEq, Int.reduceLT, Int.reduceLE, Nat.reduceLT, Nat.lt_irrefl, Nat.reduceBEq, tys0, tys1, tys2, tys3, tys4, tys5, tys6, tys7, tys8, tys9, tys10, tys11, tys12, tys13, tys14, tys15, tys16, tys17, tys18, tys19, tys20, tys21, tys22, tys23, Try.ntmps10, Try.results10]
  refine RunL.callp rfl rfl ok_f37 hbig (by simp only [pureL, pureB, bytes_pure, Bool.and_self]) rfl ?_
  simp only [run0, run1, run2, run3, run4, run5, run6, run7, run8, run9, run10, run11, run12, run13, run14, run15, run16, run17, run18, run19, run20, run21, run22, reduceCtorEq, Nat.reduceEqDiff, Nat.reduceAdd, Nat.reduceSub, Nat.reduceLeDiff, indexAddrA, indexRefA, appendA, strA, Nat.reduceMul, Nat.zero_mul, Nat.reduceMod, Int.reduceEq, Int.reduceLT, Int.reduceLE, Nat.reduceLT, Nat.lt_irrefl, Nat.reduceBEq, tys0, tys1, tys2, tys3, tys4, tys5, tys6, tys7, tys8, tys9, tys10, tys11, tys12, tys13, tys14, tys15, tys16, tys17, tys18, tys19, tys20, tys21, tys22, tys23, Try.ntmps10, Try.results10]
  refine RunL.callp rfl rfl ok_f38 hdraw (by simp only [pureL, pureB, bytes_pure, Bool.and_self]) rfl ?_
  simp only [run0, run1, run2, run3, run4, run5, run6, run7, run8, run9, run10, run11, run12, run13, run14, run15, run16, run17, run18, run19, run20, run21, run22, reduceCtorEq, Nat.reduceEqDiff, Nat.reduceAdd, Nat.reduceSub, Nat.reduceLeDiff, indexAddrA, indexRefA, appendA, strA, Nat.reduceMul, Nat.zero_mul, Nat.reduceMod, Int.reduceEq, Int.reduceLT, Int.reduceLE, Nat.reduceLT, Nat.lt_irrefl, Nat.reduceBEq, tys0, tys1, tys2, tys3, tys4, tys5, tys6, tys7, tys8, tys9, tys10, tys11, tys12, tys13, tys14, tys15, tys16, tys17, tys18, tys19, tys20, tys21, tys22, tys23, Try.ntmps10, Try.results10]
  refine RunL.callp rfl rfl ok_f34 hi (by simp only [pureL, pureB, pp, pq, Bool.and_self]) rfl ?_
  simp only [run0, run1, run2, run3, run4, run5, run6, run7, run8, run9, run10, run11, run12, run13, run14, run15, run16, run17, run18, run19, run20, run21, run22, reduceCtorEq, Nat.reduceEqDiff, Nat.reduceAdd, Nat.reduceSub, Nat.reduceLeDiff, indexAddrA, indexRefA, appendA, strA, Nat.reduceMul, Nat.zero_mul, Nat.reduceMod, Int.reduceEq, Int.reduceLT, Int.reduceLE, Nat.reduceLT, Nat.lt_irrefl, Nat.reduceBEq, tys0, tys1, tys2, tys3, tys4, tys5, tys6, tys7, tys8, tys9, tys10, tys11, tys12, tys13, tys14, tys15, tys16, tys17, tys18, tys19, tys20, tys21, tys22, tys23, Try.ntmps10, Try.results10]
  refine RunL.callp rfl rfl ok_f32 hs (by simp only [pureL, pureB, pp, pq, Bool.and_self]) rfl ?_
  simp only [run0, run1, run2, run3, run4, run5, run6, run7, run8, run9, run10, run11, run12, run13, run14, run15, run16, run17, run18, run19, run20, run21, run22, reduceCtorEq, Nat.reduceEqDiff, Nat.reduceAdd, Nat.reduceSub, Nat.reduceLeDiff, indexAddrA, indexRefA, appendA, strA, Nat.reduceMul, Nat.zero_mul, Nat.reduceMod, Int.reduceEq, Int.reduceLT, Int.reduceLE, Nat.reduceLT, Nat.lt_irrefl, Nat.reduceBEq, tys0, tys1, tys2, tys3, tys4, tys5, tys6, tys7, tys8, tys9, tys10, tys11, tys12, tys13, tys14, tys15, tys16, tys17, tys18, tys19, tys20, tys21, tys22, tys23, Try.ntmps10, Try.results10, bne_self_eq_false]
  refine RunL.callp rfl rfl ok_f39 hm (by simp only [pureL, pureB, pp, pq, Bool.and_self]) rfl ?_
  simp only [run0, run1, run2, run3, run4, run5, run6, run7, run8, run9, run10, run11, run12, run13, run14, run15, run16, run17, run18, run19, run20, run21, run22, reduceCtorEq, Nat.reduceEqDiff, Nat.reduceAdd, Nat.reduceSub, Nat.reduceLeDiff, indexAddrA, indexRefA, appendA, strA, Nat.reduceMul, Nat.zero_mul, Nat.reduceMod, Int.reduceEq, Int.reduceLT, Int.reduceLE, Nat.reduceLT, Nat.lt_irrefl, Nat.reduceBEq, tys0, tys1, tys2, tys3, tys4, tys5, tys6, tys7, tys8, tys9, tys10, tys11, tys12, tys13, tys14, tys15, tys16, tys17, tys18, tys19, tys20, tys21, tys22, tys23, Try.ntmps10, Try.results10, bne_self_eq_false, beq_self_eq_true, c1, c2, c3, a1, a2, List.length_map, Int.toNat_natCast, Int.natCast_nonneg]
  refine ⟨by kernel_rfl, ?_⟩
  refine RunL.callp rfl rfl ok_f40 (hcmp) (by first | rfl | simp only [pureL, pureB, Bool.and_self, Bool.and_true, Bool.true_and]) rfl ?_
  simp only [run0, run1, run2, run3, run4, run5, run6, run7, run8, run9, run10, run11, run12, run13, run14, run15, run16, run17, run18, run19, run20, run21, run22, reduceCtorEq, Nat.reduceEqDiff, Nat.reduceAdd, Nat.reduceSub, Nat.reduceLeDiff, indexAddrA, indexRefA, appendA, strA, Nat.reduceMul, Nat.zero_mul, Nat.reduceMod, Int.reduceEq, Int.reduceLT, Int.reduceLE, Nat.reduceLT, Nat.lt_irrefl, Nat.reduceBEq, tys0, tys1, tys2, tys3, tys4, tys5, tys6, tys7, tys8, tys9, tys10, tys11, tys12, tys13, tys14, tys15, tys16, tys17, tys18, tys19, tys20, tys21, tys22, tys23, Try.ntmps10, Try.results10, b3, bne_self_eq_false, beq_self_eq_true]
  exact Fin.eq rfl rfl

end Go.Proofs.Ytllcljajlemmaaa
