/-
  Surreals: a number, cut off: the law.
-/
import Derived.Test.YtminjhhabonjaaaS15
import Derived.Test.YtminjhhabonjaaaCS1
namespace Go.Proofs.Ytminjhhabonjaaa
open Go K Su
set_option linter.unusedSimpArgs false
set_option linter.unusedVariables false
set_option maxHeartbeats 1600000
set_option maxRecDepth 16000

theorem elems_mem : ∀ (a : Su) (x : AV), x ∈ elems a → ∃ (e : Su) (c : Int × Int), x = .agg [.sl false (elems e), .int .i64 c.1, .int .i64 c.2]
  | .nil, x, h => by simp [elems] at h
  | .cons e c r, x, h => by
    simp only [elems, List.mem_cons] at h
    rcases h with rfl | h
    · exact ⟨e, c, rfl⟩
    · exact elems_mem r x h
theorem setXn {α : Type} (X ys : List α) (n : Nat) (y : α) : (X ++ ys).set (X.length + n) y = X ++ ys.set n y := by rw [List.set_append_right _ _ (by omega)]; congr 2; omega
theorem Vw_elems {L : List AObj} {id g n : Nat} {T : TypeId} {a : Su} {es : List AV} (hL : L[id]? = some (.vec T 3 g es)) (he : es = elems a) (hn : n = a.len) : Vw L (.ref id [] g n) (.sl false (elems a)) := by
  subst he hn
  have := Vw.refPur (o := false) hL (n := a.len) (by rw [elems_length]; exact Nat.le_refl _) (fun e he c hc => by
    obtain ⟨e', c', rfl⟩ := elems_mem a e he
    simp only [AV.cells, List.mem_cons, List.not_mem_nil, or_false] at hc
    rcases hc with rfl | rfl | rfl
    · exact ⟨.of (by simp only [pureB, elems_pure]), fun xs h => by cases h⟩
    · exact ⟨.int _ _, fun xs h => by cases h⟩
    · exact ⟨.int _ _, fun xs h => by cases h⟩)
  rwa [take_all] at this

def negC (c : Int × Int) : Int × Int := (IntKind.i64.wrap (0 - c.1), c.2)
def negT : Su → Su
  | .nil => .nil
  | .cons e c r => .cons e (negC c) (negT r)
theorem toSurrealOwn_ok (a : Su) (hs : a.sz ≤ 1048576) : ∃ x M, Ct Try.prog 12 [av a] [] (.agg [x]) M ∧ Own M a x := toSurreal_of (toS_ok a hs)
theorem cutP_cons (e x : Su) (c : Int × Int) (r : Su) : cutP e (.cons x c r) = if 0 < cmpT x e then .cons x c (cutP e r) else .nil := rfl
theorem vw1 {L : List AObj} {a : Su} {x : AV} {S : List Nat} (h : OwnR L 62 3 a x S) : Vw L (.agg [x]) (av a) := Vw.agg (.cons (h.view false) .nil)
theorem vwl2 {L : List AObj} {a b : Su} {x : AV} {S : List Nat} (h : OwnR L 62 3 a x S) : VwL L [.agg [x], .agg [.sl false (elems b)]] [av a, av b] :=
  .cons (vw1 h) (.cons (.pur (.of (by simp only [pureB, pureL, elems_pure, Bool.and_self]))) .nil)
theorem vwl3 {L : List AObj} {a : Su} {x : AV} {S : List Nat} {k : Int} (h : OwnR L 62 3 a x S) : VwL L [.agg [x], .int .i64 k] [av a, .int .i64 k] :=
  .cons (vw1 h) (.cons (.pur (.int _ _)) .nil)
theorem okS_res {x : AV} {b : Bool} (h : okT x = true) : okS (.tup [.agg [x], .bool b]) = true := by
  have := okT_okS h
  simp [okS, okSL, this]

def cutO (a e : Su) : Bool := goodT a && goodT e
def cutR (a e : Su) : Su := if goodT a && goodT e then cutP e a else .nil
theorem cutR_sz (a e : Su) (ha : a.sz ≤ 1048576) (he : e.sz ≤ 1048576) : (cutR a e).sz ≤ 1048576 := by
  have := cutP_sz e a
  unfold cutR; split
  · omega
  · simp [sz]

theorem implCut_ok (a b : Su) (ha : a.sz ≤ 1048576) (hb : b.sz ≤ 1048576) : ∃ x M, Ct Try.prog 13 [av a, av b] [] (.tup [.agg [x], .bool (cutO a b)]) M ∧ Own M (cutR a b) x := by
  have hla := len_le a
  cases hg : goodT a && goodT b
  · rw [show cutO a b = false from hg, show cutR a b = .nil by simp [cutR, hg]]
    refine ⟨nilV, ?_⟩
    apply ex1
    · apply Ct.by_ hmix [] Try.func13 rfl
      simp only [run0, run1, run2, run3, run4, run5, run6, run7, run8, run9, run10, run11, run12, run13, run14, run15, run16, run17, run18, run19, run20, run21, run22, reduceCtorEq, Nat.reduceEqDiff, Nat.reduceAdd, Nat.reduceSub, Nat.reduceLeDiff, indexAddrA, indexRefA, appendA, strA, Nat.reduceMul, Nat.zero_mul, Nat.reduceMod, Int.reduceEq, Int.reduceLT, Int.reduceLE, Nat.reduceLT, Nat.lt_irrefl, Nat.reduceBEq, tys0, tys1, tys2, tys3, tys4, tys5, tys6, tys7, tys8, tys9, tys10, tys11, tys12, tys13, tys14, tys15, tys16, tys17, tys18, tys19, tys20, tys21, tys22, tys23, Try.ntmps13, Try.results13, av]
      refine RunL.callp rfl rfl ok_f28 (both_ok a b ha hb) (by first | rfl | simp only [pureL, pureB, Bool.and_self, Bool.and_true, Bool.true_and, Su.elems_pure, Su.pay_pure, Su.av_pure]) rfl ?_
      simp only [run0, run1, run2, run3, run4, run5, run6, run7, run8, run9, run10, run11, run12, run13, run14, run15, run16, run17, run18, run19, run20, run21, run22, reduceCtorEq, Nat.reduceEqDiff, Nat.reduceAdd, Nat.reduceSub, Nat.reduceLeDiff, indexAddrA, indexRefA, appendA, strA, Nat.reduceMul, Nat.zero_mul, Nat.reduceMod, Int.reduceEq, Int.reduceLT, Int.reduceLE, Nat.reduceLT, Nat.lt_irrefl, Nat.reduceBEq, tys0, tys1, tys2, tys3, tys4, tys5, tys6, tys7, tys8, tys9, tys10, tys11, tys12, tys13, tys14, tys15, tys16, tys17, tys18, tys19, tys20, tys21, tys22, tys23, Try.ntmps13, Try.results13, hg]
      exact Fin.keep [] rfl rfl
    · exact ⟨[], .inl ⟨rfl, rfl, rfl⟩, List.nodup_nil, keepS_okSO _ _⟩
  · have hg' := hg
    simp only [Bool.and_eq_true] at hg'
    have ra := goodT_rng hg'.1
    have rb := goodT_rng hg'.2
    rw [show cutO a b = true from hg, show cutR a b = cutP b a by simp [cutR, hg]]
    have hcs := cutP_sz b a
    obtain ⟨x, M, hc, S, ho, hn, hM⟩ := cloneS_ok (cutP b a) (by omega)
    refine ⟨shA 3 x, ?_⟩
    apply ex1
    · apply Ct.by_ hmix [] Try.func13 rfl
      simp only [run0, run1, run2, run3, run4, run5, run6, run7, run8, run9, run10, run11, run12, run13, run14, run15, run16, run17, run18, run19, run20, run21, run22, reduceCtorEq, Nat.reduceEqDiff, Nat.reduceAdd, Nat.reduceSub, Nat.reduceLeDiff, indexAddrA, indexRefA, appendA, strA, Nat.reduceMul, Nat.zero_mul, Nat.reduceMod, Int.reduceEq, Int.reduceLT, Int.reduceLE, Nat.reduceLT, Nat.lt_irrefl, Nat.reduceBEq, tys0, tys1, tys2, tys3, tys4, tys5, tys6, tys7, tys8, tys9, tys10, tys11, tys12, tys13, tys14, tys15, tys16, tys17, tys18, tys19, tys20, tys21, tys22, tys23, Try.ntmps13, Try.results13, av]
      refine RunL.callp rfl rfl ok_f28 (both_ok a b ha hb) (by first | rfl | simp only [pureL, pureB, Bool.and_self, Bool.and_true, Bool.true_and, Su.elems_pure, Su.pay_pure, Su.av_pure]) rfl ?_
      simp only [run0, run1, run2, run3, run4, run5, run6, run7, run8, run9, run10, run11, run12, run13, run14, run15, run16, run17, run18, run19, run20, run21, run22, reduceCtorEq, Nat.reduceEqDiff, Nat.reduceAdd, Nat.reduceSub, Nat.reduceLeDiff, indexAddrA, indexRefA, appendA, strA, Nat.reduceMul, Nat.zero_mul, Nat.reduceMod, Int.reduceEq, Int.reduceLT, Int.reduceLE, Nat.reduceLT, Nat.lt_irrefl, Nat.reduceBEq, tys0, tys1, tys2, tys3, tys4, tys5, tys6, tys7, tys8, tys9, tys10, tys11, tys12, tys13, tys14, tys15, tys16, tys17, tys18, tys19, tys20, tys21, tys22, tys23, Try.ntmps13, Try.results13, hg]
      refine AWp.loop_inv (ι := Su × Su) (fun p => ⟨[.agg [.sl false (elems a)], .agg [.sl false (elems b)], .ptr 0 0, .ptr 1 0, .ptr 2 0, .bool false, .int .i64 p.1.len, .junk, .junk, .junk, .junk, .junk, .junk, .junk, .junk, .junk, .junk, .junk, .junk, .junk, .junk, .junk, .junk, .junk, .junk, .junk, .junk, .junk, .junk, .junk, .junk, .junk, .junk, .junk, .junk, .junk], [.box 39 [.sl false (elems a)], .box 39 [.sl false (elems b)], .box 39 [nilV]]⟩)
        (fun p => a = p.1.app p.2 ∧ cutP b a = p.1.app (cutP b p.2)) (fun p => p.2.len) (.nil, a) ⟨rfl, rfl⟩ ⟨by simp only [len, Int.natCast_zero]; repeat constructor, rfl⟩ ?_
      rintro ⟨d, r⟩ ⟨h1, h2⟩
      refine W.sound hmix (E := []) ?_
      simp only at h1 h2
      simp only [run0, run1, run2, run3, run4, run5, run6, run7, run8, run9, run10, run11, run12, run13, run14, run15, run16, run17, run18, run19, run20, run21, run22, reduceCtorEq, Nat.reduceEqDiff, Nat.reduceAdd, Nat.reduceSub, Nat.reduceLeDiff, indexAddrA, indexRefA, appendA, strA, Nat.reduceMul, Nat.zero_mul, Nat.reduceMod, Int.reduceEq, Int.reduceLT, Int.reduceLE, Nat.reduceLT, Nat.lt_irrefl, Nat.reduceBEq, tys0, tys1, tys2, tys3, tys4, tys5, tys6, tys7, tys8, tys9, tys10, tys11, tys12, tys13, tys14, tys15, tys16, tys17, tys18, tys19, tys20, tys21, tys22, tys23, Try.ntmps13, Try.results13]
      refine ⟨by kernel_rfl, ?_⟩
      have hfin : ∀ {r' : Su}, a = d.app r' → cutP b a = d → (d.len : Int) ≤ (a.len : Int) ∧ (elems a).take d.len = elems (cutP b a) := fun h k => by
        refine ⟨by rw [h, len_app]; omega, ?_⟩
        rw [k]; conv => lhs; rw [h]
        exact elems_take d _
      cases r with
      | nil =>
        obtain ⟨e1, e0⟩ := od_end h1
        simp only [cutP, app_nil] at h2
        obtain ⟨k1, k2⟩ := hfin h1 h2
        simp only [run0, run1, run2, run3, run4, run5, run6, run7, run8, run9, run10, run11, run12, run13, run14, run15, run16, run17, run18, run19, run20, run21, run22, reduceCtorEq, Nat.reduceEqDiff, Nat.reduceAdd, Nat.reduceSub, Nat.reduceLeDiff, indexAddrA, indexRefA, appendA, strA, Nat.reduceMul, Nat.zero_mul, Nat.reduceMod, Int.reduceEq, Int.reduceLT, Int.reduceLE, Nat.reduceLT, Nat.lt_irrefl, Nat.reduceBEq, tys0, tys1, tys2, tys3, tys4, tys5, tys6, tys7, tys8, tys9, tys10, tys11, tys12, tys13, tys14, tys15, tys16, tys17, tys18, tys19, tys20, tys21, tys22, tys23, Try.ntmps13, Try.results13, elems_length, e1, k1, k2, elems_cells_t, Int.toNat_natCast, Int.natCast_nonneg, Int.le_refl, Int.toNat_zero, true_and, Int.natCast_zero]
        refine RunL.callgp rfl rfl ok_f30 rfl hc (by simp only [pureL, pureB, av_pure, Bool.and_self]) rfl ?_
        simp only [run0, run1, run2, run3, run4, run5, run6, run7, run8, run9, run10, run11, run12, run13, run14, run15, run16, run17, run18, run19, run20, run21, run22, reduceCtorEq, Nat.reduceEqDiff, Nat.reduceAdd, Nat.reduceSub, Nat.reduceLeDiff, indexAddrA, indexRefA, appendA, strA, Nat.reduceMul, Nat.zero_mul, Nat.reduceMod, Int.reduceEq, Int.reduceLT, Int.reduceLE, Nat.reduceLT, Nat.lt_irrefl, Nat.reduceBEq, tys0, tys1, tys2, tys3, tys4, tys5, tys6, tys7, tys8, tys9, tys10, tys11, tys12, tys13, tys14, tys15, tys16, tys17, tys18, tys19, tys20, tys21, tys22, tys23, Try.ntmps13, Try.results13, shA, shL]
        exact Fin.keep (S.map (· + 3)) (by simp [okT, okTL, okT_sh ho]) rfl
      | cons e c r =>
        obtain ⟨e1, e2, e5, hlt, hnx, _⟩ := od_step h1 ha
        have ra' := ra
        rw [h1] at ra'
        have ra' := rng_app ra'
        simp only [run0, run1, run2, run3, run4, run5, run6, run7, run8, run9, run10, run11, run12, run13, run14, run15, run16, run17, run18, run19, run20, run21, run22, reduceCtorEq, Nat.reduceEqDiff, Nat.reduceAdd, Nat.reduceSub, Nat.reduceLeDiff, indexAddrA, indexRefA, appendA, strA, Nat.reduceMul, Nat.zero_mul, Nat.reduceMod, Int.reduceEq, Int.reduceLT, Int.reduceLE, Nat.reduceLT, Nat.lt_irrefl, Nat.reduceBEq, tys0, tys1, tys2, tys3, tys4, tys5, tys6, tys7, tys8, tys9, tys10, tys11, tys12, tys13, tys14, tys15, tys16, tys17, tys18, tys19, tys20, tys21, tys22, tys23, Try.ntmps13, Try.results13, elems_length, e1, e2, Int.toNat_natCast, Int.natCast_nonneg]
        refine RunL.callp rfl rfl ok_f29 (cmp_ok e b (by omega) hb ra'.2.1 rb) (by first | rfl | simp only [pureL, pureB, Bool.and_self, Bool.and_true, Bool.true_and, Su.elems_pure, Su.pay_pure, Su.av_pure]) rfl ?_
        by_cases q : 0 < cmpT e b
        · simp only [run0, run1, run2, run3, run4, run5, run6, run7, run8, run9, run10, run11, run12, run13, run14, run15, run16, run17, run18, run19, run20, run21, run22, reduceCtorEq, Nat.reduceEqDiff, Nat.reduceAdd, Nat.reduceSub, Nat.reduceLeDiff, indexAddrA, indexRefA, appendA, strA, Nat.reduceMul, Nat.zero_mul, Nat.reduceMod, Int.reduceEq, Int.reduceLT, Int.reduceLE, Nat.reduceLT, Nat.lt_irrefl, Nat.reduceBEq, tys0, tys1, tys2, tys3, tys4, tys5, tys6, tys7, tys8, tys9, tys10, tys11, tys12, tys13, tys14, tys15, tys16, tys17, tys18, tys19, tys20, tys21, tys22, tys23, Try.ntmps13, Try.results13, q, e5]
          refine ⟨(d.app (cons e c nil), r), ⟨hnx.symm, ?_⟩, by simp [len], by repeat constructor⟩
          rw [h2, cutP_cons, if_pos q, app_assoc]; rfl
        · have h3 : cutP b a = d := by rw [h2, cutP_cons, if_neg q, app_nil]
          obtain ⟨k1, k2⟩ := hfin h1 h3
          simp only [run0, run1, run2, run3, run4, run5, run6, run7, run8, run9, run10, run11, run12, run13, run14, run15, run16, run17, run18, run19, run20, run21, run22, reduceCtorEq, Nat.reduceEqDiff, Nat.reduceAdd, Nat.reduceSub, Nat.reduceLeDiff, indexAddrA, indexRefA, appendA, strA, Nat.reduceMul, Nat.zero_mul, Nat.reduceMod, Int.reduceEq, Int.reduceLT, Int.reduceLE, Nat.reduceLT, Nat.lt_irrefl, Nat.reduceBEq, tys0, tys1, tys2, tys3, tys4, tys5, tys6, tys7, tys8, tys9, tys10, tys11, tys12, tys13, tys14, tys15, tys16, tys17, tys18, tys19, tys20, tys21, tys22, tys23, Try.ntmps13, Try.results13, q, elems_length, k1, k2, elems_cells_t, Int.toNat_natCast, Int.natCast_nonneg, Int.le_refl, Int.toNat_zero, true_and, Int.natCast_zero]
          refine RunL.callgp rfl rfl ok_f30 rfl hc (by simp only [pureL, pureB, av_pure, Bool.and_self]) rfl ?_
          simp only [run0, run1, run2, run3, run4, run5, run6, run7, run8, run9, run10, run11, run12, run13, run14, run15, run16, run17, run18, run19, run20, run21, run22, reduceCtorEq, Nat.reduceEqDiff, Nat.reduceAdd, Nat.reduceSub, Nat.reduceLeDiff, indexAddrA, indexRefA, appendA, strA, Nat.reduceMul, Nat.zero_mul, Nat.reduceMod, Int.reduceEq, Int.reduceLT, Int.reduceLE, Nat.reduceLT, Nat.lt_irrefl, Nat.reduceBEq, tys0, tys1, tys2, tys3, tys4, tys5, tys6, tys7, tys8, tys9, tys10, tys11, tys12, tys13, tys14, tys15, tys16, tys17, tys18, tys19, tys20, tys21, tys22, tys23, Try.ntmps13, Try.results13, shA, shL]
          exact Fin.keep (S.map (· + 3)) (by simp [okT, okTL, okT_sh ho]) rfl
    · exact Own.end (k := 3) (fun id => by simp) ho hn

theorem specCut_ok (a b : Su) (ha : a.sz ≤ 1048576) (hb : b.sz ≤ 1048576) : Ct Try.prog 11 [av a, av b] [] (.tup [av (cutR a b), .bool (cutO a b)]) [] := by
  have hla := len_le a
  refine Ct.by_ hmix [] Try.func11 rfl ?_
  simp only [run0, run1, run2, run3, run4, run5, run6, run7, run8, run9, run10, run11, run12, run13, run14, run15, run16, run17, run18, run19, run20, run21, run22, reduceCtorEq, Nat.reduceEqDiff, Nat.reduceAdd, Nat.reduceSub, Nat.reduceLeDiff, indexAddrA, indexRefA, appendA, strA, Nat.reduceMul, Nat.zero_mul, Nat.reduceMod, Int.reduceEq, Int.reduceLT, Int.reduceLE, Nat.reduceLT, Nat.lt_irrefl, Nat.reduceBEq, tys0, tys1, tys2, tys3, tys4, tys5, tys6, tys7, tys8, tys9, tys10, tys11, tys12, tys13, tys14, tys15, tys16, tys17, tys18, tys19, tys20, tys21, tys22, tys23, Try.ntmps11, Try.results11, av]
  refine RunL.callp rfl rfl ok_f24 (odGood_ok a ha) (by first | rfl | simp only [pureL, pureB, Bool.and_self, Bool.and_true, Bool.true_and, Su.elems_pure, Su.pay_pure, Su.av_pure]) rfl ?_
  cases h1 : goodT a
  · rw [show cutO a b = false by simp [cutO, h1], show cutR a b = .nil by simp [cutR, h1]]
    simp only [run0, run1, run2, run3, run4, run5, run6, run7, run8, run9, run10, run11, run12, run13, run14, run15, run16, run17, run18, run19, run20, run21, run22, reduceCtorEq, Nat.reduceEqDiff, Nat.reduceAdd, Nat.reduceSub, Nat.reduceLeDiff, indexAddrA, indexRefA, appendA, strA, Nat.reduceMul, Nat.zero_mul, Nat.reduceMod, Int.reduceEq, Int.reduceLT, Int.reduceLE, Nat.reduceLT, Nat.lt_irrefl, Nat.reduceBEq, tys0, tys1, tys2, tys3, tys4, tys5, tys6, tys7, tys8, tys9, tys10, tys11, tys12, tys13, tys14, tys15, tys16, tys17, tys18, tys19, tys20, tys21, tys22, tys23, Try.ntmps11, Try.results11, h1]
    exact Fin.value (Vw.tup (.cons (Vw.agg (.cons (Vw.nil false) .nil)) (.cons (Vw.pur (Pur.bool _)) .nil)))
  simp only [run0, run1, run2, run3, run4, run5, run6, run7, run8, run9, run10, run11, run12, run13, run14, run15, run16, run17, run18, run19, run20, run21, run22, reduceCtorEq, Nat.reduceEqDiff, Nat.reduceAdd, Nat.reduceSub, Nat.reduceLeDiff, indexAddrA, indexRefA, appendA, strA, Nat.reduceMul, Nat.zero_mul, Nat.reduceMod, Int.reduceEq, Int.reduceLT, Int.reduceLE, Nat.reduceLT, Nat.lt_irrefl, Nat.reduceBEq, tys0, tys1, tys2, tys3, tys4, tys5, tys6, tys7, tys8, tys9, tys10, tys11, tys12, tys13, tys14, tys15, tys16, tys17, tys18, tys19, tys20, tys21, tys22, tys23, Try.ntmps11, Try.results11, h1]
  refine RunL.callp rfl rfl ok_f24 (odGood_ok b hb) (by first | rfl | simp only [pureL, pureB, Bool.and_self, Bool.and_true, Bool.true_and, Su.elems_pure, Su.pay_pure, Su.av_pure]) rfl ?_
  cases h2 : goodT b
  · rw [show cutO a b = false by simp [cutO, h2], show cutR a b = .nil by simp [cutR, h2]]
    simp only [run0, run1, run2, run3, run4, run5, run6, run7, run8, run9, run10, run11, run12, run13, run14, run15, run16, run17, run18, run19, run20, run21, run22, reduceCtorEq, Nat.reduceEqDiff, Nat.reduceAdd, Nat.reduceSub, Nat.reduceLeDiff, indexAddrA, indexRefA, appendA, strA, Nat.reduceMul, Nat.zero_mul, Nat.reduceMod, Int.reduceEq, Int.reduceLT, Int.reduceLE, Nat.reduceLT, Nat.lt_irrefl, Nat.reduceBEq, tys0, tys1, tys2, tys3, tys4, tys5, tys6, tys7, tys8, tys9, tys10, tys11, tys12, tys13, tys14, tys15, tys16, tys17, tys18, tys19, tys20, tys21, tys22, tys23, Try.ntmps11, Try.results11, h2]
    exact Fin.value (Vw.tup (.cons (Vw.agg (.cons (Vw.nil false) .nil)) (.cons (Vw.pur (Pur.bool _)) .nil)))
  have ra := goodT_rng h1
  have rb := goodT_rng h2
  rw [show cutO a b = true by simp [cutO, h1, h2], show cutR a b = cutF b a by simp only [cutR, h1, h2, Bool.and_self, if_true]; rw [cut_eq rb ra (goodT_desc h1)]]
  have hcs := cutF_sz b a
  simp only [run0, run1, run2, run3, run4, run5, run6, run7, run8, run9, run10, run11, run12, run13, run14, run15, run16, run17, run18, run19, run20, run21, run22, reduceCtorEq, Nat.reduceEqDiff, Nat.reduceAdd, Nat.reduceSub, Nat.reduceLeDiff, indexAddrA, indexRefA, appendA, strA, Nat.reduceMul, Nat.zero_mul, Nat.reduceMod, Int.reduceEq, Int.reduceLT, Int.reduceLE, Nat.reduceLT, Nat.lt_irrefl, Nat.reduceBEq, tys0, tys1, tys2, tys3, tys4, tys5, tys6, tys7, tys8, tys9, tys10, tys11, tys12, tys13, tys14, tys15, tys16, tys17, tys18, tys19, tys20, tys21, tys22, tys23, Try.ntmps11, Try.results11, h2]
  refine AWp.nilB 3 0 62 3 rfl rfl ?_
  simp only [run0, run1, run2, run3, run4, run5, run6, run7, run8, run9, run10, run11, run12, run13, run14, run15, run16, run17, run18, run19, run20, run21, run22, reduceCtorEq, Nat.reduceEqDiff, Nat.reduceAdd, Nat.reduceSub, Nat.reduceLeDiff, indexAddrA, indexRefA, appendA, strA, Nat.reduceMul, Nat.zero_mul, Nat.reduceMod, Int.reduceEq, Int.reduceLT, Int.reduceLE, Nat.reduceLT, Nat.lt_irrefl, Nat.reduceBEq, tys0, tys1, tys2, tys3, tys4, tys5, tys6, tys7, tys8, tys9, tys10, tys11, tys12, tys13, tys14, tys15, tys16, tys17, tys18, tys19, tys20, tys21, tys22, tys23, Try.ntmps11, Try.results11, elems_length]
  refine AWp.loop_inv (ι := Su × Su × List AObj) (fun p => ⟨[.agg [.sl false (elems a)], .agg [.sl false (elems b)], .ptr 0 0, .ptr 1 0, .ptr 2 0, .bool false, .ptr 3 0, .junk, .junk, .junk, .junk, .junk, .junk, .junk, .junk, .junk, .junk, .junk, .junk, .junk, .sl false (elems a), .int .i64 a.len, .int .i64 p.1.len, .junk, .junk, .junk, .junk, .junk, .junk, .junk, .junk, .junk, .junk, .junk, .junk, .junk, .junk, .junk, .junk, .junk],
      .box 39 [.sl false (elems a)] :: .box 39 [.sl false (elems b)] :: .box 39 [nilV] :: .box 39 [.ref 4 [] (cutF b p.1).len (cutF b p.1).len] :: .vec 62 3 (cutF b p.1).len (elems (cutF b p.1)) :: p.2.2⟩)
    (fun p => a = p.1.app p.2.1) (fun p => p.2.1.len) (.nil, a, []) rfl ⟨by simp only [len, Int.natCast_zero]; repeat constructor, rfl⟩ ?_
  rintro ⟨d, r, X⟩ ha1
  refine W.sound hmix (E := []) ?_
  simp only at ha1
  have hdl : d.sz ≤ a.sz := by rw [ha1, sz_app]; omega
  have hcd := cutF_sz b d
  have hcl := len_le (cutF b d)
  have f3 : (cutF b d).len + 1 ≤ 137438953472 := by omega
  have f4 := elems_noOwn (cutF b d)
  cases r with
  | nil =>
    obtain ⟨e1, e0⟩ := od_end ha1
    have e0' : d = a := by rw [ha1, app_nil]
    subst e0'
    obtain ⟨x, M, hc, S, ho, hn, hM⟩ := ownS_ok (cutF b d) (by omega)
    generalize hM' : M.map (shO (X.length + 1 + 1 + 1 + 1 + 1)) = N
    have oo : ∀ B0 B1 B2 B3 B4 : AObj, OwnR (B0 :: B1 :: B2 :: B3 :: B4 :: (X ++ N)) 62 3 (cutF b d) (shA (X.length + 1 + 1 + 1 + 1 + 1) x) (S.map (· + (X.length + 1 + 1 + 1 + 1 + 1))) := fun B0 B1 B2 B3 B4 =>
      OwnR.sh (fun id => by
        rw [show id + (X.length + 1 + 1 + 1 + 1 + 1) = (X.length + id) + 5 by omega]
        simp only [List.getElem?_cons_succ]
        rw [getXn, ← hM', List.getElem?_map]) ho
    have oS : okS (.agg [x]) = true := by have := okT_okS ho.form.1; simp [okS, okSL, this]
    generalize hG : shA (X.length + 1 + 1 + 1 + 1 + 1) x = G0 at *
    simp only [run0, run1, run2, run3, run4, run5, run6, run7, run8, run9, run10, run11, run12, run13, run14, run15, run16, run17, run18, run19, run20, run21, run22, reduceCtorEq, Nat.reduceEqDiff, Nat.reduceAdd, Nat.reduceSub, Nat.reduceLeDiff, indexAddrA, indexRefA, appendA, strA, Nat.reduceMul, Nat.zero_mul, Nat.reduceMod, Int.reduceEq, Int.reduceLT, Int.reduceLE, Nat.reduceLT, Nat.lt_irrefl, Nat.reduceBEq, tys0, tys1, tys2, tys3, tys4, tys5, tys6, tys7, tys8, tys9, tys10, tys11, tys12, tys13, tys14, tys15, tys16, tys17, tys18, tys19, tys20, tys21, tys22, tys23, Try.ntmps11, Try.results11, elems_length, e1]
    refine RunL.lendGV rfl rfl ok_f26 rfl hc (.cons (Vw.agg (.cons (Vw_elems (T := 62) rfl rfl rfl) .nil)) .nil) oS hM rfl ?_
    simp only [run0, run1, run2, run3, run4, run5, run6, run7, run8, run9, run10, run11, run12, run13, run14, run15, run16, run17, run18, run19, run20, run21, run22, reduceCtorEq, Nat.reduceEqDiff, Nat.reduceAdd, Nat.reduceSub, Nat.reduceLeDiff, indexAddrA, indexRefA, appendA, strA, Nat.reduceMul, Nat.zero_mul, Nat.reduceMod, Int.reduceEq, Int.reduceLT, Int.reduceLE, Nat.reduceLT, Nat.lt_irrefl, Nat.reduceBEq, tys0, tys1, tys2, tys3, tys4, tys5, tys6, tys7, tys8, tys9, tys10, tys11, tys12, tys13, tys14, tys15, tys16, tys17, tys18, tys19, tys20, tys21, tys22, tys23, Try.ntmps11, Try.results11, shA, shL, hM', hG]
    exact Fin.value (Vw.tup (.cons (vw1 (oo _ _ _ _ _)) (.cons (Vw.pur (Pur.bool _)) .nil)))
  | cons e c r =>
    obtain ⟨e1, e2, e5, hlt, hnx, _⟩ := od_step ha1 ha
    have ra' := ra
    rw [ha1] at ra'
    have ra' := rng_app ra'
    have hk : cutF b (d.app (cons e c nil)) = if 0 < cmpT e b then (cutF b d).app (cons e c nil) else cutF b d := by
      rw [cutF_app]; simp only [cutF]; split
      · rfl
      · exact app_nil _
    simp only [run0, run1, run2, run3, run4, run5, run6, run7, run8, run9, run10, run11, run12, run13, run14, run15, run16, run17, run18, run19, run20, run21, run22, reduceCtorEq, Nat.reduceEqDiff, Nat.reduceAdd, Nat.reduceSub, Nat.reduceLeDiff, indexAddrA, indexRefA, appendA, strA, Nat.reduceMul, Nat.zero_mul, Nat.reduceMod, Int.reduceEq, Int.reduceLT, Int.reduceLE, Nat.reduceLT, Nat.lt_irrefl, Nat.reduceBEq, tys0, tys1, tys2, tys3, tys4, tys5, tys6, tys7, tys8, tys9, tys10, tys11, tys12, tys13, tys14, tys15, tys16, tys17, tys18, tys19, tys20, tys21, tys22, tys23, Try.ntmps11, Try.results11, elems_length, e1, e2, Int.toNat_natCast, Int.natCast_nonneg]
    refine RunL.callp rfl rfl ok_f25 (odCmp_ok e b (by omega) hb ra'.2.1 rb) (by first | rfl | simp only [pureL, pureB, Bool.and_self, Bool.and_true, Bool.true_and, Su.elems_pure, Su.pay_pure, Su.av_pure]) rfl ?_
    by_cases q : 0 < cmpT e b
    · rw [if_pos q] at hk
      simp only [run0, run1, run2, run3, run4, run5, run6, run7, run8, run9, run10, run11, run12, run13, run14, run15, run16, run17, run18, run19, run20, run21, run22, reduceCtorEq, Nat.reduceEqDiff, Nat.reduceAdd, Nat.reduceSub, Nat.reduceLeDiff, indexAddrA, indexRefA, appendA, strA, Nat.reduceMul, Nat.zero_mul, Nat.reduceMod, Int.reduceEq, Int.reduceLT, Int.reduceLE, Nat.reduceLT, Nat.lt_irrefl, Nat.reduceBEq, tys0, tys1, tys2, tys3, tys4, tys5, tys6, tys7, tys8, tys9, tys10, tys11, tys12, tys13, tys14, tys15, tys16, tys17, tys18, tys19, tys20, tys21, tys22, tys23, Try.ntmps11, Try.results11, q, f3, f4, e5, elems_length]
      exact ⟨(d.app (cons e c nil), r, X ++ [.box 62 [.sl false (elems e), .int .i64 c.1, .int .i64 c.2]]), hnx.symm, by simp [len], by simp only [hk, len_app, len]; repeat constructor, by simp only [hk, len_app, len, elems_app, elems, pay, List.cons_append, Nat.zero_add]⟩
    · rw [if_neg q] at hk
      simp only [run0, run1, run2, run3, run4, run5, run6, run7, run8, run9, run10, run11, run12, run13, run14, run15, run16, run17, run18, run19, run20, run21, run22, reduceCtorEq, Nat.reduceEqDiff, Nat.reduceAdd, Nat.reduceSub, Nat.reduceLeDiff, indexAddrA, indexRefA, appendA, strA, Nat.reduceMul, Nat.zero_mul, Nat.reduceMod, Int.reduceEq, Int.reduceLT, Int.reduceLE, Nat.reduceLT, Nat.lt_irrefl, Nat.reduceBEq, tys0, tys1, tys2, tys3, tys4, tys5, tys6, tys7, tys8, tys9, tys10, tys11, tys12, tys13, tys14, tys15, tys16, tys17, tys18, tys19, tys20, tys21, tys22, tys23, Try.ntmps11, Try.results11, q, e5]
      exact ⟨(d.app (cons e c nil), r, X ++ [.box 62 [.sl false (elems e), .int .i64 c.1, .int .i64 c.2]]), hnx.symm, by simp [len], by simp only [hk]; repeat constructor, by simp only [hk, List.cons_append]⟩

theorem FnExactCutSurreal_ok {a0 a1 : AV} (h0 : IsOf Try.prog 35 a0) (h1 : IsOf Try.prog 35 a1) : Ct Try.prog 4 [a0, a1] [] (.bool true) [] := by
  obtain ⟨a, rfl, hf⟩ := laws_isOd h0
  obtain ⟨b, rfl, hft2⟩ := laws_isOd h1
  rcases szR_spec a.sz 1048576 with ⟨hs, hr⟩ | ⟨hs, hr⟩
  case inr =>
    refine Ct.by_ hmix [] Try.func4 rfl ?_
    simp only [run0, run1, run2, run3, run4, run5, run6, run7, run8, run9, run10, run11, run12, run13, run14, run15, run16, run17, run18, run19, run20, run21, run22, reduceCtorEq, Nat.reduceEqDiff, Nat.reduceAdd, Nat.reduceSub, Nat.reduceLeDiff, indexAddrA, indexRefA, appendA, strA, Nat.reduceMul, Nat.zero_mul, Nat.reduceMod, Int.reduceEq, Int.reduceLT, Int.reduceLE, Nat.reduceLT, Nat.lt_irrefl, Nat.reduceBEq, tys0, tys1, tys2, tys3, tys4, tys5, tys6, tys7, tys8, tys9, tys10, tys11, tys12, tys13, tys14, tys15, tys16, tys17, tys18, tys19, tys20, tys21, tys22, tys23, Try.ntmps4, Try.results4, av]
    refine RunL.callp rfl rfl ok_f10 (szSurreal_ok a 1048576 hf (by omega) (by omega)) (by first | rfl | simp only [pureL, pureB, Bool.and_self, Bool.and_true, Bool.true_and, Su.elems_pure, Su.pay_pure, Su.av_pure]) rfl ?_
    have e1 : szR a.sz 1048576 < 0 := by omega
    simp only [run0, run1, run2, run3, run4, run5, run6, run7, run8, run9, run10, run11, run12, run13, run14, run15, run16, run17, run18, run19, run20, run21, run22, reduceCtorEq, Nat.reduceEqDiff, Nat.reduceAdd, Nat.reduceSub, Nat.reduceLeDiff, indexAddrA, indexRefA, appendA, strA, Nat.reduceMul, Nat.zero_mul, Nat.reduceMod, Int.reduceEq, Int.reduceLT, Int.reduceLE, Nat.reduceLT, Nat.lt_irrefl, Nat.reduceBEq, tys0, tys1, tys2, tys3, tys4, tys5, tys6, tys7, tys8, tys9, tys10, tys11, tys12, tys13, tys14, tys15, tys16, tys17, tys18, tys19, tys20, tys21, tys22, tys23, Try.ntmps4, Try.results4, e1]
    exact Fin.eq rfl rfl
  have ha : a.sz ≤ 1048576 := by omega
  have e1 : ¬ (szR a.sz 1048576 < 0) := by omega
  rcases szR_spec b.sz (szR a.sz 1048576) with ⟨hs2, hr2⟩ | ⟨hs2, hr2⟩
  case inr =>
    refine Ct.by_ hmix [] Try.func4 rfl ?_
    simp only [run0, run1, run2, run3, run4, run5, run6, run7, run8, run9, run10, run11, run12, run13, run14, run15, run16, run17, run18, run19, run20, run21, run22, reduceCtorEq, Nat.reduceEqDiff, Nat.reduceAdd, Nat.reduceSub, Nat.reduceLeDiff, indexAddrA, indexRefA, appendA, strA, Nat.reduceMul, Nat.zero_mul, Nat.reduceMod, Int.reduceEq, Int.reduceLT, Int.reduceLE, Nat.reduceLT, Nat.lt_irrefl, Nat.reduceBEq, tys0, tys1, tys2, tys3, tys4, tys5, tys6, tys7, tys8, tys9, tys10, tys11, tys12, tys13, tys14, tys15, tys16, tys17, tys18, tys19, tys20, tys21, tys22, tys23, Try.ntmps4, Try.results4, av]
    refine RunL.callp rfl rfl ok_f10 (szSurreal_ok a 1048576 hf (by omega) (by omega)) (by first | rfl | simp only [pureL, pureB, Bool.and_self, Bool.and_true, Bool.true_and, Su.elems_pure, Su.pay_pure, Su.av_pure]) rfl ?_
    simp only [run0, run1, run2, run3, run4, run5, run6, run7, run8, run9, run10, run11, run12, run13, run14, run15, run16, run17, run18, run19, run20, run21, run22, reduceCtorEq, Nat.reduceEqDiff, Nat.reduceAdd, Nat.reduceSub, Nat.reduceLeDiff, indexAddrA, indexRefA, appendA, strA, Nat.reduceMul, Nat.zero_mul, Nat.reduceMod, Int.reduceEq, Int.reduceLT, Int.reduceLE, Nat.reduceLT, Nat.lt_irrefl, Nat.reduceBEq, tys0, tys1, tys2, tys3, tys4, tys5, tys6, tys7, tys8, tys9, tys10, tys11, tys12, tys13, tys14, tys15, tys16, tys17, tys18, tys19, tys20, tys21, tys22, tys23, Try.ntmps4, Try.results4, e1]
    refine RunL.callp rfl rfl ok_f10 (szSurreal_ok b (szR a.sz 1048576) hft2 (by omega) (by omega)) (by first | rfl | simp only [pureL, pureB, Bool.and_self, Bool.and_true, Bool.true_and, Su.elems_pure, Su.pay_pure, Su.av_pure]) rfl ?_
    have e2 : szR b.sz (szR a.sz 1048576) < 0 := by omega
    simp only [run0, run1, run2, run3, run4, run5, run6, run7, run8, run9, run10, run11, run12, run13, run14, run15, run16, run17, run18, run19, run20, run21, run22, reduceCtorEq, Nat.reduceEqDiff, Nat.reduceAdd, Nat.reduceSub, Nat.reduceLeDiff, indexAddrA, indexRefA, appendA, strA, Nat.reduceMul, Nat.zero_mul, Nat.reduceMod, Int.reduceEq, Int.reduceLT, Int.reduceLE, Nat.reduceLT, Nat.lt_irrefl, Nat.reduceBEq, tys0, tys1, tys2, tys3, tys4, tys5, tys6, tys7, tys8, tys9, tys10, tys11, tys12, tys13, tys14, tys15, tys16, tys17, tys18, tys19, tys20, tys21, tys22, tys23, Try.ntmps4, Try.results4, e2]
    exact Fin.eq rfl rfl
  have hb : b.sz ≤ 1048576 := by omega
  have e2 : ¬ (szR b.sz (szR a.sz 1048576) < 0) := by omega
  generalize hR : cutR a b = R
  generalize hO : cutO a b = ok
  have hsp := specCut_ok a b ha hb
  obtain ⟨g, M1, hi, S1, ho1, hn1, hM1⟩ := implCut_ok a b ha hb
  rw [hR, hO] at hsp
  rw [hO] at hi
  rw [hR] at ho1
  have hRs : R.sz ≤ 1048576 := by rw [← hR]; exact cutR_sz a b ha hb
  obtain ⟨x, M0, hx, S0, ho0, hn0, hM0⟩ := toSurrealOwn_ok a ha
  obtain ⟨y, My, hy, Sy, hoy, hny, hMy⟩ := toSurrealOwn_ok b hb
  generalize hB1 : AObj.box 35 [.sl false (elems a)] = B1 at *
  generalize hB2 : AObj.box 35 [.sl false (elems b)] = B2 at *
  generalize hBW : AObj.box 39 [.sl false (elems R)] = BW at *
  -- the memory behind all
  generalize hM0' : M0.map (shO 3) = N0 at *
  generalize hMy' : My.map (shO (N0.length + 1 + 1 + 1 + 1)) = Ny at *
  generalize hM1' : M1.map (shO (N0.length + (Ny.length + 1 + 1) + 1 + 1 + 1)) = N1 at *
  have ox : ∀ X, OwnR (B1 :: B2 :: BW :: (N0 ++ X)) 62 3 a (shA 3 x) (S0.map (· + 3)) := fun X =>
    (OwnR.sh (L' := B1 :: B2 :: BW :: N0) (fun id => by simp [← hM0']) ho0).more X
  generalize hx' : shA 3 x = X0 at *
  have n0 := nodup_add 3 hn0
  generalize hS0 : S0.map (· + 3) = T0 at *
  generalize hBX : AObj.box 39 [X0] = BX at *
  have oy : ∀ X, OwnR (B1 :: B2 :: BW :: (N0 ++ BX :: (Ny ++ X))) 62 3 b (shA (N0.length + 1 + 1 + 1 + 1) y) (Sy.map (· + (N0.length + 1 + 1 + 1 + 1))) := fun X => by
    have := (OwnR.sh (L' := B1 :: B2 :: BW :: (N0 ++ BX :: Ny)) (fun id => by
      rw [show id + (N0.length + 1 + 1 + 1 + 1) = (N0.length + (id + 1)) + 3 by omega]
      simp only [List.getElem?_cons_succ]
      rw [getXn, List.getElem?_cons_succ, ← hMy', List.getElem?_map]) hoy).more X
    simp only [List.cons_append, List.append_assoc] at this
    exact this
  have ny := nodup_add (N0.length + 1 + 1 + 1 + 1) hny
  generalize hY : shA (N0.length + 1 + 1 + 1 + 1) y = Y0 at *
  generalize hSy : Sy.map (· + (N0.length + 1 + 1 + 1 + 1)) = Ty at *
  generalize hBY : AObj.box 39 [Y0] = BY at *
  have og : ∀ X, OwnR (B1 :: B2 :: BW :: (N0 ++ BX :: (Ny ++ BY :: (N1 ++ X)))) 62 3 R (shA (N0.length + (Ny.length + 1 + 1) + 1 + 1 + 1) g) (S1.map (· + (N0.length + (Ny.length + 1 + 1) + 1 + 1 + 1))) := fun X => by
    have := (OwnR.sh (L' := B1 :: B2 :: BW :: (N0 ++ BX :: (Ny ++ BY :: N1))) (fun id => by
      rw [show id + (N0.length + (Ny.length + 1 + 1) + 1 + 1 + 1) = (N0.length + ((Ny.length + (id + 1)) + 1)) + 3 by omega]
      simp only [List.getElem?_cons_succ]
      rw [getXn, List.getElem?_cons_succ, getXn, List.getElem?_cons_succ, ← hM1', List.getElem?_map]) ho1).more X
    simp only [List.cons_append, List.append_assoc] at this
    exact this
  have n1 := nodup_add (N0.length + (Ny.length + 1 + 1) + 1 + 1 + 1) hn1
  have oS : okS (.tup [.agg [g], .bool ok]) = true := okS_res ho1.form.1
  generalize hG : shA (N0.length + (Ny.length + 1 + 1) + 1 + 1 + 1) g = G0 at *
  generalize hS1 : S1.map (· + (N0.length + (Ny.length + 1 + 1) + 1 + 1 + 1)) = T1 at *
  have xlt : ∀ id ∈ T0, id < N0.length + 3 := fun id hid => by have := (ox []).lt id hid; simpa using this
  have ylo : ∀ id ∈ Ty, N0.length + 4 ≤ id := fun id hid => by
    rw [← hSy] at hid
    obtain ⟨q, _, rfl⟩ := List.mem_map.1 hid
    omega
  have ylt : ∀ id ∈ Ty, id < N0.length + Ny.length + 4 := fun id hid => by
    have := (oy []).lt id hid
    simp at this; omega
  have glo : ∀ id ∈ T1, N0.length + Ny.length + 5 ≤ id := fun id hid => by
    rw [← hS1] at hid
    obtain ⟨q, _, rfl⟩ := List.mem_map.1 hid
    omega
  have nbox : ∀ {L : List AObj} {b : Su} {y : AV} {S : List Nat} {id : Nat} {T : TypeId} {cs : List AV}, OwnR L 62 3 b y S → L[id]? = some (.box T cs) → id ∉ S := fun h hb hid => by
    obtain ⟨_, _, h2, _⟩ := h.objs _ hid
    rw [hb] at h2; cases h2
  generalize hBG : AObj.box 39 [G0] = BG at *
  -- the marks of the arguments
  obtain ⟨L0, hc0, hm0, hf0, hl0⟩ := markSurreal_ok a X0 T0 (B1 :: B2 :: BW :: (N0 ++ BX :: (Ny ++ BY :: (N1 ++ [BG])))) 1 (ox _) n0 (by omega) (by omega)
  have keep0 : ∀ (id : Nat) o, (B1 :: B2 :: BW :: (N0 ++ BX :: (Ny ++ BY :: (N1 ++ [BG]))) : List AObj)[id]? = some o → id ∉ T0 → L0[id]? = some o := fun id o h hn => by
    rw [hf0 id hn (List.getElem?_eq_some_iff.1 h).1]; exact h
  have keepB0 : ∀ (id : Nat) T cs, (B1 :: B2 :: BW :: (N0 ++ BX :: (Ny ++ BY :: (N1 ++ [BG]))) : List AObj)[id]? = some (.box T cs) → L0[id]? = some (.box T cs) := fun id T cs h => keep0 id _ h (nbox (ox _) h)
  have oy0 : OwnR L0 62 3 b Y0 Ty := (oy _).mono fun id hid g1 es1 h => keep0 id _ h (fun h2 => by have := xlt id h2; have := ylo id hid; omega)
  have og0 : OwnR L0 62 3 R G0 T1 := (og _).mono fun id hid g1 es1 h => keep0 id _ h (fun h2 => by have := xlt id h2; have := glo id hid; omega)
  have s0 : L0[0]? = some B1 := by rw [← hB1]; exact keepB0 0 _ _ (by rw [hB1]; rfl)
  have s1 : L0[1]? = some B2 := by rw [← hB2]; exact keepB0 1 _ _ (by rw [hB2]; rfl)
  have s2 : L0[2]? = some BW := by rw [← hBW]; exact keepB0 2 _ _ (by rw [hBW]; rfl)
  have s9 : L0[N0.length + (Ny.length + 1) + 1 + 1 + 1]? = some BY := by
    rw [← hBY]; exact keepB0 _ _ _ (by rw [hBY]; simp only [List.getElem?_cons_succ, getXn, getX0, List.getElem?_cons_zero])
  have s10 : L0[N0.length + (Ny.length + (N1.length + 1) + 1) + 1 + 1 + 1]? = some BG := by
    rw [← hBG]; exact keepB0 _ _ _ (by rw [hBG]; simp only [List.getElem?_cons_succ, getXn, getX0, List.getElem?_cons_zero])
  obtain ⟨L1, hc1, hm1, hf1, hl1⟩ := markSurreal_ok b Y0 Ty L0 (1 + 2 * a.sz) oy0 ny (by omega) (by omega)
  have keepB1 : ∀ {id : Nat} {T : TypeId} {cs : List AV}, L0[id]? = some (.box T cs) → L1[id]? = some (.box T cs) := fun h => by
    rw [hf1 _ (nbox oy0 h) (List.getElem?_eq_some_iff.1 h).1]; exact h
  have q0 : L1[0]? = some B1 := by rw [← hB1] at *; exact keepB1 s0
  have q1 : L1[1]? = some B2 := by rw [← hB2] at *; exact keepB1 s1
  have q2 : L1[2]? = some BW := by rw [← hBW] at *; exact keepB1 s2
  have q10 : L1[N0.length + (Ny.length + (N1.length + 1) + 1) + 1 + 1 + 1]? = some BG := by rw [← hBG] at *; exact keepB1 s10
  have og1 : OwnR L1 62 3 R G0 T1 := og0.mono fun id hid g1 es1 h => by
    rw [hf1 id (fun h2 => by have := ylt id h2; have := glo id hid; omega) (List.getElem?_eq_some_iff.1 h).1]; exact h
  -- the marks of the result
  obtain ⟨L2, hc2, og2, hf2, hl2⟩ := markSurreal_ok R G0 T1 L1 1 og1 n1 (by omega) (by omega)
  have keepB2 : ∀ {id : Nat} {T : TypeId} {cs : List AV}, L1[id]? = some (.box T cs) → L2[id]? = some (.box T cs) := fun h => by
    rw [hf2 _ (nbox og1 h) (List.getElem?_eq_some_iff.1 h).1]; exact h
  have p0 : L2[0]? = some B1 := by rw [← hB1] at *; exact keepB2 q0
  have p1 : L2[1]? = some B2 := by rw [← hB2] at *; exact keepB2 q1
  have p2 : L2[2]? = some BW := by rw [← hBW] at *; exact keepB2 q2
  have p10 : L2[N0.length + (Ny.length + (N1.length + 1) + 1) + 1 + 1 + 1]? = some BG := by rw [← hBG] at *; exact keepB2 q10
  have r2 : ∀ X, (L2 ++ X)[2]? = some BW := fun X => by rw [List.getElem?_append_left (List.getElem?_eq_some_iff.1 p2).1]; exact p2
  have r10 : ∀ X, (L2 ++ X)[N0.length + (Ny.length + (N1.length + 1) + 1) + 1 + 1 + 1]? = some BG := fun X => by rw [List.getElem?_append_left (List.getElem?_eq_some_iff.1 p10).1]; exact p10
  have oh : ∀ X, OwnR (L2 ++ (M1.map (shO L2.length) ++ X)) 62 3 R (shA L2.length g) (S1.map (· + L2.length)) := fun X => by
    rw [← List.append_assoc]; exact (OwnR.sh (more_get L2 M1) ho1).more X
  have hiv : Ct Try.prog 13 [av a, av b] [] (.tup [av R, .bool ok]) [] := hi.toV (Vw.tup (.cons (Vw.agg (.cons (ho1.view false) .nil)) (.cons (Vw.pur (Pur.bool _)) .nil)))
  have e3 : ¬ (1 + 2 * (a.sz : Int) + 2 * (b.sz : Int) < 0) := by omega
  have e4 : ¬ (1 + 2 * (R.sz : Int) < 0) := by omega
  subst hB1 hB2 hBW hBX hBY hBG
  refine Ct.by_ hmix [14] Try.func4 rfl ?_
  simp only [run0, run1, run2, run3, run4, run5, run6, run7, run8, run9, run10, run11, run12, run13, run14, run15, run16, run17, run18, run19, run20, run21, run22, reduceCtorEq, Nat.reduceEqDiff, Nat.reduceAdd, Nat.reduceSub, Nat.reduceLeDiff, indexAddrA, indexRefA, appendA, strA, Nat.reduceMul, Nat.zero_mul, Nat.reduceMod, Int.reduceEq, Int.reduceLT, Int.reduceLE, Nat.reduceLT, Nat.lt_irrefl, Nat.reduceBEq, tys0, tys1, tys2, tys3, tys4, tys5, tys6, tys7, tys8, tys9, tys10, tys11, tys12, tys13, tys14, tys15, tys16, tys17, tys18, tys19, tys20, tys21, tys22, tys23, Try.ntmps4, Try.results4, av]
  refine RunL.callp rfl rfl ok_f10 (szSurreal_ok a 1048576 hf (by omega) (by omega)) (by first | rfl | simp only [pureL, pureB, Bool.and_self, Bool.and_true, Bool.true_and, Su.elems_pure, Su.pay_pure, Su.av_pure]) rfl ?_
  simp only [run0, run1, run2, run3, run4, run5, run6, run7, run8, run9, run10, run11, run12, run13, run14, run15, run16, run17, run18, run19, run20, run21, run22, reduceCtorEq, Nat.reduceEqDiff, Nat.reduceAdd, Nat.reduceSub, Nat.reduceLeDiff, indexAddrA, indexRefA, appendA, strA, Nat.reduceMul, Nat.zero_mul, Nat.reduceMod, Int.reduceEq, Int.reduceLT, Int.reduceLE, Nat.reduceLT, Nat.lt_irrefl, Nat.reduceBEq, tys0, tys1, tys2, tys3, tys4, tys5, tys6, tys7, tys8, tys9, tys10, tys11, tys12, tys13, tys14, tys15, tys16, tys17, tys18, tys19, tys20, tys21, tys22, tys23, Try.ntmps4, Try.results4, e1]
  refine RunL.callp rfl rfl ok_f10 (szSurreal_ok b (szR a.sz 1048576) hft2 (by omega) (by omega)) (by first | rfl | simp only [pureL, pureB, Bool.and_self, Bool.and_true, Bool.true_and, Su.elems_pure, Su.pay_pure, Su.av_pure]) rfl ?_
  simp only [run0, run1, run2, run3, run4, run5, run6, run7, run8, run9, run10, run11, run12, run13, run14, run15, run16, run17, run18, run19, run20, run21, run22, reduceCtorEq, Nat.reduceEqDiff, Nat.reduceAdd, Nat.reduceSub, Nat.reduceLeDiff, indexAddrA, indexRefA, appendA, strA, Nat.reduceMul, Nat.zero_mul, Nat.reduceMod, Int.reduceEq, Int.reduceLT, Int.reduceLE, Nat.reduceLT, Nat.lt_irrefl, Nat.reduceBEq, tys0, tys1, tys2, tys3, tys4, tys5, tys6, tys7, tys8, tys9, tys10, tys11, tys12, tys13, tys14, tys15, tys16, tys17, tys18, tys19, tys20, tys21, tys22, tys23, Try.ntmps4, Try.results4, e2]
  refine ⟨by kernel_rfl, ?_⟩
  refine RunL.callp rfl rfl ok_f12 (toSurreal_ok a ha) (by first | rfl | simp only [pureL, pureB, Bool.and_self, Bool.and_true, Bool.true_and, Su.elems_pure, Su.pay_pure, Su.av_pure]) rfl ?_
  simp only [run0, run1, run2, run3, run4, run5, run6, run7, run8, run9, run10, run11, run12, run13, run14, run15, run16, run17, run18, run19, run20, run21, run22, reduceCtorEq, Nat.reduceEqDiff, Nat.reduceAdd, Nat.reduceSub, Nat.reduceLeDiff, indexAddrA, indexRefA, appendA, strA, Nat.reduceMul, Nat.zero_mul, Nat.reduceMod, Int.reduceEq, Int.reduceLT, Int.reduceLE, Nat.reduceLT, Nat.lt_irrefl, Nat.reduceBEq, tys0, tys1, tys2, tys3, tys4, tys5, tys6, tys7, tys8, tys9, tys10, tys11, tys12, tys13, tys14, tys15, tys16, tys17, tys18, tys19, tys20, tys21, tys22, tys23, Try.ntmps4, Try.results4, av]
  refine RunL.callp rfl rfl ok_f12 (toSurreal_ok b hb) (by first | rfl | simp only [pureL, pureB, Bool.and_self, Bool.and_true, Bool.true_and, Su.elems_pure, Su.pay_pure, Su.av_pure]) rfl ?_
  simp only [run0, run1, run2, run3, run4, run5, run6, run7, run8, run9, run10, run11, run12, run13, run14, run15, run16, run17, run18, run19, run20, run21, run22, reduceCtorEq, Nat.reduceEqDiff, Nat.reduceAdd, Nat.reduceSub, Nat.reduceLeDiff, indexAddrA, indexRefA, appendA, strA, Nat.reduceMul, Nat.zero_mul, Nat.reduceMod, Int.reduceEq, Int.reduceLT, Int.reduceLE, Nat.reduceLT, Nat.lt_irrefl, Nat.reduceBEq, tys0, tys1, tys2, tys3, tys4, tys5, tys6, tys7, tys8, tys9, tys10, tys11, tys12, tys13, tys14, tys15, tys16, tys17, tys18, tys19, tys20, tys21, tys22, tys23, Try.ntmps4, Try.results4, av]
  refine RunL.callp rfl rfl ok_f11 (hsp) (by first | rfl | simp only [pureL, pureB, Bool.and_self, Bool.and_true, Bool.true_and, Su.elems_pure, Su.pay_pure, Su.av_pure]) rfl ?_
  simp only [run0, run1, run2, run3, run4, run5, run6, run7, run8, run9, run10, run11, run12, run13, run14, run15, run16, run17, run18, run19, run20, run21, run22, reduceCtorEq, Nat.reduceEqDiff, Nat.reduceAdd, Nat.reduceSub, Nat.reduceLeDiff, indexAddrA, indexRefA, appendA, strA, Nat.reduceMul, Nat.zero_mul, Nat.reduceMod, Int.reduceEq, Int.reduceLT, Int.reduceLE, Nat.reduceLT, Nat.lt_irrefl, Nat.reduceBEq, tys0, tys1, tys2, tys3, tys4, tys5, tys6, tys7, tys8, tys9, tys10, tys11, tys12, tys13, tys14, tys15, tys16, tys17, tys18, tys19, tys20, tys21, tys22, tys23, Try.ntmps4, Try.results4, av]
  refine RunL.callgp rfl rfl ok_f12 rfl hx (by simp only [pureL, pureB, av_pure, Bool.and_self]) rfl ?_
  simp only [run0, run1, run2, run3, run4, run5, run6, run7, run8, run9, run10, run11, run12, run13, run14, run15, run16, run17, run18, run19, run20, run21, run22, reduceCtorEq, Nat.reduceEqDiff, Nat.reduceAdd, Nat.reduceSub, Nat.reduceLeDiff, indexAddrA, indexRefA, appendA, strA, Nat.reduceMul, Nat.zero_mul, Nat.reduceMod, Int.reduceEq, Int.reduceLT, Int.reduceLE, Nat.reduceLT, Nat.lt_irrefl, Nat.reduceBEq, tys0, tys1, tys2, tys3, tys4, tys5, tys6, tys7, tys8, tys9, tys10, tys11, tys12, tys13, tys14, tys15, tys16, tys17, tys18, tys19, tys20, tys21, tys22, tys23, Try.ntmps4, Try.results4, shA, shL, hx', hM0', setXn]
  refine RunL.callgp rfl rfl ok_f12 rfl hy (by simp only [pureL, pureB, av_pure, Bool.and_self]) rfl ?_
  simp only [run0, run1, run2, run3, run4, run5, run6, run7, run8, run9, run10, run11, run12, run13, run14, run15, run16, run17, run18, run19, run20, run21, run22, reduceCtorEq, Nat.reduceEqDiff, Nat.reduceAdd, Nat.reduceSub, Nat.reduceLeDiff, indexAddrA, indexRefA, appendA, strA, Nat.reduceMul, Nat.zero_mul, Nat.reduceMod, Int.reduceEq, Int.reduceLT, Int.reduceLE, Nat.reduceLT, Nat.lt_irrefl, Nat.reduceBEq, tys0, tys1, tys2, tys3, tys4, tys5, tys6, tys7, tys8, tys9, tys10, tys11, tys12, tys13, tys14, tys15, tys16, tys17, tys18, tys19, tys20, tys21, tys22, tys23, Try.ntmps4, Try.results4, shA, shL, hY, hMy', setXn]
  refine RunL.lendGV rfl rfl ok_f13 rfl hi (.cons (vw1 (ox _)) (.cons (vw1 (oy _)) .nil)) oS hM1 rfl ?_
  simp only [run0, run1, run2, run3, run4, run5, run6, run7, run8, run9, run10, run11, run12, run13, run14, run15, run16, run17, run18, run19, run20, run21, run22, reduceCtorEq, Nat.reduceEqDiff, Nat.reduceAdd, Nat.reduceSub, Nat.reduceLeDiff, indexAddrA, indexRefA, appendA, strA, Nat.reduceMul, Nat.zero_mul, Nat.reduceMod, Int.reduceEq, Int.reduceLT, Int.reduceLE, Nat.reduceLT, Nat.lt_irrefl, Nat.reduceBEq, tys0, tys1, tys2, tys3, tys4, tys5, tys6, tys7, tys8, tys9, tys10, tys11, tys12, tys13, tys14, tys15, tys16, tys17, tys18, tys19, tys20, tys21, tys22, tys23, Try.ntmps4, Try.results4, shA, shL, hM1', hG, setXn]
  refine RunL.lendV rfl rfl ok_f14 rfl (eqSurreal_ok R R hRs) (vwl2 (og _)) rfl rfl ?_
  simp only [run0, run1, run2, run3, run4, run5, run6, run7, run8, run9, run10, run11, run12, run13, run14, run15, run16, run17, run18, run19, run20, run21, run22, reduceCtorEq, Nat.reduceEqDiff, Nat.reduceAdd, Nat.reduceSub, Nat.reduceLeDiff, indexAddrA, indexRefA, appendA, strA, Nat.reduceMul, Nat.zero_mul, Nat.reduceMod, Int.reduceEq, Int.reduceLT, Int.reduceLE, Nat.reduceLT, Nat.lt_irrefl, Nat.reduceBEq, tys0, tys1, tys2, tys3, tys4, tys5, tys6, tys7, tys8, tys9, tys10, tys11, tys12, tys13, tys14, tys15, tys16, tys17, tys18, tys19, tys20, tys21, tys22, tys23, Try.ntmps4, Try.results4, eqT_refl, bne_self_eq_false]
  refine ⟨by kernel_rfl, ?_⟩
  refine RunL.callp rfl rfl ok_f12 (toSurreal_ok a ha) (by first | rfl | simp only [pureL, pureB, Bool.and_self, Bool.and_true, Bool.true_and, Su.elems_pure, Su.pay_pure, Su.av_pure]) rfl ?_
  simp only [run0, run1, run2, run3, run4, run5, run6, run7, run8, run9, run10, run11, run12, run13, run14, run15, run16, run17, run18, run19, run20, run21, run22, reduceCtorEq, Nat.reduceEqDiff, Nat.reduceAdd, Nat.reduceSub, Nat.reduceLeDiff, indexAddrA, indexRefA, appendA, strA, Nat.reduceMul, Nat.zero_mul, Nat.reduceMod, Int.reduceEq, Int.reduceLT, Int.reduceLE, Nat.reduceLT, Nat.lt_irrefl, Nat.reduceBEq, tys0, tys1, tys2, tys3, tys4, tys5, tys6, tys7, tys8, tys9, tys10, tys11, tys12, tys13, tys14, tys15, tys16, tys17, tys18, tys19, tys20, tys21, tys22, tys23, Try.ntmps4, Try.results4, av]
  refine RunL.lendV rfl rfl ok_f14 rfl (eqSurreal_ok a a ha) (vwl2 (ox _)) rfl rfl ?_
  simp only [run0, run1, run2, run3, run4, run5, run6, run7, run8, run9, run10, run11, run12, run13, run14, run15, run16, run17, run18, run19, run20, run21, run22, reduceCtorEq, Nat.reduceEqDiff, Nat.reduceAdd, Nat.reduceSub, Nat.reduceLeDiff, indexAddrA, indexRefA, appendA, strA, Nat.reduceMul, Nat.zero_mul, Nat.reduceMod, Int.reduceEq, Int.reduceLT, Int.reduceLE, Nat.reduceLT, Nat.lt_irrefl, Nat.reduceBEq, tys0, tys1, tys2, tys3, tys4, tys5, tys6, tys7, tys8, tys9, tys10, tys11, tys12, tys13, tys14, tys15, tys16, tys17, tys18, tys19, tys20, tys21, tys22, tys23, Try.ntmps4, Try.results4, eqT_refl]
  refine ⟨by kernel_rfl, ?_⟩
  refine RunL.callp rfl rfl ok_f12 (toSurreal_ok b hb) (by first | rfl | simp only [pureL, pureB, Bool.and_self, Bool.and_true, Bool.true_and, Su.elems_pure, Su.pay_pure, Su.av_pure]) rfl ?_
  simp only [run0, run1, run2, run3, run4, run5, run6, run7, run8, run9, run10, run11, run12, run13, run14, run15, run16, run17, run18, run19, run20, run21, run22, reduceCtorEq, Nat.reduceEqDiff, Nat.reduceAdd, Nat.reduceSub, Nat.reduceLeDiff, indexAddrA, indexRefA, appendA, strA, Nat.reduceMul, Nat.zero_mul, Nat.reduceMod, Int.reduceEq, Int.reduceLT, Int.reduceLE, Nat.reduceLT, Nat.lt_irrefl, Nat.reduceBEq, tys0, tys1, tys2, tys3, tys4, tys5, tys6, tys7, tys8, tys9, tys10, tys11, tys12, tys13, tys14, tys15, tys16, tys17, tys18, tys19, tys20, tys21, tys22, tys23, Try.ntmps4, Try.results4, av]
  refine RunL.lendV rfl rfl ok_f14 rfl (eqSurreal_ok b b hb) (vwl2 (oy _)) rfl rfl ?_
  simp only [run0, run1, run2, run3, run4, run5, run6, run7, run8, run9, run10, run11, run12, run13, run14, run15, run16, run17, run18, run19, run20, run21, run22, reduceCtorEq, Nat.reduceEqDiff, Nat.reduceAdd, Nat.reduceSub, Nat.reduceLeDiff, indexAddrA, indexRefA, appendA, strA, Nat.reduceMul, Nat.zero_mul, Nat.reduceMod, Int.reduceEq, Int.reduceLT, Int.reduceLE, Nat.reduceLT, Nat.lt_irrefl, Nat.reduceBEq, tys0, tys1, tys2, tys3, tys4, tys5, tys6, tys7, tys8, tys9, tys10, tys11, tys12, tys13, tys14, tys15, tys16, tys17, tys18, tys19, tys20, tys21, tys22, tys23, Try.ntmps4, Try.results4, eqT_refl]
  refine RunL.callM rfl rfl ok_f15 rfl rfl hc0 rfl ?_
  simp only [run0, run1, run2, run3, run4, run5, run6, run7, run8, run9, run10, run11, run12, run13, run14, run15, run16, run17, run18, run19, run20, run21, run22, reduceCtorEq, Nat.reduceEqDiff, Nat.reduceAdd, Nat.reduceSub, Nat.reduceLeDiff, indexAddrA, indexRefA, appendA, strA, Nat.reduceMul, Nat.zero_mul, Nat.reduceMod, Int.reduceEq, Int.reduceLT, Int.reduceLE, Nat.reduceLT, Nat.lt_irrefl, Nat.reduceBEq, tys0, tys1, tys2, tys3, tys4, tys5, tys6, tys7, tys8, tys9, tys10, tys11, tys12, tys13, tys14, tys15, tys16, tys17, tys18, tys19, tys20, tys21, tys22, tys23, Try.ntmps4, Try.results4, s0, s1, s2, s9, s10]
  refine RunL.callM rfl rfl ok_f15 rfl rfl hc1 rfl ?_
  simp only [run0, run1, run2, run3, run4, run5, run6, run7, run8, run9, run10, run11, run12, run13, run14, run15, run16, run17, run18, run19, run20, run21, run22, reduceCtorEq, Nat.reduceEqDiff, Nat.reduceAdd, Nat.reduceSub, Nat.reduceLeDiff, indexAddrA, indexRefA, appendA, strA, Nat.reduceMul, Nat.zero_mul, Nat.reduceMod, Int.reduceEq, Int.reduceLT, Int.reduceLE, Nat.reduceLT, Nat.lt_irrefl, Nat.reduceBEq, tys0, tys1, tys2, tys3, tys4, tys5, tys6, tys7, tys8, tys9, tys10, tys11, tys12, tys13, tys14, tys15, tys16, tys17, tys18, tys19, tys20, tys21, tys22, tys23, Try.ntmps4, Try.results4, e3, q0, q1, q2, q10]
  refine RunL.lendV rfl rfl ok_f14 rfl (eqSurreal_ok R R hRs) (vwl2 og1) rfl rfl ?_
  simp only [run0, run1, run2, run3, run4, run5, run6, run7, run8, run9, run10, run11, run12, run13, run14, run15, run16, run17, run18, run19, run20, run21, run22, reduceCtorEq, Nat.reduceEqDiff, Nat.reduceAdd, Nat.reduceSub, Nat.reduceLeDiff, indexAddrA, indexRefA, appendA, strA, Nat.reduceMul, Nat.zero_mul, Nat.reduceMod, Int.reduceEq, Int.reduceLT, Int.reduceLE, Nat.reduceLT, Nat.lt_irrefl, Nat.reduceBEq, tys0, tys1, tys2, tys3, tys4, tys5, tys6, tys7, tys8, tys9, tys10, tys11, tys12, tys13, tys14, tys15, tys16, tys17, tys18, tys19, tys20, tys21, tys22, tys23, Try.ntmps4, Try.results4, eqT_refl, bne_self_eq_false, q0, q1, q2, q10]
  refine RunL.callM rfl rfl ok_f15 rfl rfl hc2 rfl ?_
  simp only [run0, run1, run2, run3, run4, run5, run6, run7, run8, run9, run10, run11, run12, run13, run14, run15, run16, run17, run18, run19, run20, run21, run22, reduceCtorEq, Nat.reduceEqDiff, Nat.reduceAdd, Nat.reduceSub, Nat.reduceLeDiff, indexAddrA, indexRefA, appendA, strA, Nat.reduceMul, Nat.zero_mul, Nat.reduceMod, Int.reduceEq, Int.reduceLT, Int.reduceLE, Nat.reduceLT, Nat.lt_irrefl, Nat.reduceBEq, tys0, tys1, tys2, tys3, tys4, tys5, tys6, tys7, tys8, tys9, tys10, tys11, tys12, tys13, tys14, tys15, tys16, tys17, tys18, tys19, tys20, tys21, tys22, tys23, Try.ntmps4, Try.results4, p0, p1, p2, p10]
  refine RunL.lendV rfl rfl ok_f16 rfl (heldSurreal_ok R 1 (by omega) (by omega)) (vwl3 og2) rfl rfl ?_
  simp only [run0, run1, run2, run3, run4, run5, run6, run7, run8, run9, run10, run11, run12, run13, run14, run15, run16, run17, run18, run19, run20, run21, run22, reduceCtorEq, Nat.reduceEqDiff, Nat.reduceAdd, Nat.reduceSub, Nat.reduceLeDiff, indexAddrA, indexRefA, appendA, strA, Nat.reduceMul, Nat.zero_mul, Nat.reduceMod, Int.reduceEq, Int.reduceLT, Int.reduceLE, Nat.reduceLT, Nat.lt_irrefl, Nat.reduceBEq, tys0, tys1, tys2, tys3, tys4, tys5, tys6, tys7, tys8, tys9, tys10, tys11, tys12, tys13, tys14, tys15, tys16, tys17, tys18, tys19, tys20, tys21, tys22, tys23, Try.ntmps4, Try.results4, e4, p0, p1, p2, p10, bne_self_eq_false]
  refine ⟨by kernel_rfl, ?_⟩
  refine RunL.callp rfl rfl ok_f12 (toSurreal_ok a ha) (by first | rfl | simp only [pureL, pureB, Bool.and_self, Bool.and_true, Bool.true_and, Su.elems_pure, Su.pay_pure, Su.av_pure]) rfl ?_
  simp only [run0, run1, run2, run3, run4, run5, run6, run7, run8, run9, run10, run11, run12, run13, run14, run15, run16, run17, run18, run19, run20, run21, run22, reduceCtorEq, Nat.reduceEqDiff, Nat.reduceAdd, Nat.reduceSub, Nat.reduceLeDiff, indexAddrA, indexRefA, appendA, strA, Nat.reduceMul, Nat.zero_mul, Nat.reduceMod, Int.reduceEq, Int.reduceLT, Int.reduceLE, Nat.reduceLT, Nat.lt_irrefl, Nat.reduceBEq, tys0, tys1, tys2, tys3, tys4, tys5, tys6, tys7, tys8, tys9, tys10, tys11, tys12, tys13, tys14, tys15, tys16, tys17, tys18, tys19, tys20, tys21, tys22, tys23, Try.ntmps4, Try.results4, p0, p1]
  refine RunL.callp rfl rfl ok_f12 (toSurreal_ok b hb) (by first | rfl | simp only [pureL, pureB, Bool.and_self, Bool.and_true, Bool.true_and, Su.elems_pure, Su.pay_pure, Su.av_pure]) rfl ?_
  simp only [run0, run1, run2, run3, run4, run5, run6, run7, run8, run9, run10, run11, run12, run13, run14, run15, run16, run17, run18, run19, run20, run21, run22, reduceCtorEq, Nat.reduceEqDiff, Nat.reduceAdd, Nat.reduceSub, Nat.reduceLeDiff, indexAddrA, indexRefA, appendA, strA, Nat.reduceMul, Nat.zero_mul, Nat.reduceMod, Int.reduceEq, Int.reduceLT, Int.reduceLE, Nat.reduceLT, Nat.lt_irrefl, Nat.reduceBEq, tys0, tys1, tys2, tys3, tys4, tys5, tys6, tys7, tys8, tys9, tys10, tys11, tys12, tys13, tys14, tys15, tys16, tys17, tys18, tys19, tys20, tys21, tys22, tys23, Try.ntmps4, Try.results4, p0, p1]
  refine RunL.callp rfl rfl ok_f13 (hiv) (by first | rfl | simp only [pureL, pureB, Bool.and_self, Bool.and_true, Bool.true_and, Su.elems_pure, Su.pay_pure, Su.av_pure]) rfl ?_
  simp only [run0, run1, run2, run3, run4, run5, run6, run7, run8, run9, run10, run11, run12, run13, run14, run15, run16, run17, run18, run19, run20, run21, run22, reduceCtorEq, Nat.reduceEqDiff, Nat.reduceAdd, Nat.reduceSub, Nat.reduceLeDiff, indexAddrA, indexRefA, appendA, strA, Nat.reduceMul, Nat.zero_mul, Nat.reduceMod, Int.reduceEq, Int.reduceLT, Int.reduceLE, Nat.reduceLT, Nat.lt_irrefl, Nat.reduceBEq, tys0, tys1, tys2, tys3, tys4, tys5, tys6, tys7, tys8, tys9, tys10, tys11, tys12, tys13, tys14, tys15, tys16, tys17, tys18, tys19, tys20, tys21, tys22, tys23, Try.ntmps4, Try.results4, av, r2, r10, setXn]
  refine RunL.callp rfl rfl ok_f14 (eqSurreal_ok R R hRs) (by first | rfl | simp only [pureL, pureB, Bool.and_self, Bool.and_true, Bool.true_and, Su.elems_pure, Su.pay_pure, Su.av_pure]) rfl ?_
  simp only [run0, run1, run2, run3, run4, run5, run6, run7, run8, run9, run10, run11, run12, run13, run14, run15, run16, run17, run18, run19, run20, run21, run22, reduceCtorEq, Nat.reduceEqDiff, Nat.reduceAdd, Nat.reduceSub, Nat.reduceLeDiff, indexAddrA, indexRefA, appendA, strA, Nat.reduceMul, Nat.zero_mul, Nat.reduceMod, Int.reduceEq, Int.reduceLT, Int.reduceLE, Nat.reduceLT, Nat.lt_irrefl, Nat.reduceBEq, tys0, tys1, tys2, tys3, tys4, tys5, tys6, tys7, tys8, tys9, tys10, tys11, tys12, tys13, tys14, tys15, tys16, tys17, tys18, tys19, tys20, tys21, tys22, tys23, Try.ntmps4, Try.results4, eqT_refl, bne_self_eq_false, r2, r10]
  refine RunL.lendV rfl rfl ok_f16 rfl (heldSurreal_ok R 1 (by omega) (by omega)) (vwl3 (og2.more _)) rfl rfl ?_
  simp only [run0, run1, run2, run3, run4, run5, run6, run7, run8, run9, run10, run11, run12, run13, run14, run15, run16, run17, run18, run19, run20, run21, run22, reduceCtorEq, Nat.reduceEqDiff, Nat.reduceAdd, Nat.reduceSub, Nat.reduceLeDiff, indexAddrA, indexRefA, appendA, strA, Nat.reduceMul, Nat.zero_mul, Nat.reduceMod, Int.reduceEq, Int.reduceLT, Int.reduceLE, Nat.reduceLT, Nat.lt_irrefl, Nat.reduceBEq, tys0, tys1, tys2, tys3, tys4, tys5, tys6, tys7, tys8, tys9, tys10, tys11, tys12, tys13, tys14, tys15, tys16, tys17, tys18, tys19, tys20, tys21, tys22, tys23, Try.ntmps4, Try.results4, e4, bne_self_eq_false]
  exact Fin.eq rfl rfl


end Go.Proofs.Ytminjhhabonjaaa
