/-
  Ordinals: the difference: its law.
-/
import Derived.Test.YtcgnpijbdgbffaaG18
namespace Go.Proofs.Ytcgnpijbdgbffaa
open Go K Od
set_option linter.unusedSimpArgs false
set_option linter.unusedVariables false
set_option maxHeartbeats 1600000

def subG (a b : Od) : Bool := goodT a && goodT b && !decide (cmpT a b < 0)
def subOk (a b : Od) : Bool := subG a b && goodT (lessS a b)
def subR (a b : Od) : Od := if subOk a b then lessS a b else .nil
theorem subR_sz (a b : Od) (ha : a.sz ≤ 1048576) (hb : b.sz ≤ 1048576) : (subR a b).sz ≤ 1048576 := by
  have := lessS_sz a b
  unfold subR
  split
  · omega
  · simp [sz]
theorem implSub_ok (a b : Od) (ha : a.sz ≤ 1048576) (hb : b.sz ≤ 1048576) : ∃ x M, Ct Try.prog 33 [av a, av b] [] (.tup [.agg [x], .bool (subOk a b)]) M ∧ Own M (subR a b) x := by
  cases hg : goodT a && goodT b
  · rw [show subOk a b = false by simp [subOk, subG, hg], show subR a b = .nil by simp [subR, subOk, subG, hg]]
    refine ⟨nilV, ?_⟩
    apply ex1
    · apply Ct.by_ hmix [] Try.func33 rfl
      simp only [run0, run1, run2, run3, run4, run5, run6, run7, run8, run9, run10, run11, run12, run13, run14, run15, run16, run17, run18, run19, run20, run21, run22, reduceCtorEq, Nat.reduceEqDiff, Nat.reduceAdd, Nat.reduceSub, Nat.reduceLeDiff, indexAddrA, indexRefA, appendA, strA, Nat.reduceMul, Nat.zero_mul, Nat.reduceMod, Int.reduceEq, Int.reduceLT, Int.reduceLE, Nat.reduceLT, Nat.lt_irrefl, Nat.reduceBEq, tys0, tys1, tys2, tys3, tys4, tys5, tys6, tys7, tys8, tys9, tys10, Try.ntmps33, Try.results33, av]
      refine RunL.callp rfl rfl ok_f50 (both_ok a b ha hb) (by first | rfl | simp only [pureL, pureB, Bool.and_self, Bool.and_true, Bool.true_and, Od.elems_pure, Od.pay_pure, Od.av_pure]) rfl ?_
      simp only [run0, run1, run2, run3, run4, run5, run6, run7, run8, run9, run10, run11, run12, run13, run14, run15, run16, run17, run18, run19, run20, run21, run22, reduceCtorEq, Nat.reduceEqDiff, Nat.reduceAdd, Nat.reduceSub, Nat.reduceLeDiff, indexAddrA, indexRefA, appendA, strA, Nat.reduceMul, Nat.zero_mul, Nat.reduceMod, Int.reduceEq, Int.reduceLT, Int.reduceLE, Nat.reduceLT, Nat.lt_irrefl, Nat.reduceBEq, tys0, tys1, tys2, tys3, tys4, tys5, tys6, tys7, tys8, tys9, tys10, Try.ntmps33, Try.results33, hg]
      exact Fin.keep [] rfl rfl
    · exact ⟨[], .inl ⟨rfl, rfl, rfl⟩, List.nodup_nil, keepS_okSO _ _⟩
  by_cases hc : cmpT a b < 0
  · rw [show subOk a b = false by simp [subOk, subG, hc], show subR a b = .nil by simp [subR, subOk, subG, hc]]
    refine ⟨nilV, ?_⟩
    apply ex1
    · apply Ct.by_ hmix [] Try.func33 rfl
      simp only [run0, run1, run2, run3, run4, run5, run6, run7, run8, run9, run10, run11, run12, run13, run14, run15, run16, run17, run18, run19, run20, run21, run22, reduceCtorEq, Nat.reduceEqDiff, Nat.reduceAdd, Nat.reduceSub, Nat.reduceLeDiff, indexAddrA, indexRefA, appendA, strA, Nat.reduceMul, Nat.zero_mul, Nat.reduceMod, Int.reduceEq, Int.reduceLT, Int.reduceLE, Nat.reduceLT, Nat.lt_irrefl, Nat.reduceBEq, tys0, tys1, tys2, tys3, tys4, tys5, tys6, tys7, tys8, tys9, tys10, Try.ntmps33, Try.results33, av]
      refine RunL.callp rfl rfl ok_f50 (both_ok a b ha hb) (by first | rfl | simp only [pureL, pureB, Bool.and_self, Bool.and_true, Bool.true_and, Od.elems_pure, Od.pay_pure, Od.av_pure]) rfl ?_
      simp only [run0, run1, run2, run3, run4, run5, run6, run7, run8, run9, run10, run11, run12, run13, run14, run15, run16, run17, run18, run19, run20, run21, run22, reduceCtorEq, Nat.reduceEqDiff, Nat.reduceAdd, Nat.reduceSub, Nat.reduceLeDiff, indexAddrA, indexRefA, appendA, strA, Nat.reduceMul, Nat.zero_mul, Nat.reduceMod, Int.reduceEq, Int.reduceLT, Int.reduceLE, Nat.reduceLT, Nat.lt_irrefl, Nat.reduceBEq, tys0, tys1, tys2, tys3, tys4, tys5, tys6, tys7, tys8, tys9, tys10, Try.ntmps33, Try.results33, hg]
      refine RunL.callp rfl rfl ok_f51 (cmp_ok a b ha hb) (by first | rfl | simp only [pureL, pureB, Bool.and_self, Bool.and_true, Bool.true_and, Od.elems_pure, Od.pay_pure, Od.av_pure]) rfl ?_
      simp only [run0, run1, run2, run3, run4, run5, run6, run7, run8, run9, run10, run11, run12, run13, run14, run15, run16, run17, run18, run19, run20, run21, run22, reduceCtorEq, Nat.reduceEqDiff, Nat.reduceAdd, Nat.reduceSub, Nat.reduceLeDiff, indexAddrA, indexRefA, appendA, strA, Nat.reduceMul, Nat.zero_mul, Nat.reduceMod, Int.reduceEq, Int.reduceLT, Int.reduceLE, Nat.reduceLT, Nat.lt_irrefl, Nat.reduceBEq, tys0, tys1, tys2, tys3, tys4, tys5, tys6, tys7, tys8, tys9, tys10, Try.ntmps33, Try.results33, hc]
      exact Fin.keep [] rfl rfl
    · exact ⟨[], .inl ⟨rfl, rfl, rfl⟩, List.nodup_nil, keepS_okSO _ _⟩
  have hg' := hg
  simp only [Bool.and_eq_true] at hg'
  have := lessS_sz a b
  obtain ⟨x, M, ht, S, ho, hn, hM⟩ := told_ok (lessS a b) (by omega)
  have hk : subOk a b = goodT (lessS a b) := by simp [subOk, subG, hg, hc];
  have hr : subR a b = if goodT (lessS a b) then lessS a b else .nil := by simp only [subR, hk]
  rw [hr, hk]
  refine ⟨shA 3 x, ?_⟩
  apply ex1
  · apply Ct.by_ hmix [] Try.func33 rfl
    simp only [run0, run1, run2, run3, run4, run5, run6, run7, run8, run9, run10, run11, run12, run13, run14, run15, run16, run17, run18, run19, run20, run21, run22, reduceCtorEq, Nat.reduceEqDiff, Nat.reduceAdd, Nat.reduceSub, Nat.reduceLeDiff, indexAddrA, indexRefA, appendA, strA, Nat.reduceMul, Nat.zero_mul, Nat.reduceMod, Int.reduceEq, Int.reduceLT, Int.reduceLE, Nat.reduceLT, Nat.lt_irrefl, Nat.reduceBEq, tys0, tys1, tys2, tys3, tys4, tys5, tys6, tys7, tys8, tys9, tys10, Try.ntmps33, Try.results33, av]
    refine RunL.callp rfl rfl ok_f50 (both_ok a b ha hb) (by first | rfl | simp only [pureL, pureB, Bool.and_self, Bool.and_true, Bool.true_and, Od.elems_pure, Od.pay_pure, Od.av_pure]) rfl ?_
    simp only [run0, run1, run2, run3, run4, run5, run6, run7, run8, run9, run10, run11, run12, run13, run14, run15, run16, run17, run18, run19, run20, run21, run22, reduceCtorEq, Nat.reduceEqDiff, Nat.reduceAdd, Nat.reduceSub, Nat.reduceLeDiff, indexAddrA, indexRefA, appendA, strA, Nat.reduceMul, Nat.zero_mul, Nat.reduceMod, Int.reduceEq, Int.reduceLT, Int.reduceLE, Nat.reduceLT, Nat.lt_irrefl, Nat.reduceBEq, tys0, tys1, tys2, tys3, tys4, tys5, tys6, tys7, tys8, tys9, tys10, Try.ntmps33, Try.results33, hg]
    refine RunL.callp rfl rfl ok_f51 (cmp_ok a b ha hb) (by first | rfl | simp only [pureL, pureB, Bool.and_self, Bool.and_true, Bool.true_and, Od.elems_pure, Od.pay_pure, Od.av_pure]) rfl ?_
    simp only [run0, run1, run2, run3, run4, run5, run6, run7, run8, run9, run10, run11, run12, run13, run14, run15, run16, run17, run18, run19, run20, run21, run22, reduceCtorEq, Nat.reduceEqDiff, Nat.reduceAdd, Nat.reduceSub, Nat.reduceLeDiff, indexAddrA, indexRefA, appendA, strA, Nat.reduceMul, Nat.zero_mul, Nat.reduceMod, Int.reduceEq, Int.reduceLT, Int.reduceLE, Nat.reduceLT, Nat.lt_irrefl, Nat.reduceBEq, tys0, tys1, tys2, tys3, tys4, tys5, tys6, tys7, tys8, tys9, tys10, Try.ntmps33, Try.results33, hc]
    refine RunL.callp rfl rfl ok_f67 (less_ok a b ha hb (goodT_rng hg'.1) (goodT_rng hg'.2) (by omega)) (by first | rfl | simp only [pureL, pureB, Bool.and_self, Bool.and_true, Bool.true_and, Od.elems_pure, Od.pay_pure, Od.av_pure]) rfl ?_
    simp only [run0, run1, run2, run3, run4, run5, run6, run7, run8, run9, run10, run11, run12, run13, run14, run15, run16, run17, run18, run19, run20, run21, run22, reduceCtorEq, Nat.reduceEqDiff, Nat.reduceAdd, Nat.reduceSub, Nat.reduceLeDiff, indexAddrA, indexRefA, appendA, strA, Nat.reduceMul, Nat.zero_mul, Nat.reduceMod, Int.reduceEq, Int.reduceLT, Int.reduceLE, Nat.reduceLT, Nat.lt_irrefl, Nat.reduceBEq, tys0, tys1, tys2, tys3, tys4, tys5, tys6, tys7, tys8, tys9, tys10, Try.ntmps33, Try.results33]
    refine RunL.callgp rfl rfl ok_f64 rfl ht (by simp only [pureL, pureB, av_pure, Bool.and_self]) rfl ?_
    simp only [run0, run1, run2, run3, run4, run5, run6, run7, run8, run9, run10, run11, run12, run13, run14, run15, run16, run17, run18, run19, run20, run21, run22, reduceCtorEq, Nat.reduceEqDiff, Nat.reduceAdd, Nat.reduceSub, Nat.reduceLeDiff, indexAddrA, indexRefA, appendA, strA, Nat.reduceMul, Nat.zero_mul, Nat.reduceMod, Int.reduceEq, Int.reduceLT, Int.reduceLE, Nat.reduceLT, Nat.lt_irrefl, Nat.reduceBEq, tys0, tys1, tys2, tys3, tys4, tys5, tys6, tys7, tys8, tys9, tys10, Try.ntmps33, Try.results33, shA, shL]
    exact Fin.keep (S.map (· + 3)) (by simp [okT, okTL, okT_sh ho]) rfl
  · exact Own.end (k := 3) (fun id => by simp) ho hn
theorem specSub_ok (a b : Od) (ha : a.sz ≤ 1048576) (hb : b.sz ≤ 1048576) : Ct Try.prog 32 [av a, av b] [] (.tup [av (subR a b), .bool (subOk a b)]) [] := by
  have fin0 : Vw [AObj.box 29 [.sl false (elems a)], .box 29 [.sl false (elems b)], .box 29 [nilV]] (.tup [.agg [nilV], .bool false]) (.tup [av .nil, .bool false]) := Vw.tup (.cons (Vw.agg (.cons (Vw.nil false) .nil)) (.cons (Vw.pur (Pur.bool _)) .nil))
  refine Ct.by_ hmix [] Try.func32 rfl ?_
  simp only [run0, run1, run2, run3, run4, run5, run6, run7, run8, run9, run10, run11, run12, run13, run14, run15, run16, run17, run18, run19, run20, run21, run22, reduceCtorEq, Nat.reduceEqDiff, Nat.reduceAdd, Nat.reduceSub, Nat.reduceLeDiff, indexAddrA, indexRefA, appendA, strA, Nat.reduceMul, Nat.zero_mul, Nat.reduceMod, Int.reduceEq, Int.reduceLT, Int.reduceLE, Nat.reduceLT, Nat.lt_irrefl, Nat.reduceBEq, tys0, tys1, tys2, tys3, tys4, tys5, tys6, tys7, tys8, tys9, tys10, Try.ntmps32, Try.results32, av]
  refine RunL.callp rfl rfl ok_f45 (odGood_ok a ha) (by first | rfl | simp only [pureL, pureB, Bool.and_self, Bool.and_true, Bool.true_and, Od.elems_pure, Od.pay_pure, Od.av_pure]) rfl ?_
  cases hga : goodT a
  · rw [show subOk a b = false by simp [subOk, subG, hga], show subR a b = .nil by simp [subR, subOk, subG, hga]]
    simp only [run0, run1, run2, run3, run4, run5, run6, run7, run8, run9, run10, run11, run12, run13, run14, run15, run16, run17, run18, run19, run20, run21, run22, reduceCtorEq, Nat.reduceEqDiff, Nat.reduceAdd, Nat.reduceSub, Nat.reduceLeDiff, indexAddrA, indexRefA, appendA, strA, Nat.reduceMul, Nat.zero_mul, Nat.reduceMod, Int.reduceEq, Int.reduceLT, Int.reduceLE, Nat.reduceLT, Nat.lt_irrefl, Nat.reduceBEq, tys0, tys1, tys2, tys3, tys4, tys5, tys6, tys7, tys8, tys9, tys10, Try.ntmps32, Try.results32, hga]
    exact Fin.value fin0
  simp only [run0, run1, run2, run3, run4, run5, run6, run7, run8, run9, run10, run11, run12, run13, run14, run15, run16, run17, run18, run19, run20, run21, run22, reduceCtorEq, Nat.reduceEqDiff, Nat.reduceAdd, Nat.reduceSub, Nat.reduceLeDiff, indexAddrA, indexRefA, appendA, strA, Nat.reduceMul, Nat.zero_mul, Nat.reduceMod, Int.reduceEq, Int.reduceLT, Int.reduceLE, Nat.reduceLT, Nat.lt_irrefl, Nat.reduceBEq, tys0, tys1, tys2, tys3, tys4, tys5, tys6, tys7, tys8, tys9, tys10, Try.ntmps32, Try.results32, hga]
  refine RunL.callp rfl rfl ok_f45 (odGood_ok b hb) (by first | rfl | simp only [pureL, pureB, Bool.and_self, Bool.and_true, Bool.true_and, Od.elems_pure, Od.pay_pure, Od.av_pure]) rfl ?_
  cases hgb : goodT b
  · rw [show subOk a b = false by simp [subOk, subG, hgb], show subR a b = .nil by simp [subR, subOk, subG, hgb]]
    simp only [run0, run1, run2, run3, run4, run5, run6, run7, run8, run9, run10, run11, run12, run13, run14, run15, run16, run17, run18, run19, run20, run21, run22, reduceCtorEq, Nat.reduceEqDiff, Nat.reduceAdd, Nat.reduceSub, Nat.reduceLeDiff, indexAddrA, indexRefA, appendA, strA, Nat.reduceMul, Nat.zero_mul, Nat.reduceMod, Int.reduceEq, Int.reduceLT, Int.reduceLE, Nat.reduceLT, Nat.lt_irrefl, Nat.reduceBEq, tys0, tys1, tys2, tys3, tys4, tys5, tys6, tys7, tys8, tys9, tys10, Try.ntmps32, Try.results32, hgb]
    exact Fin.value fin0
  simp only [run0, run1, run2, run3, run4, run5, run6, run7, run8, run9, run10, run11, run12, run13, run14, run15, run16, run17, run18, run19, run20, run21, run22, reduceCtorEq, Nat.reduceEqDiff, Nat.reduceAdd, Nat.reduceSub, Nat.reduceLeDiff, indexAddrA, indexRefA, appendA, strA, Nat.reduceMul, Nat.zero_mul, Nat.reduceMod, Int.reduceEq, Int.reduceLT, Int.reduceLE, Nat.reduceLT, Nat.lt_irrefl, Nat.reduceBEq, tys0, tys1, tys2, tys3, tys4, tys5, tys6, tys7, tys8, tys9, tys10, Try.ntmps32, Try.results32, hgb]
  refine RunL.callp rfl rfl ok_f49 (odCmp_ok a b ha hb (goodT_rng hga) (goodT_rng hgb)) (by first | rfl | simp only [pureL, pureB, Bool.and_self, Bool.and_true, Bool.true_and, Od.elems_pure, Od.pay_pure, Od.av_pure]) rfl ?_
  by_cases hc : cmpT a b < 0
  · rw [show subOk a b = false by simp [subOk, subG, hc], show subR a b = .nil by simp [subR, subOk, subG, hc]]
    simp only [run0, run1, run2, run3, run4, run5, run6, run7, run8, run9, run10, run11, run12, run13, run14, run15, run16, run17, run18, run19, run20, run21, run22, reduceCtorEq, Nat.reduceEqDiff, Nat.reduceAdd, Nat.reduceSub, Nat.reduceLeDiff, indexAddrA, indexRefA, appendA, strA, Nat.reduceMul, Nat.zero_mul, Nat.reduceMod, Int.reduceEq, Int.reduceLT, Int.reduceLE, Nat.reduceLT, Nat.lt_irrefl, Nat.reduceBEq, tys0, tys1, tys2, tys3, tys4, tys5, tys6, tys7, tys8, tys9, tys10, Try.ntmps32, Try.results32, hc]
    exact Fin.value fin0
  have := lessS_sz a b
  have hk : subOk a b = goodT (lessS a b) := by simp [subOk, subG, hga, hgb, hc];
  have hr : subR a b = if goodT (lessS a b) then lessS a b else .nil := by simp only [subR, hk]
  rw [hr, hk]
  simp only [run0, run1, run2, run3, run4, run5, run6, run7, run8, run9, run10, run11, run12, run13, run14, run15, run16, run17, run18, run19, run20, run21, run22, reduceCtorEq, Nat.reduceEqDiff, Nat.reduceAdd, Nat.reduceSub, Nat.reduceLeDiff, indexAddrA, indexRefA, appendA, strA, Nat.reduceMul, Nat.zero_mul, Nat.reduceMod, Int.reduceEq, Int.reduceLT, Int.reduceLE, Nat.reduceLT, Nat.lt_irrefl, Nat.reduceBEq, tys0, tys1, tys2, tys3, tys4, tys5, tys6, tys7, tys8, tys9, tys10, Try.ntmps32, Try.results32, hc]
  refine RunL.callp rfl rfl ok_f66 (odLess_ok a b ha hb (goodT_rng hga) (goodT_rng hgb)) (by first | rfl | simp only [pureL, pureB, Bool.and_self, Bool.and_true, Bool.true_and, Od.elems_pure, Od.pay_pure, Od.av_pure]) rfl ?_
  simp only [run0, run1, run2, run3, run4, run5, run6, run7, run8, run9, run10, run11, run12, run13, run14, run15, run16, run17, run18, run19, run20, run21, run22, reduceCtorEq, Nat.reduceEqDiff, Nat.reduceAdd, Nat.reduceSub, Nat.reduceLeDiff, indexAddrA, indexRefA, appendA, strA, Nat.reduceMul, Nat.zero_mul, Nat.reduceMod, Int.reduceEq, Int.reduceLT, Int.reduceLE, Nat.reduceLT, Nat.lt_irrefl, Nat.reduceBEq, tys0, tys1, tys2, tys3, tys4, tys5, tys6, tys7, tys8, tys9, tys10, Try.ntmps32, Try.results32]
  refine RunL.callp rfl rfl ok_f62 (odIf_ok (lessS a b) (by omega)) (by first | rfl | simp only [pureL, pureB, Bool.and_self, Bool.and_true, Bool.true_and, Od.elems_pure, Od.pay_pure, Od.av_pure]) rfl ?_
  simp only [run0, run1, run2, run3, run4, run5, run6, run7, run8, run9, run10, run11, run12, run13, run14, run15, run16, run17, run18, run19, run20, run21, run22, reduceCtorEq, Nat.reduceEqDiff, Nat.reduceAdd, Nat.reduceSub, Nat.reduceLeDiff, indexAddrA, indexRefA, appendA, strA, Nat.reduceMul, Nat.zero_mul, Nat.reduceMod, Int.reduceEq, Int.reduceLT, Int.reduceLE, Nat.reduceLT, Nat.lt_irrefl, Nat.reduceBEq, tys0, tys1, tys2, tys3, tys4, tys5, tys6, tys7, tys8, tys9, tys10, Try.ntmps32, Try.results32, av]
  exact Fin.eq rfl (by simp only [pureB, pureL, elems_pure, Bool.and_self])

theorem FnExactSubtractLeft_ok {a0 a1 : AV} (h0 : IsOf Try.prog 24 a0) (h1 : IsOf Try.prog 24 a1) : Ct Try.prog 9 [a0, a1] [] (.bool true) [] := by
  obtain ⟨a, rfl, hf⟩ := laws_isOd h0
  obtain ⟨b, rfl, hft2⟩ := laws_isOd h1
  rcases szR_spec a.sz 1048576 with ⟨hs, hr⟩ | ⟨hs, hr⟩
  case inr =>
    refine Ct.by_ hmix [] Try.func9 rfl ?_
    simp only [run0, run1, run2, run3, run4, run5, run6, run7, run8, run9, run10, run11, run12, run13, run14, run15, run16, run17, run18, run19, run20, run21, run22, reduceCtorEq, Nat.reduceEqDiff, Nat.reduceAdd, Nat.reduceSub, Nat.reduceLeDiff, indexAddrA, indexRefA, appendA, strA, Nat.reduceMul, Nat.zero_mul, Nat.reduceMod, Int.reduceEq, Int.reduceLT, Int.reduceLE, Nat.reduceLT, Nat.lt_irrefl, Nat.reduceBEq, tys0, tys1, tys2, tys3, tys4, tys5, tys6, tys7, tys8, tys9, tys10, Try.ntmps9, Try.results9, av]
    refine RunL.callp rfl rfl ok_f15 (szOrdinal_ok a 1048576 hf (by omega) (by omega)) (by first | rfl | simp only [pureL, pureB, Bool.and_self, Bool.and_true, Bool.true_and, Od.elems_pure, Od.pay_pure, Od.av_pure]) rfl ?_
    have e1 : szR a.sz 1048576 < 0 := by omega
    simp only [run0, run1, run2, run3, run4, run5, run6, run7, run8, run9, run10, run11, run12, run13, run14, run15, run16, run17, run18, run19, run20, run21, run22, reduceCtorEq, Nat.reduceEqDiff, Nat.reduceAdd, Nat.reduceSub, Nat.reduceLeDiff, indexAddrA, indexRefA, appendA, strA, Nat.reduceMul, Nat.zero_mul, Nat.reduceMod, Int.reduceEq, Int.reduceLT, Int.reduceLE, Nat.reduceLT, Nat.lt_irrefl, Nat.reduceBEq, tys0, tys1, tys2, tys3, tys4, tys5, tys6, tys7, tys8, tys9, tys10, Try.ntmps9, Try.results9, e1]
    exact Fin.eq rfl rfl
  have ha : a.sz ≤ 1048576 := by omega
  have e1 : ¬ (szR a.sz 1048576 < 0) := by omega
  rcases szR_spec b.sz (szR a.sz 1048576) with ⟨hs2, hr2⟩ | ⟨hs2, hr2⟩
  case inr =>
    refine Ct.by_ hmix [] Try.func9 rfl ?_
    simp only [run0, run1, run2, run3, run4, run5, run6, run7, run8, run9, run10, run11, run12, run13, run14, run15, run16, run17, run18, run19, run20, run21, run22, reduceCtorEq, Nat.reduceEqDiff, Nat.reduceAdd, Nat.reduceSub, Nat.reduceLeDiff, indexAddrA, indexRefA, appendA, strA, Nat.reduceMul, Nat.zero_mul, Nat.reduceMod, Int.reduceEq, Int.reduceLT, Int.reduceLE, Nat.reduceLT, Nat.lt_irrefl, Nat.reduceBEq, tys0, tys1, tys2, tys3, tys4, tys5, tys6, tys7, tys8, tys9, tys10, Try.ntmps9, Try.results9, av]
    refine RunL.callp rfl rfl ok_f15 (szOrdinal_ok a 1048576 hf (by omega) (by omega)) (by first | rfl | simp only [pureL, pureB, Bool.and_self, Bool.and_true, Bool.true_and, Od.elems_pure, Od.pay_pure, Od.av_pure]) rfl ?_
    simp only [run0, run1, run2, run3, run4, run5, run6, run7, run8, run9, run10, run11, run12, run13, run14, run15, run16, run17, run18, run19, run20, run21, run22, reduceCtorEq, Nat.reduceEqDiff, Nat.reduceAdd, Nat.reduceSub, Nat.reduceLeDiff, indexAddrA, indexRefA, appendA, strA, Nat.reduceMul, Nat.zero_mul, Nat.reduceMod, Int.reduceEq, Int.reduceLT, Int.reduceLE, Nat.reduceLT, Nat.lt_irrefl, Nat.reduceBEq, tys0, tys1, tys2, tys3, tys4, tys5, tys6, tys7, tys8, tys9, tys10, Try.ntmps9, Try.results9, e1]
    refine RunL.callp rfl rfl ok_f15 (szOrdinal_ok b (szR a.sz 1048576) hft2 (by omega) (by omega)) (by first | rfl | simp only [pureL, pureB, Bool.and_self, Bool.and_true, Bool.true_and, Od.elems_pure, Od.pay_pure, Od.av_pure]) rfl ?_
    have e2 : szR b.sz (szR a.sz 1048576) < 0 := by omega
    simp only [run0, run1, run2, run3, run4, run5, run6, run7, run8, run9, run10, run11, run12, run13, run14, run15, run16, run17, run18, run19, run20, run21, run22, reduceCtorEq, Nat.reduceEqDiff, Nat.reduceAdd, Nat.reduceSub, Nat.reduceLeDiff, indexAddrA, indexRefA, appendA, strA, Nat.reduceMul, Nat.zero_mul, Nat.reduceMod, Int.reduceEq, Int.reduceLT, Int.reduceLE, Nat.reduceLT, Nat.lt_irrefl, Nat.reduceBEq, tys0, tys1, tys2, tys3, tys4, tys5, tys6, tys7, tys8, tys9, tys10, Try.ntmps9, Try.results9, e2]
    exact Fin.eq rfl rfl
  have hb : b.sz ≤ 1048576 := by omega
  have e2 : ¬ (szR b.sz (szR a.sz 1048576) < 0) := by omega
  generalize hR : subR a b = R
  generalize hO : subOk a b = ok
  have hsp := specSub_ok a b ha hb
  obtain ⟨g, M1, hi, S1, ho1, hn1, hM1⟩ := implSub_ok a b ha hb
  rw [hR, hO] at hsp
  rw [hO] at hi
  rw [hR] at ho1
  have hRs : R.sz ≤ 1048576 := by rw [← hR]; exact subR_sz a b ha hb
  obtain ⟨x, M0, hx, S0, ho0, hn0, hM0⟩ := toOrdinalOwn_ok a ha
  obtain ⟨y, My, hy, Sy, hoy, hny, hMy⟩ := toOrdinalOwn_ok b hb
  generalize hB1 : AObj.box 24 [.sl false (elems a)] = B1 at *
  generalize hB2 : AObj.box 24 [.sl false (elems b)] = B2 at *
  generalize hBW : AObj.box 29 [.sl false (elems R)] = BW at *
  -- the memory behind all
  generalize hM0' : M0.map (shO 3) = N0 at *
  generalize hMy' : My.map (shO (N0.length + 1 + 1 + 1 + 1)) = Ny at *
  generalize hM1' : M1.map (shO (N0.length + (Ny.length + 1 + 1) + 1 + 1 + 1)) = N1 at *
  have ox : ∀ X, OwnR (B1 :: B2 :: BW :: (N0 ++ X)) 53 2 a (shA 3 x) (S0.map (· + 3)) := fun X =>
    (OwnR.sh (L' := B1 :: B2 :: BW :: N0) (fun id => by simp [← hM0']) ho0).more X
  generalize hx' : shA 3 x = X0 at *
  have n0 := nodup_add 3 hn0
  generalize hS0 : S0.map (· + 3) = T0 at *
  generalize hBX : AObj.box 29 [X0] = BX at *
  have oy : ∀ X, OwnR (B1 :: B2 :: BW :: (N0 ++ BX :: (Ny ++ X))) 53 2 b (shA (N0.length + 1 + 1 + 1 + 1) y) (Sy.map (· + (N0.length + 1 + 1 + 1 + 1))) := fun X => by
    have := (OwnR.sh (L' := B1 :: B2 :: BW :: (N0 ++ BX :: Ny)) (fun id => by
      rw [show id + (N0.length + 1 + 1 + 1 + 1) = (N0.length + (id + 1)) + 3 by omega]
      simp only [List.getElem?_cons_succ]
      rw [getXn, List.getElem?_cons_succ, ← hMy', List.getElem?_map]) hoy).more X
    simp only [List.cons_append, List.append_assoc] at this
    exact this
  have ny := nodup_add (N0.length + 1 + 1 + 1 + 1) hny
  generalize hY : shA (N0.length + 1 + 1 + 1 + 1) y = Y0 at *
  generalize hSy : Sy.map (· + (N0.length + 1 + 1 + 1 + 1)) = Ty at *
  generalize hBY : AObj.box 29 [Y0] = BY at *
  have og : ∀ X, OwnR (B1 :: B2 :: BW :: (N0 ++ BX :: (Ny ++ BY :: (N1 ++ X)))) 53 2 R (shA (N0.length + (Ny.length + 1 + 1) + 1 + 1 + 1) g) (S1.map (· + (N0.length + (Ny.length + 1 + 1) + 1 + 1 + 1))) := fun X => by
    have := (OwnR.sh (L' := B1 :: B2 :: BW :: (N0 ++ BX :: (Ny ++ BY :: N1))) (fun id => by
      rw [show id + (N0.length + (Ny.length + 1 + 1) + 1 + 1 + 1) = (N0.length + ((Ny.length + (id + 1)) + 1)) + 3 by omega]
      simp only [List.getElem?_cons_succ]
      rw [getXn, List.getElem?_cons_succ, getXn, List.getElem?_cons_succ, ← hM1', List.getElem?_map]) ho1).more X
    simp only [List.cons_append, List.append_assoc] at this
    exact this
  have n1 := nodup_add (N0.length + (Ny.length + 1 + 1) + 1 + 1 + 1) hn1
  have oS : okS (.tup [.agg [g], .bool ok]) = true := okS_res ho1.form.1
  generalize hG : shA (N0.length + (Ny.length + 1 + 1) + 1 + 1 + 1) g = G0 at *
  generalize hS1 : S1.map (· + (N0.length + (Ny.length + 1 + 1) + 1 + 1 + 1)) = T1 at *
  have xlt : ∀ id ∈ T0, id < N0.length + 3 := fun id hid => by have := (ox []).lt id hid; simpa using this
  have ylo : ∀ id ∈ Ty, N0.length + 4 ≤ id := fun id hid => by
    rw [← hSy] at hid
    obtain ⟨q, _, rfl⟩ := List.mem_map.1 hid
    omega
  have ylt : ∀ id ∈ Ty, id < N0.length + Ny.length + 4 := fun id hid => by
    have := (oy []).lt id hid
    simp at this; omega
  have glo : ∀ id ∈ T1, N0.length + Ny.length + 5 ≤ id := fun id hid => by
    rw [← hS1] at hid
    obtain ⟨q, _, rfl⟩ := List.mem_map.1 hid
    omega
  have nbox : ∀ {L : List AObj} {b : Od} {y : AV} {S : List Nat} {id : Nat} {T : TypeId} {cs : List AV}, OwnR L 53 2 b y S → L[id]? = some (.box T cs) → id ∉ S := fun h hb hid => by
    obtain ⟨_, _, h2, _⟩ := h.objs _ hid
    rw [hb] at h2; cases h2
  generalize hBG : AObj.box 29 [G0] = BG at *
  -- the marks of the arguments
  obtain ⟨L0, hc0, hm0, hf0, hl0⟩ := markOrdinal_ok a X0 T0 (B1 :: B2 :: BW :: (N0 ++ BX :: (Ny ++ BY :: (N1 ++ [BG])))) 1 (ox _) n0 (by omega) (by omega)
  have keep0 : ∀ (id : Nat) o, (B1 :: B2 :: BW :: (N0 ++ BX :: (Ny ++ BY :: (N1 ++ [BG]))) : List AObj)[id]? = some o → id ∉ T0 → L0[id]? = some o := fun id o h hn => by
    rw [hf0 id hn (List.getElem?_eq_some_iff.1 h).1]; exact h
  have keepB0 : ∀ (id : Nat) T cs, (B1 :: B2 :: BW :: (N0 ++ BX :: (Ny ++ BY :: (N1 ++ [BG]))) : List AObj)[id]? = some (.box T cs) → L0[id]? = some (.box T cs) := fun id T cs h => keep0 id _ h (nbox (ox _) h)
  have oy0 : OwnR L0 53 2 b Y0 Ty := (oy _).mono fun id hid g1 es1 h => keep0 id _ h (fun h2 => by have := xlt id h2; have := ylo id hid; omega)
  have og0 : OwnR L0 53 2 R G0 T1 := (og _).mono fun id hid g1 es1 h => keep0 id _ h (fun h2 => by have := xlt id h2; have := glo id hid; omega)
  have s0 : L0[0]? = some B1 := by rw [← hB1]; exact keepB0 0 _ _ (by rw [hB1]; rfl)
  have s1 : L0[1]? = some B2 := by rw [← hB2]; exact keepB0 1 _ _ (by rw [hB2]; rfl)
  have s2 : L0[2]? = some BW := by rw [← hBW]; exact keepB0 2 _ _ (by rw [hBW]; rfl)
  have s9 : L0[N0.length + (Ny.length + 1) + 1 + 1 + 1]? = some BY := by
    rw [← hBY]; exact keepB0 _ _ _ (by rw [hBY]; simp only [List.getElem?_cons_succ, getXn, getX0, List.getElem?_cons_zero])
  have s10 : L0[N0.length + (Ny.length + (N1.length + 1) + 1) + 1 + 1 + 1]? = some BG := by
    rw [← hBG]; exact keepB0 _ _ _ (by rw [hBG]; simp only [List.getElem?_cons_succ, getXn, getX0, List.getElem?_cons_zero])
  obtain ⟨L1, hc1, hm1, hf1, hl1⟩ := markOrdinal_ok b Y0 Ty L0 (1 + a.sz) oy0 ny (by omega) (by omega)
  have keepB1 : ∀ {id : Nat} {T : TypeId} {cs : List AV}, L0[id]? = some (.box T cs) → L1[id]? = some (.box T cs) := fun h => by
    rw [hf1 _ (nbox oy0 h) (List.getElem?_eq_some_iff.1 h).1]; exact h
  have q0 : L1[0]? = some B1 := by rw [← hB1] at *; exact keepB1 s0
  have q1 : L1[1]? = some B2 := by rw [← hB2] at *; exact keepB1 s1
  have q2 : L1[2]? = some BW := by rw [← hBW] at *; exact keepB1 s2
  have q10 : L1[N0.length + (Ny.length + (N1.length + 1) + 1) + 1 + 1 + 1]? = some BG := by rw [← hBG] at *; exact keepB1 s10
  have og1 : OwnR L1 53 2 R G0 T1 := og0.mono fun id hid g1 es1 h => by
    rw [hf1 id (fun h2 => by have := ylt id h2; have := glo id hid; omega) (List.getElem?_eq_some_iff.1 h).1]; exact h
  -- the marks of the result
  obtain ⟨L2, hc2, og2, hf2, hl2⟩ := markOrdinal_ok R G0 T1 L1 1 og1 n1 (by omega) (by omega)
  have keepB2 : ∀ {id : Nat} {T : TypeId} {cs : List AV}, L1[id]? = some (.box T cs) → L2[id]? = some (.box T cs) := fun h => by
    rw [hf2 _ (nbox og1 h) (List.getElem?_eq_some_iff.1 h).1]; exact h
  have p0 : L2[0]? = some B1 := by rw [← hB1] at *; exact keepB2 q0
  have p1 : L2[1]? = some B2 := by rw [← hB2] at *; exact keepB2 q1
  have p2 : L2[2]? = some BW := by rw [← hBW] at *; exact keepB2 q2
  have p10 : L2[N0.length + (Ny.length + (N1.length + 1) + 1) + 1 + 1 + 1]? = some BG := by rw [← hBG] at *; exact keepB2 q10
  have r2 : ∀ X, (L2 ++ X)[2]? = some BW := fun X => by rw [List.getElem?_append_left (List.getElem?_eq_some_iff.1 p2).1]; exact p2
  have r10 : ∀ X, (L2 ++ X)[N0.length + (Ny.length + (N1.length + 1) + 1) + 1 + 1 + 1]? = some BG := fun X => by rw [List.getElem?_append_left (List.getElem?_eq_some_iff.1 p10).1]; exact p10
  have oh : ∀ X, OwnR (L2 ++ (M1.map (shO L2.length) ++ X)) 53 2 R (shA L2.length g) (S1.map (· + L2.length)) := fun X => by
    rw [← List.append_assoc]; exact (OwnR.sh (more_get L2 M1) ho1).more X
  have hiv : Ct Try.prog 33 [av a, av b] [] (.tup [av R, .bool ok]) [] := hi.toV (Vw.tup (.cons (Vw.agg (.cons (ho1.view false) .nil)) (.cons (Vw.pur (Pur.bool _)) .nil)))
  have e3 : ¬ (1 + (a.sz : Int) + (b.sz : Int) < 0) := by omega
  have e4 : ¬ (1 + (R.sz : Int) < 0) := by omega
  subst hB1 hB2 hBW hBX hBY hBG
  refine Ct.by_ hmix [19] Try.func9 rfl ?_
  simp only [run0, run1, run2, run3, run4, run5, run6, run7, run8, run9, run10, run11, run12, run13, run14, run15, run16, run17, run18, run19, run20, run21, run22, reduceCtorEq, Nat.reduceEqDiff, Nat.reduceAdd, Nat.reduceSub, Nat.reduceLeDiff, indexAddrA, indexRefA, appendA, strA, Nat.reduceMul, Nat.zero_mul, Nat.reduceMod, Int.reduceEq, Int.reduceLT, Int.reduceLE, Nat.reduceLT, Nat.lt_irrefl, Nat.reduceBEq, tys0, tys1, tys2, tys3, tys4, tys5, tys6, tys7, tys8, tys9, tys10, Try.ntmps9, Try.results9, av]
  refine RunL.callp rfl rfl ok_f15 (szOrdinal_ok a 1048576 hf (by omega) (by omega)) (by first | rfl | simp only [pureL, pureB, Bool.and_self, Bool.and_true, Bool.true_and, Od.elems_pure, Od.pay_pure, Od.av_pure]) rfl ?_
  simp only [run0, run1, run2, run3, run4, run5, run6, run7, run8, run9, run10, run11, run12, run13, run14, run15, run16, run17, run18, run19, run20, run21, run22, reduceCtorEq, Nat.reduceEqDiff, Nat.reduceAdd, Nat.reduceSub, Nat.reduceLeDiff, indexAddrA, indexRefA, appendA, strA, Nat.reduceMul, Nat.zero_mul, Nat.reduceMod, Int.reduceEq, Int.reduceLT, Int.reduceLE, Nat.reduceLT, Nat.lt_irrefl, Nat.reduceBEq, tys0, tys1, tys2, tys3, tys4, tys5, tys6, tys7, tys8, tys9, tys10, Try.ntmps9, Try.results9, e1]
  refine RunL.callp rfl rfl ok_f15 (szOrdinal_ok b (szR a.sz 1048576) hft2 (by omega) (by omega)) (by first | rfl | simp only [pureL, pureB, Bool.and_self, Bool.and_true, Bool.true_and, Od.elems_pure, Od.pay_pure, Od.av_pure]) rfl ?_
  simp only [run0, run1, run2, run3, run4, run5, run6, run7, run8, run9, run10, run11, run12, run13, run14, run15, run16, run17, run18, run19, run20, run21, run22, reduceCtorEq, Nat.reduceEqDiff, Nat.reduceAdd, Nat.reduceSub, Nat.reduceLeDiff, indexAddrA, indexRefA, appendA, strA, Nat.reduceMul, Nat.zero_mul, Nat.reduceMod, Int.reduceEq, Int.reduceLT, Int.reduceLE, Nat.reduceLT, Nat.lt_irrefl, Nat.reduceBEq, tys0, tys1, tys2, tys3, tys4, tys5, tys6, tys7, tys8, tys9, tys10, Try.ntmps9, Try.results9, e2]
  refine ⟨by kernel_rfl, ?_⟩
  refine RunL.callp rfl rfl ok_f17 (toOrdinal_ok a ha) (by first | rfl | simp only [pureL, pureB, Bool.and_self, Bool.and_true, Bool.true_and, Od.elems_pure, Od.pay_pure, Od.av_pure]) rfl ?_
  simp only [run0, run1, run2, run3, run4, run5, run6, run7, run8, run9, run10, run11, run12, run13, run14, run15, run16, run17, run18, run19, run20, run21, run22, reduceCtorEq, Nat.reduceEqDiff, Nat.reduceAdd, Nat.reduceSub, Nat.reduceLeDiff, indexAddrA, indexRefA, appendA, strA, Nat.reduceMul, Nat.zero_mul, Nat.reduceMod, Int.reduceEq, Int.reduceLT, Int.reduceLE, Nat.reduceLT, Nat.lt_irrefl, Nat.reduceBEq, tys0, tys1, tys2, tys3, tys4, tys5, tys6, tys7, tys8, tys9, tys10, Try.ntmps9, Try.results9, av]
  refine RunL.callp rfl rfl ok_f17 (toOrdinal_ok b hb) (by first | rfl | simp only [pureL, pureB, Bool.and_self, Bool.and_true, Bool.true_and, Od.elems_pure, Od.pay_pure, Od.av_pure]) rfl ?_
  simp only [run0, run1, run2, run3, run4, run5, run6, run7, run8, run9, run10, run11, run12, run13, run14, run15, run16, run17, run18, run19, run20, run21, run22, reduceCtorEq, Nat.reduceEqDiff, Nat.reduceAdd, Nat.reduceSub, Nat.reduceLeDiff, indexAddrA, indexRefA, appendA, strA, Nat.reduceMul, Nat.zero_mul, Nat.reduceMod, Int.reduceEq, Int.reduceLT, Int.reduceLE, Nat.reduceLT, Nat.lt_irrefl, Nat.reduceBEq, tys0, tys1, tys2, tys3, tys4, tys5, tys6, tys7, tys8, tys9, tys10, Try.ntmps9, Try.results9, av]
  refine RunL.callp rfl rfl ok_f32 (hsp) (by first | rfl | simp only [pureL, pureB, Bool.and_self, Bool.and_true, Bool.true_and, Od.elems_pure, Od.pay_pure, Od.av_pure]) rfl ?_
  simp only [run0, run1, run2, run3, run4, run5, run6, run7, run8, run9, run10, run11, run12, run13, run14, run15, run16, run17, run18, run19, run20, run21, run22, reduceCtorEq, Nat.reduceEqDiff, Nat.reduceAdd, Nat.reduceSub, Nat.reduceLeDiff, indexAddrA, indexRefA, appendA, strA, Nat.reduceMul, Nat.zero_mul, Nat.reduceMod, Int.reduceEq, Int.reduceLT, Int.reduceLE, Nat.reduceLT, Nat.lt_irrefl, Nat.reduceBEq, tys0, tys1, tys2, tys3, tys4, tys5, tys6, tys7, tys8, tys9, tys10, Try.ntmps9, Try.results9, av]
  refine RunL.callgp rfl rfl ok_f17 rfl hx (by simp only [pureL, pureB, av_pure, Bool.and_self]) rfl ?_
  simp only [run0, run1, run2, run3, run4, run5, run6, run7, run8, run9, run10, run11, run12, run13, run14, run15, run16, run17, run18, run19, run20, run21, run22, reduceCtorEq, Nat.reduceEqDiff, Nat.reduceAdd, Nat.reduceSub, Nat.reduceLeDiff, indexAddrA, indexRefA, appendA, strA, Nat.reduceMul, Nat.zero_mul, Nat.reduceMod, Int.reduceEq, Int.reduceLT, Int.reduceLE, Nat.reduceLT, Nat.lt_irrefl, Nat.reduceBEq, tys0, tys1, tys2, tys3, tys4, tys5, tys6, tys7, tys8, tys9, tys10, Try.ntmps9, Try.results9, shA, shL, hx', hM0', setXn]
  refine RunL.callgp rfl rfl ok_f17 rfl hy (by simp only [pureL, pureB, av_pure, Bool.and_self]) rfl ?_
  simp only [run0, run1, run2, run3, run4, run5, run6, run7, run8, run9, run10, run11, run12, run13, run14, run15, run16, run17, run18, run19, run20, run21, run22, reduceCtorEq, Nat.reduceEqDiff, Nat.reduceAdd, Nat.reduceSub, Nat.reduceLeDiff, indexAddrA, indexRefA, appendA, strA, Nat.reduceMul, Nat.zero_mul, Nat.reduceMod, Int.reduceEq, Int.reduceLT, Int.reduceLE, Nat.reduceLT, Nat.lt_irrefl, Nat.reduceBEq, tys0, tys1, tys2, tys3, tys4, tys5, tys6, tys7, tys8, tys9, tys10, Try.ntmps9, Try.results9, shA, shL, hY, hMy', setXn]
  refine RunL.lendGV rfl rfl ok_f33 rfl hi (.cons (vw1 (ox _)) (.cons (vw1 (oy _)) .nil)) oS hM1 rfl ?_
  simp only [run0, run1, run2, run3, run4, run5, run6, run7, run8, run9, run10, run11, run12, run13, run14, run15, run16, run17, run18, run19, run20, run21, run22, reduceCtorEq, Nat.reduceEqDiff, Nat.reduceAdd, Nat.reduceSub, Nat.reduceLeDiff, indexAddrA, indexRefA, appendA, strA, Nat.reduceMul, Nat.zero_mul, Nat.reduceMod, Int.reduceEq, Int.reduceLT, Int.reduceLE, Nat.reduceLT, Nat.lt_irrefl, Nat.reduceBEq, tys0, tys1, tys2, tys3, tys4, tys5, tys6, tys7, tys8, tys9, tys10, Try.ntmps9, Try.results9, shA, shL, hM1', hG, setXn]
  refine RunL.lendV rfl rfl ok_f19 rfl (eqOrdinal_ok R R hRs) (vwl2 (og _)) rfl rfl ?_
  simp only [run0, run1, run2, run3, run4, run5, run6, run7, run8, run9, run10, run11, run12, run13, run14, run15, run16, run17, run18, run19, run20, run21, run22, reduceCtorEq, Nat.reduceEqDiff, Nat.reduceAdd, Nat.reduceSub, Nat.reduceLeDiff, indexAddrA, indexRefA, appendA, strA, Nat.reduceMul, Nat.zero_mul, Nat.reduceMod, Int.reduceEq, Int.reduceLT, Int.reduceLE, Nat.reduceLT, Nat.lt_irrefl, Nat.reduceBEq, tys0, tys1, tys2, tys3, tys4, tys5, tys6, tys7, tys8, tys9, tys10, Try.ntmps9, Try.results9, eqT_refl, bne_self_eq_false]
  refine ⟨by kernel_rfl, ?_⟩
  refine RunL.callp rfl rfl ok_f17 (toOrdinal_ok a ha) (by first | rfl | simp only [pureL, pureB, Bool.and_self, Bool.and_true, Bool.true_and, Od.elems_pure, Od.pay_pure, Od.av_pure]) rfl ?_
  simp only [run0, run1, run2, run3, run4, run5, run6, run7, run8, run9, run10, run11, run12, run13, run14, run15, run16, run17, run18, run19, run20, run21, run22, reduceCtorEq, Nat.reduceEqDiff, Nat.reduceAdd, Nat.reduceSub, Nat.reduceLeDiff, indexAddrA, indexRefA, appendA, strA, Nat.reduceMul, Nat.zero_mul, Nat.reduceMod, Int.reduceEq, Int.reduceLT, Int.reduceLE, Nat.reduceLT, Nat.lt_irrefl, Nat.reduceBEq, tys0, tys1, tys2, tys3, tys4, tys5, tys6, tys7, tys8, tys9, tys10, Try.ntmps9, Try.results9, av]
  refine RunL.lendV rfl rfl ok_f19 rfl (eqOrdinal_ok a a ha) (vwl2 (ox _)) rfl rfl ?_
  simp only [run0, run1, run2, run3, run4, run5, run6, run7, run8, run9, run10, run11, run12, run13, run14, run15, run16, run17, run18, run19, run20, run21, run22, reduceCtorEq, Nat.reduceEqDiff, Nat.reduceAdd, Nat.reduceSub, Nat.reduceLeDiff, indexAddrA, indexRefA, appendA, strA, Nat.reduceMul, Nat.zero_mul, Nat.reduceMod, Int.reduceEq, Int.reduceLT, Int.reduceLE, Nat.reduceLT, Nat.lt_irrefl, Nat.reduceBEq, tys0, tys1, tys2, tys3, tys4, tys5, tys6, tys7, tys8, tys9, tys10, Try.ntmps9, Try.results9, eqT_refl]
  refine ⟨by kernel_rfl, ?_⟩
  refine RunL.callp rfl rfl ok_f17 (toOrdinal_ok b hb) (by first | rfl | simp only [pureL, pureB, Bool.and_self, Bool.and_true, Bool.true_and, Od.elems_pure, Od.pay_pure, Od.av_pure]) rfl ?_
  simp only [run0, run1, run2, run3, run4, run5, run6, run7, run8, run9, run10, run11, run12, run13, run14, run15, run16, run17, run18, run19, run20, run21, run22, reduceCtorEq, Nat.reduceEqDiff, Nat.reduceAdd, Nat.reduceSub, Nat.reduceLeDiff, indexAddrA, indexRefA, appendA, strA, Nat.reduceMul, Nat.zero_mul, Nat.reduceMod, Int.reduceEq, Int.reduceLT, Int.reduceLE, Nat.reduceLT, Nat.lt_irrefl, Nat.reduceBEq, tys0, tys1, tys2, tys3, tys4, tys5, tys6, tys7, tys8, tys9, tys10, Try.ntmps9, Try.results9, av]
  refine RunL.lendV rfl rfl ok_f19 rfl (eqOrdinal_ok b b hb) (vwl2 (oy _)) rfl rfl ?_
  simp only [run0, run1, run2, run3, run4, run5, run6, run7, run8, run9, run10, run11, run12, run13, run14, run15, run16, run17, run18, run19, run20, run21, run22, reduceCtorEq, Nat.reduceEqDiff, Nat.reduceAdd, Nat.reduceSub, Nat.reduceLeDiff, indexAddrA, indexRefA, appendA, strA, Nat.reduceMul, Nat.zero_mul, Nat.reduceMod, Int.reduceEq, Int.reduceLT, Int.reduceLE, Nat.reduceLT, Nat.lt_irrefl, Nat.reduceBEq, tys0, tys1, tys2, tys3, tys4, tys5, tys6, tys7, tys8, tys9, tys10, Try.ntmps9, Try.results9, eqT_refl]
  refine RunL.callM rfl rfl ok_f28 rfl rfl hc0 rfl ?_
  simp only [run0, run1, run2, run3, run4, run5, run6, run7, run8, run9, run10, run11, run12, run13, run14, run15, run16, run17, run18, run19, run20, run21, run22, reduceCtorEq, Nat.reduceEqDiff, Nat.reduceAdd, Nat.reduceSub, Nat.reduceLeDiff, indexAddrA, indexRefA, appendA, strA, Nat.reduceMul, Nat.zero_mul, Nat.reduceMod, Int.reduceEq, Int.reduceLT, Int.reduceLE, Nat.reduceLT, Nat.lt_irrefl, Nat.reduceBEq, tys0, tys1, tys2, tys3, tys4, tys5, tys6, tys7, tys8, tys9, tys10, Try.ntmps9, Try.results9, s0, s1, s2, s9, s10]
  refine RunL.callM rfl rfl ok_f28 rfl rfl hc1 rfl ?_
  simp only [run0, run1, run2, run3, run4, run5, run6, run7, run8, run9, run10, run11, run12, run13, run14, run15, run16, run17, run18, run19, run20, run21, run22, reduceCtorEq, Nat.reduceEqDiff, Nat.reduceAdd, Nat.reduceSub, Nat.reduceLeDiff, indexAddrA, indexRefA, appendA, strA, Nat.reduceMul, Nat.zero_mul, Nat.reduceMod, Int.reduceEq, Int.reduceLT, Int.reduceLE, Nat.reduceLT, Nat.lt_irrefl, Nat.reduceBEq, tys0, tys1, tys2, tys3, tys4, tys5, tys6, tys7, tys8, tys9, tys10, Try.ntmps9, Try.results9, e3, q0, q1, q2, q10]
  refine RunL.lendV rfl rfl ok_f19 rfl (eqOrdinal_ok R R hRs) (vwl2 og1) rfl rfl ?_
  simp only [run0, run1, run2, run3, run4, run5, run6, run7, run8, run9, run10, run11, run12, run13, run14, run15, run16, run17, run18, run19, run20, run21, run22, reduceCtorEq, Nat.reduceEqDiff, Nat.reduceAdd, Nat.reduceSub, Nat.reduceLeDiff, indexAddrA, indexRefA, appendA, strA, Nat.reduceMul, Nat.zero_mul, Nat.reduceMod, Int.reduceEq, Int.reduceLT, Int.reduceLE, Nat.reduceLT, Nat.lt_irrefl, Nat.reduceBEq, tys0, tys1, tys2, tys3, tys4, tys5, tys6, tys7, tys8, tys9, tys10, Try.ntmps9, Try.results9, eqT_refl, bne_self_eq_false, q0, q1, q2, q10]
  refine RunL.callM rfl rfl ok_f28 rfl rfl hc2 rfl ?_
  simp only [run0, run1, run2, run3, run4, run5, run6, run7, run8, run9, run10, run11, run12, run13, run14, run15, run16, run17, run18, run19, run20, run21, run22, reduceCtorEq, Nat.reduceEqDiff, Nat.reduceAdd, Nat.reduceSub, Nat.reduceLeDiff, indexAddrA, indexRefA, appendA, strA, Nat.reduceMul, Nat.zero_mul, Nat.reduceMod, Int.reduceEq, Int.reduceLT, Int.reduceLE, Nat.reduceLT, Nat.lt_irrefl, Nat.reduceBEq, tys0, tys1, tys2, tys3, tys4, tys5, tys6, tys7, tys8, tys9, tys10, Try.ntmps9, Try.results9, p0, p1, p2, p10]
  refine RunL.lendV rfl rfl ok_f29 rfl (heldOrdinal_ok R 1 (by omega) (by omega)) (vwl3 og2) rfl rfl ?_
  simp only [run0, run1, run2, run3, run4, run5, run6, run7, run8, run9, run10, run11, run12, run13, run14, run15, run16, run17, run18, run19, run20, run21, run22, reduceCtorEq, Nat.reduceEqDiff, Nat.reduceAdd, Nat.reduceSub, Nat.reduceLeDiff, indexAddrA, indexRefA, appendA, strA, Nat.reduceMul, Nat.zero_mul, Nat.reduceMod, Int.reduceEq, Int.reduceLT, Int.reduceLE, Nat.reduceLT, Nat.lt_irrefl, Nat.reduceBEq, tys0, tys1, tys2, tys3, tys4, tys5, tys6, tys7, tys8, tys9, tys10, Try.ntmps9, Try.results9, e4, p0, p1, p2, p10, bne_self_eq_false]
  refine ⟨by kernel_rfl, ?_⟩
  refine RunL.callp rfl rfl ok_f17 (toOrdinal_ok a ha) (by first | rfl | simp only [pureL, pureB, Bool.and_self, Bool.and_true, Bool.true_and, Od.elems_pure, Od.pay_pure, Od.av_pure]) rfl ?_
  simp only [run0, run1, run2, run3, run4, run5, run6, run7, run8, run9, run10, run11, run12, run13, run14, run15, run16, run17, run18, run19, run20, run21, run22, reduceCtorEq, Nat.reduceEqDiff, Nat.reduceAdd, Nat.reduceSub, Nat.reduceLeDiff, indexAddrA, indexRefA, appendA, strA, Nat.reduceMul, Nat.zero_mul, Nat.reduceMod, Int.reduceEq, Int.reduceLT, Int.reduceLE, Nat.reduceLT, Nat.lt_irrefl, Nat.reduceBEq, tys0, tys1, tys2, tys3, tys4, tys5, tys6, tys7, tys8, tys9, tys10, Try.ntmps9, Try.results9, p0, p1]
  refine RunL.callp rfl rfl ok_f17 (toOrdinal_ok b hb) (by first | rfl | simp only [pureL, pureB, Bool.and_self, Bool.and_true, Bool.true_and, Od.elems_pure, Od.pay_pure, Od.av_pure]) rfl ?_
  simp only [run0, run1, run2, run3, run4, run5, run6, run7, run8, run9, run10, run11, run12, run13, run14, run15, run16, run17, run18, run19, run20, run21, run22, reduceCtorEq, Nat.reduceEqDiff, Nat.reduceAdd, Nat.reduceSub, Nat.reduceLeDiff, indexAddrA, indexRefA, appendA, strA, Nat.reduceMul, Nat.zero_mul, Nat.reduceMod, Int.reduceEq, Int.reduceLT, Int.reduceLE, Nat.reduceLT, Nat.lt_irrefl, Nat.reduceBEq, tys0, tys1, tys2, tys3, tys4, tys5, tys6, tys7, tys8, tys9, tys10, Try.ntmps9, Try.results9, p0, p1]
  refine RunL.callp rfl rfl ok_f33 (hiv) (by first | rfl | simp only [pureL, pureB, Bool.and_self, Bool.and_true, Bool.true_and, Od.elems_pure, Od.pay_pure, Od.av_pure]) rfl ?_
  simp only [run0, run1, run2, run3, run4, run5, run6, run7, run8, run9, run10, run11, run12, run13, run14, run15, run16, run17, run18, run19, run20, run21, run22, reduceCtorEq, Nat.reduceEqDiff, Nat.reduceAdd, Nat.reduceSub, Nat.reduceLeDiff, indexAddrA, indexRefA, appendA, strA, Nat.reduceMul, Nat.zero_mul, Nat.reduceMod, Int.reduceEq, Int.reduceLT, Int.reduceLE, Nat.reduceLT, Nat.lt_irrefl, Nat.reduceBEq, tys0, tys1, tys2, tys3, tys4, tys5, tys6, tys7, tys8, tys9, tys10, Try.ntmps9, Try.results9, av, r2, r10, setXn]
  refine RunL.callp rfl rfl ok_f19 (eqOrdinal_ok R R hRs) (by first | rfl | simp only [pureL, pureB, Bool.and_self, Bool.and_true, Bool.true_and, Od.elems_pure, Od.pay_pure, Od.av_pure]) rfl ?_
  simp only [run0, run1, run2, run3, run4, run5, run6, run7, run8, run9, run10, run11, run12, run13, run14, run15, run16, run17, run18, run19, run20, run21, run22, reduceCtorEq, Nat.reduceEqDiff, Nat.reduceAdd, Nat.reduceSub, Nat.reduceLeDiff, indexAddrA, indexRefA, appendA, strA, Nat.reduceMul, Nat.zero_mul, Nat.reduceMod, Int.reduceEq, Int.reduceLT, Int.reduceLE, Nat.reduceLT, Nat.lt_irrefl, Nat.reduceBEq, tys0, tys1, tys2, tys3, tys4, tys5, tys6, tys7, tys8, tys9, tys10, Try.ntmps9, Try.results9, eqT_refl, bne_self_eq_false, r2, r10]
  refine RunL.lendV rfl rfl ok_f29 rfl (heldOrdinal_ok R 1 (by omega) (by omega)) (vwl3 (og2.more _)) rfl rfl ?_
  simp only [run0, run1, run2, run3, run4, run5, run6, run7, run8, run9, run10, run11, run12, run13, run14, run15, run16, run17, run18, run19, run20, run21, run22, reduceCtorEq, Nat.reduceEqDiff, Nat.reduceAdd, Nat.reduceSub, Nat.reduceLeDiff, indexAddrA, indexRefA, appendA, strA, Nat.reduceMul, Nat.zero_mul, Nat.reduceMod, Int.reduceEq, Int.reduceLT, Int.reduceLE, Nat.reduceLT, Nat.lt_irrefl, Nat.reduceBEq, tys0, tys1, tys2, tys3, tys4, tys5, tys6, tys7, tys8, tys9, tys10, Try.ntmps9, Try.results9, e4, bne_self_eq_false]
  exact Fin.eq rfl rfl


end Go.Proofs.Ytcgnpijbdgbffaa
