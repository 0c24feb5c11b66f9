/-
  Surreals: the three parts: the law.
-/
import Derived.Test.YtfblibmibaiagaaS20
namespace Go.Proofs.Ytfblibmibaiagaa
open Go K Su
set_option linter.unusedSimpArgs false
set_option linter.unusedVariables false
set_option maxHeartbeats 3200000
set_option maxRecDepth 16000

def partO (a : Su) : Bool := goodT a
def partH (a : Su) : Su := if goodT a then hiT a else .nil
def partL (a : Su) : Su := if goodT a then loT a else .nil
def partF (a : Su) : Int × Int := if goodT a then reT a (0, 1) else (0, 0)
theorem partH_sz (a : Su) : (partH a).sz ≤ a.sz := by
  have := hiT_sz a
  unfold partH; split
  · exact this
  · simp [sz]
theorem partL_sz (a : Su) : (partL a).sz ≤ a.sz := by
  have := loT_sz a
  unfold partL; split
  · exact this
  · simp [sz]
/-- Two trees of a call's own. -/
def Own2 (M : List AObj) (a b : Su) (x y : AV) : Prop := ∃ S T, OwnR M 76 3 a x S ∧ OwnR M 76 3 b y T ∧ (S ++ T).Nodup ∧ M.all okSO = true

theorem implPartsOf_ok (a : Su) (hs : a.sz ≤ 1048576) : ∃ x y M, Ct Try.prog 40 [av a] [] (.tup [.agg [x], fr (partF a).1 (partF a).2, .agg [y], .bool (partO a)]) M ∧ Own2 M (partH a) (partL a) x y := by
  cases hg : goodT a
  · rw [show partF a = (0, 0) by simp [partF, hg], show partH a = .nil by simp [partH, hg], show partL a = .nil by simp [partL, hg], show partO a = false from hg]
    refine ⟨nilV, nilV, ?_⟩
    apply ex1
    · apply Ct.by_ hmix [8000000, 5999999, 6000001, 7000002, 2000000 + 67] Try.func40 rfl
      simp only [run0, run1, run2, run3, run4, run5, run6, run7, run8, run9, run10, run11, run12, run13, run14, run15, run16, run17, run18, run19, run20, run21, run22, reduceCtorEq, Nat.reduceEqDiff, Nat.reduceAdd, Nat.reduceSub, Nat.reduceLeDiff, indexAddrA, indexRefA, appendA, strA, Nat.reduceMul, Nat.zero_mul, Nat.reduceMod, Int.reduceEq, Int.reduceLT, Int.reduceLE, Nat.reduceLT, Nat.lt_irrefl, Nat.reduceBEq, tys0, tys1, tys2, tys3, tys4, tys5, tys6, tys7, tys8, tys9, tys10, tys11, tys12, tys13, tys14, tys15, tys16, tys17, Try.ntmps40, Try.results40, av]
      refine RunL.callp rfl rfl ok_f23 (IsSurreal_ok a hs) (by first | rfl | simp only [pureL, pureB, Bool.and_self, Bool.and_true, Bool.true_and, Su.elems_pure, Su.pay_pure, Su.av_pure]) rfl ?_
      simp only [run0, run1, run2, run3, run4, run5, run6, run7, run8, run9, run10, run11, run12, run13, run14, run15, run16, run17, run18, run19, run20, run21, run22, reduceCtorEq, Nat.reduceEqDiff, Nat.reduceAdd, Nat.reduceSub, Nat.reduceLeDiff, indexAddrA, indexRefA, appendA, strA, Nat.reduceMul, Nat.zero_mul, Nat.reduceMod, Int.reduceEq, Int.reduceLT, Int.reduceLE, Nat.reduceLT, Nat.lt_irrefl, Nat.reduceBEq, tys0, tys1, tys2, tys3, tys4, tys5, tys6, tys7, tys8, tys9, tys10, tys11, tys12, tys13, tys14, tys15, tys16, tys17, Try.ntmps40, Try.results40, hg]
      exact Fin.keep [] rfl rfl
    · exact ⟨[], [], .inl ⟨rfl, rfl, rfl⟩, .inl ⟨rfl, rfl, rfl⟩, List.nodup_nil, keepS_okSO _ _⟩
  · rw [show partF a = reT a (0, 1) by simp [partF, hg], show partH a = hiT a by simp [partH, hg], show partL a = loT a by simp [partL, hg], show partO a = true from hg]
    have hh := hiT_sz a
    have hl := loT_sz a
    have hp := implParts_ok a hs (goodT_rng hg)
    obtain ⟨x, M1, hc1, S1, ho1, hn1, hM1⟩ := cloneS_ok (hiT a) (by omega)
    obtain ⟨y, M2, hc2, S2, ho2, hn2, hM2⟩ := cloneS_ok (loT a) (by omega)
    generalize hN1 : M1.map (shO 7) = N1
    refine ⟨shA 7 x, shA (N1.length + 1 + 1 + 1 + 1 + 1 + 1 + 1) y, ?_⟩
    generalize hN2 : M2.map (shO (N1.length + 1 + 1 + 1 + 1 + 1 + 1 + 1)) = N2
    generalize hX : shA 7 x = X0
    generalize hY : shA (N1.length + 1 + 1 + 1 + 1 + 1 + 1 + 1) y = Y0
    have oX : okT X0 = true := by rw [← hX]; exact okT_sh ho1
    have oY : okT Y0 = true := by rw [← hY]; exact okT_sh ho2
    apply ex1
    · apply Ct.by_ hmix [8000000, 5999999, 6000001, 7000002, 2000000 + 67] Try.func40 rfl
      simp only [run0, run1, run2, run3, run4, run5, run6, run7, run8, run9, run10, run11, run12, run13, run14, run15, run16, run17, run18, run19, run20, run21, run22, reduceCtorEq, Nat.reduceEqDiff, Nat.reduceAdd, Nat.reduceSub, Nat.reduceLeDiff, indexAddrA, indexRefA, appendA, strA, Nat.reduceMul, Nat.zero_mul, Nat.reduceMod, Int.reduceEq, Int.reduceLT, Int.reduceLE, Nat.reduceLT, Nat.lt_irrefl, Nat.reduceBEq, tys0, tys1, tys2, tys3, tys4, tys5, tys6, tys7, tys8, tys9, tys10, tys11, tys12, tys13, tys14, tys15, tys16, tys17, Try.ntmps40, Try.results40, av]
      refine RunL.callp rfl rfl ok_f23 (IsSurreal_ok a hs) (by first | rfl | simp only [pureL, pureB, Bool.and_self, Bool.and_true, Bool.true_and, Su.elems_pure, Su.pay_pure, Su.av_pure]) rfl ?_
      simp only [run0, run1, run2, run3, run4, run5, run6, run7, run8, run9, run10, run11, run12, run13, run14, run15, run16, run17, run18, run19, run20, run21, run22, reduceCtorEq, Nat.reduceEqDiff, Nat.reduceAdd, Nat.reduceSub, Nat.reduceLeDiff, indexAddrA, indexRefA, appendA, strA, Nat.reduceMul, Nat.zero_mul, Nat.reduceMod, Int.reduceEq, Int.reduceLT, Int.reduceLE, Nat.reduceLT, Nat.lt_irrefl, Nat.reduceBEq, tys0, tys1, tys2, tys3, tys4, tys5, tys6, tys7, tys8, tys9, tys10, tys11, tys12, tys13, tys14, tys15, tys16, tys17, Try.ntmps40, Try.results40, hg]
      refine RunL.callp rfl rfl ok_f65 (hp) (by first | rfl | simp only [pureL, pureB, Bool.and_self, Bool.and_true, Bool.true_and, Su.elems_pure, Su.pay_pure, Su.av_pure]) rfl ?_
      simp only [run0, run1, run2, run3, run4, run5, run6, run7, run8, run9, run10, run11, run12, run13, run14, run15, run16, run17, run18, run19, run20, run21, run22, reduceCtorEq, Nat.reduceEqDiff, Nat.reduceAdd, Nat.reduceSub, Nat.reduceLeDiff, indexAddrA, indexRefA, appendA, strA, Nat.reduceMul, Nat.zero_mul, Nat.reduceMod, Int.reduceEq, Int.reduceLT, Int.reduceLE, Nat.reduceLT, Nat.lt_irrefl, Nat.reduceBEq, tys0, tys1, tys2, tys3, tys4, tys5, tys6, tys7, tys8, tys9, tys10, tys11, tys12, tys13, tys14, tys15, tys16, tys17, Try.ntmps40, Try.results40, av, fr]
      refine ⟨[0,2,3,1,4,5,6,7,8], by kernel_rfl, ?_⟩
      simp only [run0, run1, run2, run3, run4, run5, run6, run7, run8, run9, run10, run11, run12, run13, run14, run15, run16, run17, run18, run19, run20, run21, run22, reduceCtorEq, Nat.reduceEqDiff, Nat.reduceAdd, Nat.reduceSub, Nat.reduceLeDiff, indexAddrA, indexRefA, appendA, strA, Nat.reduceMul, Nat.zero_mul, Nat.reduceMod, Int.reduceEq, Int.reduceLT, Int.reduceLE, Nat.reduceLT, Nat.lt_irrefl, Nat.reduceBEq, tys0, tys1, tys2, tys3, tys4, tys5, tys6, tys7, tys8, tys9, tys10, tys11, tys12, tys13, tys14, tys15, tys16, tys17, Try.ntmps40, Try.results40]
      refine RunL.callgp rfl rfl ok_f67 rfl hc1 (by simp only [pureL, pureB, av_pure, Bool.and_self]) rfl ?_
      simp only [run0, run1, run2, run3, run4, run5, run6, run7, run8, run9, run10, run11, run12, run13, run14, run15, run16, run17, run18, run19, run20, run21, run22, reduceCtorEq, Nat.reduceEqDiff, Nat.reduceAdd, Nat.reduceSub, Nat.reduceLeDiff, indexAddrA, indexRefA, appendA, strA, Nat.reduceMul, Nat.zero_mul, Nat.reduceMod, Int.reduceEq, Int.reduceLT, Int.reduceLE, Nat.reduceLT, Nat.lt_irrefl, Nat.reduceBEq, tys0, tys1, tys2, tys3, tys4, tys5, tys6, tys7, tys8, tys9, tys10, tys11, tys12, tys13, tys14, tys15, tys16, tys17, Try.ntmps40, Try.results40, shA, shL, hX, hN1]
      refine RunL.callgp rfl rfl ok_f67 rfl hc2 (by simp only [pureL, pureB, av_pure, Bool.and_self]) rfl ?_
      simp only [run0, run1, run2, run3, run4, run5, run6, run7, run8, run9, run10, run11, run12, run13, run14, run15, run16, run17, run18, run19, run20, run21, run22, reduceCtorEq, Nat.reduceEqDiff, Nat.reduceAdd, Nat.reduceSub, Nat.reduceLeDiff, indexAddrA, indexRefA, appendA, strA, Nat.reduceMul, Nat.zero_mul, Nat.reduceMod, Int.reduceEq, Int.reduceLT, Int.reduceLE, Nat.reduceLT, Nat.lt_irrefl, Nat.reduceBEq, tys0, tys1, tys2, tys3, tys4, tys5, tys6, tys7, tys8, tys9, tys10, tys11, tys12, tys13, tys14, tys15, tys16, tys17, Try.ntmps40, Try.results40, shA, shL, hY, hN2]
      exact Fin.keep (S1.map (· + 7) ++ S2.map (· + (N1.length + 1 + 1 + 1 + 1 + 1 + 1 + 1))) (by simp [okT, okTL, oX, oY]) rfl
    · have h7 : ∀ (b0 b1 b2 b3 b4 b5 b6 : AObj) (id : Nat), (b0 :: b1 :: b2 :: b3 :: b4 :: b5 :: b6 :: N1)[id + 7]? = (M1[id]?).map (shO 7) := fun _ _ _ _ _ _ _ id => by simp [← hN1]
      have h8 : ∀ (b0 b1 b2 b3 b4 b5 b6 : AObj) (id : Nat), (b0 :: b1 :: b2 :: b3 :: b4 :: b5 :: b6 :: (N1 ++ N2))[id + (N1.length + 1 + 1 + 1 + 1 + 1 + 1 + 1)]? = (M2[id]?).map (shO (N1.length + 1 + 1 + 1 + 1 + 1 + 1 + 1)) := fun _ _ _ _ _ _ _ id => by
        rw [show id + (N1.length + 1 + 1 + 1 + 1 + 1 + 1 + 1) = (N1.length + id) + 7 by omega]
        simp only [List.getElem?_cons_succ]
        rw [getXn, ← hN2, List.getElem?_map]
      refine ⟨S1.map (· + 7), S2.map (· + (N1.length + 1 + 1 + 1 + 1 + 1 + 1 + 1)), ?_, ?_, ?_, keepS_okSO _ _⟩
      · rw [← hX]
        have hx1 : ∀ (b0 b1 b2 b3 b4 b5 b6 : AObj), OwnR (b0 :: b1 :: b2 :: b3 :: b4 :: b5 :: b6 :: (N1 ++ N2)) 76 3 (hiT a) (shA 7 x) (S1.map (· + 7)) := fun b0 b1 b2 b3 b4 b5 b6 => (OwnR.sh (h7 b0 b1 b2 b3 b4 b5 b6) ho1).more N2
        exact (hx1 _ _ _ _ _ _ _).keep fun _ h => List.mem_append_left _ h
      · rw [← hY]
        exact (OwnR.sh (h8 _ _ _ _ _ _ _) ho2).keep fun _ h => List.mem_append_right _ h
      · refine List.nodup_append.2 ⟨nodup_add _ hn1, nodup_add _ hn2, fun u hu v hv => ?_⟩
        have hlt := ho1.lt
        simp only [List.mem_map] at hu hv
        obtain ⟨p, hp, rfl⟩ := hu
        obtain ⟨q, _, rfl⟩ := hv
        have := hlt p hp
        have : N1.length = M1.length := by rw [← hN1]; simp
        omega
theorem specPartsOf_ok (a : Su) (hs : a.sz ≤ 1048576) : Ct Try.prog 39 [av a] [] (.tup [av (partH a), fr (partF a).1 (partF a).2, av (partL a), .bool (partO a)]) [] := by
  refine Ct.by_ hmix [ 8000000, 5999999, 6000001, 7000002] Try.func39 rfl ?_
  simp only [run0, run1, run2, run3, run4, run5, run6, run7, run8, run9, run10, run11, run12, run13, run14, run15, run16, run17, run18, run19, run20, run21, run22, reduceCtorEq, Nat.reduceEqDiff, Nat.reduceAdd, Nat.reduceSub, Nat.reduceLeDiff, indexAddrA, indexRefA, appendA, strA, Nat.reduceMul, Nat.zero_mul, Nat.reduceMod, Int.reduceEq, Int.reduceLT, Int.reduceLE, Nat.reduceLT, Nat.lt_irrefl, Nat.reduceBEq, tys0, tys1, tys2, tys3, tys4, tys5, tys6, tys7, tys8, tys9, tys10, tys11, tys12, tys13, tys14, tys15, tys16, tys17, Try.ntmps39, Try.results39, av]
  refine RunL.callp rfl rfl ok_f55 (odGood_ok a hs) (by first | rfl | simp only [pureL, pureB, Bool.and_self, Bool.and_true, Bool.true_and, Su.elems_pure, Su.pay_pure, Su.av_pure]) rfl ?_
  cases hg : goodT a
  · rw [show partF a = (0, 0) by simp [partF, hg], show partH a = .nil by simp [partH, hg], show partL a = .nil by simp [partL, hg], show partO a = false from hg]
    simp only [run0, run1, run2, run3, run4, run5, run6, run7, run8, run9, run10, run11, run12, run13, run14, run15, run16, run17, run18, run19, run20, run21, run22, reduceCtorEq, Nat.reduceEqDiff, Nat.reduceAdd, Nat.reduceSub, Nat.reduceLeDiff, indexAddrA, indexRefA, appendA, strA, Nat.reduceMul, Nat.zero_mul, Nat.reduceMod, Int.reduceEq, Int.reduceLT, Int.reduceLE, Nat.reduceLT, Nat.lt_irrefl, Nat.reduceBEq, tys0, tys1, tys2, tys3, tys4, tys5, tys6, tys7, tys8, tys9, tys10, tys11, tys12, tys13, tys14, tys15, tys16, tys17, Try.ntmps39, Try.results39, hg]
    exact Fin.value (Vw.tup (.cons (Vw.agg (.cons (Vw.nil false) .nil)) (.cons (Vw.pur (.of rfl)) (.cons (Vw.agg (.cons (Vw.nil false) .nil)) (.cons (Vw.pur (Pur.bool _)) .nil)))))
  · rw [show partF a = reT a (0, 1) by simp [partF, hg], show partH a = hiT a by simp [partH, hg], show partL a = loT a by simp [partL, hg], show partO a = true from hg]
    have hh := hiT_sz a
    have hl := loT_sz a
    have hp := specParts_ok a hs (goodT_rng hg)
    simp only [run0, run1, run2, run3, run4, run5, run6, run7, run8, run9, run10, run11, run12, run13, run14, run15, run16, run17, run18, run19, run20, run21, run22, reduceCtorEq, Nat.reduceEqDiff, Nat.reduceAdd, Nat.reduceSub, Nat.reduceLeDiff, indexAddrA, indexRefA, appendA, strA, Nat.reduceMul, Nat.zero_mul, Nat.reduceMod, Int.reduceEq, Int.reduceLT, Int.reduceLE, Nat.reduceLT, Nat.lt_irrefl, Nat.reduceBEq, tys0, tys1, tys2, tys3, tys4, tys5, tys6, tys7, tys8, tys9, tys10, tys11, tys12, tys13, tys14, tys15, tys16, tys17, Try.ntmps39, Try.results39, hg]
    refine RunL.callp rfl rfl ok_f63 (hp) (by first | rfl | simp only [pureL, pureB, Bool.and_self, Bool.and_true, Bool.true_and, Su.elems_pure, Su.pay_pure, Su.av_pure]) rfl ?_
    simp only [run0, run1, run2, run3, run4, run5, run6, run7, run8, run9, run10, run11, run12, run13, run14, run15, run16, run17, run18, run19, run20, run21, run22, reduceCtorEq, Nat.reduceEqDiff, Nat.reduceAdd, Nat.reduceSub, Nat.reduceLeDiff, indexAddrA, indexRefA, appendA, strA, Nat.reduceMul, Nat.zero_mul, Nat.reduceMod, Int.reduceEq, Int.reduceLT, Int.reduceLE, Nat.reduceLT, Nat.lt_irrefl, Nat.reduceBEq, tys0, tys1, tys2, tys3, tys4, tys5, tys6, tys7, tys8, tys9, tys10, tys11, tys12, tys13, tys14, tys15, tys16, tys17, Try.ntmps39, Try.results39, av, fr]
    refine ⟨[0,1,2,3,4,5,6,7,8], by kernel_rfl, ?_⟩
    simp only [run0, run1, run2, run3, run4, run5, run6, run7, run8, run9, run10, run11, run12, run13, run14, run15, run16, run17, run18, run19, run20, run21, run22, reduceCtorEq, Nat.reduceEqDiff, Nat.reduceAdd, Nat.reduceSub, Nat.reduceLeDiff, indexAddrA, indexRefA, appendA, strA, Nat.reduceMul, Nat.zero_mul, Nat.reduceMod, Int.reduceEq, Int.reduceLT, Int.reduceLE, Nat.reduceLT, Nat.lt_irrefl, Nat.reduceBEq, tys0, tys1, tys2, tys3, tys4, tys5, tys6, tys7, tys8, tys9, tys10, tys11, tys12, tys13, tys14, tys15, tys16, tys17, Try.ntmps39, Try.results39]
    refine RunL.callp rfl rfl ok_f66 (own_v (hiT a) (by omega)) (by first | rfl | simp only [pureL, pureB, Bool.and_self, Bool.and_true, Bool.true_and, Su.elems_pure, Su.pay_pure, Su.av_pure]) rfl ?_
    simp only [run0, run1, run2, run3, run4, run5, run6, run7, run8, run9, run10, run11, run12, run13, run14, run15, run16, run17, run18, run19, run20, run21, run22, reduceCtorEq, Nat.reduceEqDiff, Nat.reduceAdd, Nat.reduceSub, Nat.reduceLeDiff, indexAddrA, indexRefA, appendA, strA, Nat.reduceMul, Nat.zero_mul, Nat.reduceMod, Int.reduceEq, Int.reduceLT, Int.reduceLE, Nat.reduceLT, Nat.lt_irrefl, Nat.reduceBEq, tys0, tys1, tys2, tys3, tys4, tys5, tys6, tys7, tys8, tys9, tys10, tys11, tys12, tys13, tys14, tys15, tys16, tys17, Try.ntmps39, Try.results39, av]
    refine RunL.callp rfl rfl ok_f66 (own_v (loT a) (by omega)) (by first | rfl | simp only [pureL, pureB, Bool.and_self, Bool.and_true, Bool.true_and, Su.elems_pure, Su.pay_pure, Su.av_pure]) rfl ?_
    simp only [run0, run1, run2, run3, run4, run5, run6, run7, run8, run9, run10, run11, run12, run13, run14, run15, run16, run17, run18, run19, run20, run21, run22, reduceCtorEq, Nat.reduceEqDiff, Nat.reduceAdd, Nat.reduceSub, Nat.reduceLeDiff, indexAddrA, indexRefA, appendA, strA, Nat.reduceMul, Nat.zero_mul, Nat.reduceMod, Int.reduceEq, Int.reduceLT, Int.reduceLE, Nat.reduceLT, Nat.lt_irrefl, Nat.reduceBEq, tys0, tys1, tys2, tys3, tys4, tys5, tys6, tys7, tys8, tys9, tys10, tys11, tys12, tys13, tys14, tys15, tys16, tys17, Try.ntmps39, Try.results39, av]
    exact Fin.eq rfl (by simp only [pureB, pureL, elems_pure, Bool.and_self])

theorem okS_resP {x y : AV} {m n : Int} {b : Bool} (h : okT x = true) (k : okT y = true) : okS (.tup [.agg [x], .agg [.int .i64 m, .int .i64 n], .agg [y], .bool b]) = true := by
  have := okT_okS h
  have := okT_okS k
  simp [okS, okSL, *]

theorem FnExactPartsOf_ok {a0 : AV} (h0 : IsOf Try.prog 36 a0) : Ct Try.prog 12 [a0] [] (.bool true) [] := by
  obtain ⟨a, rfl, hf⟩ := laws_isOd h0
  rcases szR_spec a.sz 1048576 with ⟨hs, hr⟩ | ⟨hs, hr⟩
  case inr =>
    refine Ct.by_ hmix [] Try.func12 rfl ?_
    simp only [run0, run1, run2, run3, run4, run5, run6, run7, run8, run9, run10, run11, run12, run13, run14, run15, run16, run17, run18, run19, run20, run21, run22, reduceCtorEq, Nat.reduceEqDiff, Nat.reduceAdd, Nat.reduceSub, Nat.reduceLeDiff, indexAddrA, indexRefA, appendA, strA, Nat.reduceMul, Nat.zero_mul, Nat.reduceMod, Int.reduceEq, Int.reduceLT, Int.reduceLE, Nat.reduceLT, Nat.lt_irrefl, Nat.reduceBEq, tys0, tys1, tys2, tys3, tys4, tys5, tys6, tys7, tys8, tys9, tys10, tys11, tys12, tys13, tys14, tys15, tys16, tys17, Try.ntmps12, Try.results12, av]
    refine RunL.callp rfl rfl ok_f20 (szSurreal_ok a 1048576 hf (by omega) (by omega)) (by first | rfl | simp only [pureL, pureB, Bool.and_self, Bool.and_true, Bool.true_and, Su.elems_pure, Su.pay_pure, Su.av_pure]) rfl ?_
    have e1 : szR a.sz 1048576 < 0 := by omega
    simp only [run0, run1, run2, run3, run4, run5, run6, run7, run8, run9, run10, run11, run12, run13, run14, run15, run16, run17, run18, run19, run20, run21, run22, reduceCtorEq, Nat.reduceEqDiff, Nat.reduceAdd, Nat.reduceSub, Nat.reduceLeDiff, indexAddrA, indexRefA, appendA, strA, Nat.reduceMul, Nat.zero_mul, Nat.reduceMod, Int.reduceEq, Int.reduceLT, Int.reduceLE, Nat.reduceLT, Nat.lt_irrefl, Nat.reduceBEq, tys0, tys1, tys2, tys3, tys4, tys5, tys6, tys7, tys8, tys9, tys10, tys11, tys12, tys13, tys14, tys15, tys16, tys17, Try.ntmps12, Try.results12, e1]
    exact Fin.eq rfl rfl
  have ha : a.sz ≤ 1048576 := by omega
  have e1 : ¬ (szR a.sz 1048576 < 0) := by omega
  have hsp := specPartsOf_ok a ha
  obtain ⟨g, h, M1, hi, S1, U1, ho1, ho2, hn1, hM1⟩ := implPartsOf_ok a ha
  have hRs0 := partH_sz a
  have hQs0 := partL_sz a
  generalize partH a = R at *
  generalize partL a = Q at *
  generalize partO a = ok at *
  generalize partF a = f at *
  obtain ⟨fn, fd⟩ := f
  simp only [fr] at hsp hi
  have hRs : R.sz ≤ 1048576 := by omega
  have hQs : Q.sz ≤ 1048576 := by omega
  obtain ⟨x, M0, hx, S0, ho0, hn0, hM0⟩ := toSurrealOwn_ok a ha
  generalize hM0' : M0.map (shO 4) = N0 at *
  generalize hM1' : M1.map (shO (N0.length + 1 + 1 + 1 + 1 + 1)) = N1 at *
  have ox : ∀ X, OwnR (.box 36 [.sl false (elems a)] :: .box 26 [.sl false (elems R)] :: .box 29 [.int .i64 fn, .int .i64 fd] :: .box 26 [.sl false (elems Q)] :: (N0 ++ X)) 76 3 a (shA 4 x) (S0.map (· + 4)) := fun X =>
    (OwnR.sh (L' := .box 36 [.sl false (elems a)] :: .box 26 [.sl false (elems R)] :: .box 29 [.int .i64 fn, .int .i64 fd] :: .box 26 [.sl false (elems Q)] :: N0) (fun id => by simp [← hM0']) ho0).more X
  generalize hx' : shA 4 x = X0 at *
  have n0 := nodup_add 4 hn0
  generalize hS0 : S0.map (· + 4) = T0 at *
  have hsh : ∀ id, (.box 36 [.sl false (elems a)] :: .box 26 [.sl false (elems R)] :: .box 29 [.int .i64 fn, .int .i64 fd] :: .box 26 [.sl false (elems Q)] :: (N0 ++ .box 26 [X0] :: N1) : List AObj)[id + (N0.length + 1 + 1 + 1 + 1 + 1)]? = (M1[id]?).map (shO (N0.length + 1 + 1 + 1 + 1 + 1)) := fun id => by
    rw [show id + (N0.length + 1 + 1 + 1 + 1 + 1) = (N0.length + (id + 1)) + 4 by omega]
    simp only [List.getElem?_cons_succ]
    rw [getXn, List.getElem?_cons_succ, ← hM1', List.getElem?_map]
  have og : ∀ X, OwnR (.box 36 [.sl false (elems a)] :: .box 26 [.sl false (elems R)] :: .box 29 [.int .i64 fn, .int .i64 fd] :: .box 26 [.sl false (elems Q)] :: (N0 ++ .box 26 [X0] :: (N1 ++ X))) 76 3 R (shA (N0.length + 1 + 1 + 1 + 1 + 1) g) (S1.map (· + (N0.length + 1 + 1 + 1 + 1 + 1))) := fun X => by
    have := (OwnR.sh hsh ho1).more X
    simp only [List.cons_append, List.append_assoc] at this
    exact this
  have oh : ∀ X, OwnR (.box 36 [.sl false (elems a)] :: .box 26 [.sl false (elems R)] :: .box 29 [.int .i64 fn, .int .i64 fd] :: .box 26 [.sl false (elems Q)] :: (N0 ++ .box 26 [X0] :: (N1 ++ X))) 76 3 Q (shA (N0.length + 1 + 1 + 1 + 1 + 1) h) (U1.map (· + (N0.length + 1 + 1 + 1 + 1 + 1))) := fun X => by
    have := (OwnR.sh hsh ho2).more X
    simp only [List.cons_append, List.append_assoc] at this
    exact this
  obtain ⟨nS, nU, nd⟩ := List.nodup_append.1 hn1
  have n1 := nodup_add (N0.length + 1 + 1 + 1 + 1 + 1) nS
  have n2 := nodup_add (N0.length + 1 + 1 + 1 + 1 + 1) nU
  have oS : okS (.tup [.agg [g], .agg [.int .i64 fn, .int .i64 fd], .agg [h], .bool ok]) = true := okS_resP ho1.form.1 ho2.form.1
  have dis : ∀ id ∈ S1.map (· + (N0.length + 1 + 1 + 1 + 1 + 1)), id ∉ U1.map (· + (N0.length + 1 + 1 + 1 + 1 + 1)) := fun id h1 h2 => by
    simp only [List.mem_map] at h1 h2
    obtain ⟨p, hp, rfl⟩ := h1
    obtain ⟨q, hq, e⟩ := h2
    exact nd p hp q hq (by omega)
  generalize hG : shA (N0.length + 1 + 1 + 1 + 1 + 1) g = G0 at *
  generalize hH : shA (N0.length + 1 + 1 + 1 + 1 + 1) h = H0 at *
  generalize hS1 : S1.map (· + (N0.length + 1 + 1 + 1 + 1 + 1)) = T1 at *
  generalize hU1 : U1.map (· + (N0.length + 1 + 1 + 1 + 1 + 1)) = V1 at *
  have xlt : ∀ id ∈ T0, id < N0.length + 4 := fun id hid => by have := (ox []).lt id hid; simpa using this
  have glo : ∀ id ∈ T1, N0.length + 5 ≤ id := fun id hid => by
    rw [← hS1] at hid
    obtain ⟨q, _, rfl⟩ := List.mem_map.1 hid
    omega
  have hlo : ∀ id ∈ V1, N0.length + 5 ≤ id := fun id hid => by
    rw [← hU1] at hid
    obtain ⟨q, _, rfl⟩ := List.mem_map.1 hid
    omega
  have nbox : ∀ {L : List AObj} {b : Su} {y : AV} {S : List Nat} {id : Nat} {T : TypeId} {cs : List AV}, OwnR L 76 3 b y S → L[id]? = some (.box T cs) → id ∉ S := fun h hb hid => by
    obtain ⟨_, _, h2, _⟩ := h.objs _ hid
    rw [hb] at h2; cases h2
  obtain ⟨L1, hc1, hm1, hf1, hl1⟩ := markSurreal_ok a X0 T0 (.box 36 [.sl false (elems a)] :: .box 26 [.sl false (elems R)] :: .box 29 [.int .i64 fn, .int .i64 fd] :: .box 26 [.sl false (elems Q)] :: (N0 ++ .box 26 [X0] :: (N1 ++ [.box 26 [G0], .box 29 [.int .i64 fn, .int .i64 fd], .box 26 [H0]]))) 1 (ox _) n0 (by omega) (by omega)
  have keep1 : ∀ (id : Nat) o, (.box 36 [.sl false (elems a)] :: .box 26 [.sl false (elems R)] :: .box 29 [.int .i64 fn, .int .i64 fd] :: .box 26 [.sl false (elems Q)] :: (N0 ++ .box 26 [X0] :: (N1 ++ [.box 26 [G0], .box 29 [.int .i64 fn, .int .i64 fd], .box 26 [H0]])) : List AObj)[id]? = some o → id ∉ T0 → L1[id]? = some o := fun id o h hn => by
    rw [hf1 id hn (List.getElem?_eq_some_iff.1 h).1]; exact h
  have keepB1 : ∀ (id : Nat) T cs, (.box 36 [.sl false (elems a)] :: .box 26 [.sl false (elems R)] :: .box 29 [.int .i64 fn, .int .i64 fd] :: .box 26 [.sl false (elems Q)] :: (N0 ++ .box 26 [X0] :: (N1 ++ [.box 26 [G0], .box 29 [.int .i64 fn, .int .i64 fd], .box 26 [H0]])) : List AObj)[id]? = some (.box T cs) → L1[id]? = some (.box T cs) := fun id T cs h => keep1 id _ h (nbox (ox _) h)
  have q0 : L1[0]? = some (.box 36 [.sl false (elems a)]) := keepB1 0 _ _ rfl
  have q1 : L1[1]? = some (.box 26 [.sl false (elems R)]) := keepB1 1 _ _ rfl
  have q2 : L1[2]? = some (.box 29 [.int .i64 fn, .int .i64 fd]) := keepB1 2 _ _ rfl
  have q3 : L1[3]? = some (.box 26 [.sl false (elems Q)]) := keepB1 3 _ _ rfl
  have q7 : L1[N0.length + (N1.length + 1) + 1 + 1 + 1 + 1]? = some (.box 26 [G0]) := keepB1 _ _ _ (by simp only [List.getElem?_cons_succ, getXn, getX0, List.getElem?_cons_zero])
  have q8 : L1[N0.length + (N1.length + 1 + 1) + 1 + 1 + 1 + 1]? = some (.box 29 [.int .i64 fn, .int .i64 fd]) := keepB1 _ _ _ (by
    simp only [List.getElem?_cons_succ, getXn, getX1, List.getElem?_cons_zero])
  have q9 : L1[N0.length + (N1.length + 2 + 1) + 1 + 1 + 1 + 1]? = some (.box 26 [H0]) := keepB1 _ _ _ (by
    rw [show N0.length + (N1.length + 2 + 1) + 1 + 1 + 1 + 1 = (N0.length + ((N1.length + 1 + 1) + 1)) + 1 + 1 + 1 + 1 by omega]
    simp only [List.getElem?_cons_succ, getXn, getX2, List.getElem?_cons_zero])
  have og1 : OwnR L1 76 3 R G0 T1 := (og _).mono fun id hid g1 es1 h => keep1 id _ h (fun h2 => by have := xlt id h2; have := glo id hid; omega)
  have oh1 : OwnR L1 76 3 Q H0 V1 := (oh _).mono fun id hid g1 es1 h => keep1 id _ h (fun h2 => by have := xlt id h2; have := hlo id hid; omega)
  obtain ⟨L2, hc2, og2, hf2, hl2⟩ := markSurreal_ok R G0 T1 L1 1 og1 n1 (by omega) (by omega)
  have keepB2 : ∀ {id : Nat} {T : TypeId} {cs : List AV}, L1[id]? = some (.box T cs) → L2[id]? = some (.box T cs) := fun h => by
    rw [hf2 _ (nbox og1 h) (List.getElem?_eq_some_iff.1 h).1]; exact h
  have oh2 : OwnR L2 76 3 Q H0 V1 := oh1.mono fun id hid g1 es1 h => by
    rw [hf2 _ (fun h2 => dis id h2 hid) (List.getElem?_eq_some_iff.1 h).1]; exact h
  obtain ⟨L3, hc3, oh3, hf3, hl3⟩ := markSurreal_ok Q H0 V1 L2 (1 + 2 * R.sz) oh2 n2 (by omega) (by omega)
  have keepB3 : ∀ {id : Nat} {T : TypeId} {cs : List AV}, L1[id]? = some (.box T cs) → L3[id]? = some (.box T cs) := fun h => by
    have h' := keepB2 h
    rw [hf3 _ (nbox oh2 h') (List.getElem?_eq_some_iff.1 h').1]; exact h'
  have og3 : OwnR L3 76 3 (mk R 1) G0 T1 := og2.mono fun id hid g1 es1 h => by
    rw [hf3 _ (dis id hid) (List.getElem?_eq_some_iff.1 h).1]; exact h
  have k0 := keepB2 q0
  have k1 := keepB2 q1
  have k7 := keepB2 q7
  have k9 := keepB2 q9
  have p0 := keepB3 q0
  have p1 := keepB3 q1
  have p2 := keepB3 q2
  have p3 := keepB3 q3
  have p7 := keepB3 q7
  have p8 := keepB3 q8
  have p9 := keepB3 q9
  have rr : ∀ {id : Nat} {o : AObj}, L3[id]? = some o → ∀ X, (L3 ++ X)[id]? = some o := fun h X => by rw [List.getElem?_append_left (List.getElem?_eq_some_iff.1 h).1]; exact h
  have r1 := rr p1
  have r2 := rr p2
  have r3 := rr p3
  have r7 := rr p7
  have r9 := rr p9
  have ogh : ∀ X, OwnR (L3 ++ (M1.map (shO L3.length) ++ X)) 76 3 R (shA L3.length g) (S1.map (· + L3.length)) := fun X => by
    rw [← List.append_assoc]; exact (OwnR.sh (more_get L3 M1) ho1).more X
  have ohh : ∀ X, OwnR (L3 ++ (M1.map (shO L3.length) ++ X)) 76 3 Q (shA L3.length h) (U1.map (· + L3.length)) := fun X => by
    rw [← List.append_assoc]; exact (OwnR.sh (more_get L3 M1) ho2).more X
  have e3 : ¬ (1 + 2 * (a.sz : Int) < 0) := by omega
  have e4 : ¬ (1 + 2 * (R.sz : Int) < 0) := by omega
  have e5 : ¬ (1 + 2 * (R.sz : Int) + 2 * (Q.sz : Int) < 0) := by omega
  refine Ct.by_ hmix [17, 2000000 + 40] Try.func12 rfl ?_
  simp only [run0, run1, run2, run3, run4, run5, run6, run7, run8, run9, run10, run11, run12, run13, run14, run15, run16, run17, run18, run19, run20, run21, run22, reduceCtorEq, Nat.reduceEqDiff, Nat.reduceAdd, Nat.reduceSub, Nat.reduceLeDiff, indexAddrA, indexRefA, appendA, strA, Nat.reduceMul, Nat.zero_mul, Nat.reduceMod, Int.reduceEq, Int.reduceLT, Int.reduceLE, Nat.reduceLT, Nat.lt_irrefl, Nat.reduceBEq, tys0, tys1, tys2, tys3, tys4, tys5, tys6, tys7, tys8, tys9, tys10, tys11, tys12, tys13, tys14, tys15, tys16, tys17, Try.ntmps12, Try.results12, av]
  refine RunL.callp rfl rfl ok_f20 (szSurreal_ok a 1048576 hf (by omega) (by omega)) (by first | rfl | simp only [pureL, pureB, Bool.and_self, Bool.and_true, Bool.true_and, Su.elems_pure, Su.pay_pure, Su.av_pure]) rfl ?_
  simp only [run0, run1, run2, run3, run4, run5, run6, run7, run8, run9, run10, run11, run12, run13, run14, run15, run16, run17, run18, run19, run20, run21, run22, reduceCtorEq, Nat.reduceEqDiff, Nat.reduceAdd, Nat.reduceSub, Nat.reduceLeDiff, indexAddrA, indexRefA, appendA, strA, Nat.reduceMul, Nat.zero_mul, Nat.reduceMod, Int.reduceEq, Int.reduceLT, Int.reduceLE, Nat.reduceLT, Nat.lt_irrefl, Nat.reduceBEq, tys0, tys1, tys2, tys3, tys4, tys5, tys6, tys7, tys8, tys9, tys10, tys11, tys12, tys13, tys14, tys15, tys16, tys17, Try.ntmps12, Try.results12, e1]
  refine RunL.callp rfl rfl ok_f22 (toSurreal_ok a ha) (by first | rfl | simp only [pureL, pureB, Bool.and_self, Bool.and_true, Bool.true_and, Su.elems_pure, Su.pay_pure, Su.av_pure]) rfl ?_
  simp only [run0, run1, run2, run3, run4, run5, run6, run7, run8, run9, run10, run11, run12, run13, run14, run15, run16, run17, run18, run19, run20, run21, run22, reduceCtorEq, Nat.reduceEqDiff, Nat.reduceAdd, Nat.reduceSub, Nat.reduceLeDiff, indexAddrA, indexRefA, appendA, strA, Nat.reduceMul, Nat.zero_mul, Nat.reduceMod, Int.reduceEq, Int.reduceLT, Int.reduceLE, Nat.reduceLT, Nat.lt_irrefl, Nat.reduceBEq, tys0, tys1, tys2, tys3, tys4, tys5, tys6, tys7, tys8, tys9, tys10, tys11, tys12, tys13, tys14, tys15, tys16, tys17, Try.ntmps12, Try.results12, av]
  refine RunL.callp rfl rfl ok_f39 (hsp) (by first | rfl | simp only [pureL, pureB, Bool.and_self, Bool.and_true, Bool.true_and, Su.elems_pure, Su.pay_pure, Su.av_pure]) rfl ?_
  simp only [run0, run1, run2, run3, run4, run5, run6, run7, run8, run9, run10, run11, run12, run13, run14, run15, run16, run17, run18, run19, run20, run21, run22, reduceCtorEq, Nat.reduceEqDiff, Nat.reduceAdd, Nat.reduceSub, Nat.reduceLeDiff, indexAddrA, indexRefA, appendA, strA, Nat.reduceMul, Nat.zero_mul, Nat.reduceMod, Int.reduceEq, Int.reduceLT, Int.reduceLE, Nat.reduceLT, Nat.lt_irrefl, Nat.reduceBEq, tys0, tys1, tys2, tys3, tys4, tys5, tys6, tys7, tys8, tys9, tys10, tys11, tys12, tys13, tys14, tys15, tys16, tys17, Try.ntmps12, Try.results12, av]
  refine RunL.callgp rfl rfl ok_f22 rfl hx (by simp only [pureL, pureB, av_pure, Bool.and_self]) rfl ?_
  simp only [run0, run1, run2, run3, run4, run5, run6, run7, run8, run9, run10, run11, run12, run13, run14, run15, run16, run17, run18, run19, run20, run21, run22, reduceCtorEq, Nat.reduceEqDiff, Nat.reduceAdd, Nat.reduceSub, Nat.reduceLeDiff, indexAddrA, indexRefA, appendA, strA, Nat.reduceMul, Nat.zero_mul, Nat.reduceMod, Int.reduceEq, Int.reduceLT, Int.reduceLE, Nat.reduceLT, Nat.lt_irrefl, Nat.reduceBEq, tys0, tys1, tys2, tys3, tys4, tys5, tys6, tys7, tys8, tys9, tys10, tys11, tys12, tys13, tys14, tys15, tys16, tys17, Try.ntmps12, Try.results12, shA, shL, hx', hM0']
  refine RunL.lendGV rfl rfl ok_f40 rfl hi (.cons (vw1 (ox _)) .nil) oS hM1 rfl ?_
  simp only [run0, run1, run2, run3, run4, run5, run6, run7, run8, run9, run10, run11, run12, run13, run14, run15, run16, run17, run18, run19, run20, run21, run22, reduceCtorEq, Nat.reduceEqDiff, Nat.reduceAdd, Nat.reduceSub, Nat.reduceLeDiff, indexAddrA, indexRefA, appendA, strA, Nat.reduceMul, Nat.zero_mul, Nat.reduceMod, Int.reduceEq, Int.reduceLT, Int.reduceLE, Nat.reduceLT, Nat.lt_irrefl, Nat.reduceBEq, tys0, tys1, tys2, tys3, tys4, tys5, tys6, tys7, tys8, tys9, tys10, tys11, tys12, tys13, tys14, tys15, tys16, tys17, Try.ntmps12, Try.results12, shA, shL, hM1', hG, hH, setXn]
  refine RunL.lendV rfl rfl ok_f17 rfl (eqSurreal_ok R R hRs) (vwl2 (og _)) rfl rfl ?_
  simp only [run0, run1, run2, run3, run4, run5, run6, run7, run8, run9, run10, run11, run12, run13, run14, run15, run16, run17, run18, run19, run20, run21, run22, reduceCtorEq, Nat.reduceEqDiff, Nat.reduceAdd, Nat.reduceSub, Nat.reduceLeDiff, indexAddrA, indexRefA, appendA, strA, Nat.reduceMul, Nat.zero_mul, Nat.reduceMod, Int.reduceEq, Int.reduceLT, Int.reduceLE, Nat.reduceLT, Nat.lt_irrefl, Nat.reduceBEq, tys0, tys1, tys2, tys3, tys4, tys5, tys6, tys7, tys8, tys9, tys10, tys11, tys12, tys13, tys14, tys15, tys16, tys17, Try.ntmps12, Try.results12, eqT_refl]
  refine RunL.callp rfl rfl ok_f34 (eqFraction_ok fn fd fn fd) (by first | rfl | simp only [pureL, pureB, Bool.and_self, Bool.and_true, Bool.true_and, Su.elems_pure, Su.pay_pure, Su.av_pure]) rfl ?_
  simp only [run0, run1, run2, run3, run4, run5, run6, run7, run8, run9, run10, run11, run12, run13, run14, run15, run16, run17, run18, run19, run20, run21, run22, reduceCtorEq, Nat.reduceEqDiff, Nat.reduceAdd, Nat.reduceSub, Nat.reduceLeDiff, indexAddrA, indexRefA, appendA, strA, Nat.reduceMul, Nat.zero_mul, Nat.reduceMod, Int.reduceEq, Int.reduceLT, Int.reduceLE, Nat.reduceLT, Nat.lt_irrefl, Nat.reduceBEq, tys0, tys1, tys2, tys3, tys4, tys5, tys6, tys7, tys8, tys9, tys10, tys11, tys12, tys13, tys14, tys15, tys16, tys17, Try.ntmps12, Try.results12, beq_self_eq_true]
  refine RunL.lendV rfl rfl ok_f17 rfl (eqSurreal_ok Q Q hQs) (vwl2 (oh _)) rfl rfl ?_
  simp only [run0, run1, run2, run3, run4, run5, run6, run7, run8, run9, run10, run11, run12, run13, run14, run15, run16, run17, run18, run19, run20, run21, run22, reduceCtorEq, Nat.reduceEqDiff, Nat.reduceAdd, Nat.reduceSub, Nat.reduceLeDiff, indexAddrA, indexRefA, appendA, strA, Nat.reduceMul, Nat.zero_mul, Nat.reduceMod, Int.reduceEq, Int.reduceLT, Int.reduceLE, Nat.reduceLT, Nat.lt_irrefl, Nat.reduceBEq, tys0, tys1, tys2, tys3, tys4, tys5, tys6, tys7, tys8, tys9, tys10, tys11, tys12, tys13, tys14, tys15, tys16, tys17, Try.ntmps12, Try.results12, eqT_refl, bne_self_eq_false]
  refine ⟨by kernel_rfl, ?_⟩
  refine RunL.callp rfl rfl ok_f22 (toSurreal_ok a ha) (by first | rfl | simp only [pureL, pureB, Bool.and_self, Bool.and_true, Bool.true_and, Su.elems_pure, Su.pay_pure, Su.av_pure]) rfl ?_
  simp only [run0, run1, run2, run3, run4, run5, run6, run7, run8, run9, run10, run11, run12, run13, run14, run15, run16, run17, run18, run19, run20, run21, run22, reduceCtorEq, Nat.reduceEqDiff, Nat.reduceAdd, Nat.reduceSub, Nat.reduceLeDiff, indexAddrA, indexRefA, appendA, strA, Nat.reduceMul, Nat.zero_mul, Nat.reduceMod, Int.reduceEq, Int.reduceLT, Int.reduceLE, Nat.reduceLT, Nat.lt_irrefl, Nat.reduceBEq, tys0, tys1, tys2, tys3, tys4, tys5, tys6, tys7, tys8, tys9, tys10, tys11, tys12, tys13, tys14, tys15, tys16, tys17, Try.ntmps12, Try.results12, av]
  refine RunL.lendV rfl rfl ok_f17 rfl (eqSurreal_ok a a ha) (vwl2 (ox _)) rfl rfl ?_
  simp only [run0, run1, run2, run3, run4, run5, run6, run7, run8, run9, run10, run11, run12, run13, run14, run15, run16, run17, run18, run19, run20, run21, run22, reduceCtorEq, Nat.reduceEqDiff, Nat.reduceAdd, Nat.reduceSub, Nat.reduceLeDiff, indexAddrA, indexRefA, appendA, strA, Nat.reduceMul, Nat.zero_mul, Nat.reduceMod, Int.reduceEq, Int.reduceLT, Int.reduceLE, Nat.reduceLT, Nat.lt_irrefl, Nat.reduceBEq, tys0, tys1, tys2, tys3, tys4, tys5, tys6, tys7, tys8, tys9, tys10, tys11, tys12, tys13, tys14, tys15, tys16, tys17, Try.ntmps12, Try.results12, eqT_refl]
  refine RunL.callM rfl rfl ok_f18 rfl rfl hc1 rfl ?_
  simp only [run0, run1, run2, run3, run4, run5, run6, run7, run8, run9, run10, run11, run12, run13, run14, run15, run16, run17, run18, run19, run20, run21, run22, reduceCtorEq, Nat.reduceEqDiff, Nat.reduceAdd, Nat.reduceSub, Nat.reduceLeDiff, indexAddrA, indexRefA, appendA, strA, Nat.reduceMul, Nat.zero_mul, Nat.reduceMod, Int.reduceEq, Int.reduceLT, Int.reduceLE, Nat.reduceLT, Nat.lt_irrefl, Nat.reduceBEq, tys0, tys1, tys2, tys3, tys4, tys5, tys6, tys7, tys8, tys9, tys10, tys11, tys12, tys13, tys14, tys15, tys16, tys17, Try.ntmps12, Try.results12, e3, q0, q1, q2, q3, q7, q8, q9]
  refine RunL.lendV rfl rfl ok_f17 rfl (eqSurreal_ok R R hRs) (vwl2 og1) rfl rfl ?_
  simp only [run0, run1, run2, run3, run4, run5, run6, run7, run8, run9, run10, run11, run12, run13, run14, run15, run16, run17, run18, run19, run20, run21, run22, reduceCtorEq, Nat.reduceEqDiff, Nat.reduceAdd, Nat.reduceSub, Nat.reduceLeDiff, indexAddrA, indexRefA, appendA, strA, Nat.reduceMul, Nat.zero_mul, Nat.reduceMod, Int.reduceEq, Int.reduceLT, Int.reduceLE, Nat.reduceLT, Nat.lt_irrefl, Nat.reduceBEq, tys0, tys1, tys2, tys3, tys4, tys5, tys6, tys7, tys8, tys9, tys10, tys11, tys12, tys13, tys14, tys15, tys16, tys17, Try.ntmps12, Try.results12, eqT_refl, q0, q1, q2, q3, q7, q8, q9]
  refine RunL.callp rfl rfl ok_f34 (eqFraction_ok fn fd fn fd) (by first | rfl | simp only [pureL, pureB, Bool.and_self, Bool.and_true, Bool.true_and, Su.elems_pure, Su.pay_pure, Su.av_pure]) rfl ?_
  simp only [run0, run1, run2, run3, run4, run5, run6, run7, run8, run9, run10, run11, run12, run13, run14, run15, run16, run17, run18, run19, run20, run21, run22, reduceCtorEq, Nat.reduceEqDiff, Nat.reduceAdd, Nat.reduceSub, Nat.reduceLeDiff, indexAddrA, indexRefA, appendA, strA, Nat.reduceMul, Nat.zero_mul, Nat.reduceMod, Int.reduceEq, Int.reduceLT, Int.reduceLE, Nat.reduceLT, Nat.lt_irrefl, Nat.reduceBEq, tys0, tys1, tys2, tys3, tys4, tys5, tys6, tys7, tys8, tys9, tys10, tys11, tys12, tys13, tys14, tys15, tys16, tys17, Try.ntmps12, Try.results12, beq_self_eq_true, q0, q1, q2, q3, q7, q8, q9]
  refine RunL.lendV rfl rfl ok_f17 rfl (eqSurreal_ok Q Q hQs) (vwl2 oh1) rfl rfl ?_
  simp only [run0, run1, run2, run3, run4, run5, run6, run7, run8, run9, run10, run11, run12, run13, run14, run15, run16, run17, run18, run19, run20, run21, run22, reduceCtorEq, Nat.reduceEqDiff, Nat.reduceAdd, Nat.reduceSub, Nat.reduceLeDiff, indexAddrA, indexRefA, appendA, strA, Nat.reduceMul, Nat.zero_mul, Nat.reduceMod, Int.reduceEq, Int.reduceLT, Int.reduceLE, Nat.reduceLT, Nat.lt_irrefl, Nat.reduceBEq, tys0, tys1, tys2, tys3, tys4, tys5, tys6, tys7, tys8, tys9, tys10, tys11, tys12, tys13, tys14, tys15, tys16, tys17, Try.ntmps12, Try.results12, eqT_refl, bne_self_eq_false, q0, q1, q2, q3, q7, q8, q9]
  refine RunL.callM rfl rfl ok_f18 rfl rfl hc2 rfl ?_
  simp only [run0, run1, run2, run3, run4, run5, run6, run7, run8, run9, run10, run11, run12, run13, run14, run15, run16, run17, run18, run19, run20, run21, run22, reduceCtorEq, Nat.reduceEqDiff, Nat.reduceAdd, Nat.reduceSub, Nat.reduceLeDiff, indexAddrA, indexRefA, appendA, strA, Nat.reduceMul, Nat.zero_mul, Nat.reduceMod, Int.reduceEq, Int.reduceLT, Int.reduceLE, Nat.reduceLT, Nat.lt_irrefl, Nat.reduceBEq, tys0, tys1, tys2, tys3, tys4, tys5, tys6, tys7, tys8, tys9, tys10, tys11, tys12, tys13, tys14, tys15, tys16, tys17, Try.ntmps12, Try.results12, k0, k1, k7, k9]
  refine RunL.callM rfl rfl ok_f18 rfl rfl hc3 rfl ?_
  simp only [run0, run1, run2, run3, run4, run5, run6, run7, run8, run9, run10, run11, run12, run13, run14, run15, run16, run17, run18, run19, run20, run21, run22, reduceCtorEq, Nat.reduceEqDiff, Nat.reduceAdd, Nat.reduceSub, Nat.reduceLeDiff, indexAddrA, indexRefA, appendA, strA, Nat.reduceMul, Nat.zero_mul, Nat.reduceMod, Int.reduceEq, Int.reduceLT, Int.reduceLE, Nat.reduceLT, Nat.lt_irrefl, Nat.reduceBEq, tys0, tys1, tys2, tys3, tys4, tys5, tys6, tys7, tys8, tys9, tys10, tys11, tys12, tys13, tys14, tys15, tys16, tys17, Try.ntmps12, Try.results12, p0, p1, p7, p9]
  refine RunL.lendV rfl rfl ok_f19 rfl (heldSurreal_ok R 1 (by omega) (by omega)) (vwl3 og3) rfl rfl ?_
  simp only [run0, run1, run2, run3, run4, run5, run6, run7, run8, run9, run10, run11, run12, run13, run14, run15, run16, run17, run18, run19, run20, run21, run22, reduceCtorEq, Nat.reduceEqDiff, Nat.reduceAdd, Nat.reduceSub, Nat.reduceLeDiff, indexAddrA, indexRefA, appendA, strA, Nat.reduceMul, Nat.zero_mul, Nat.reduceMod, Int.reduceEq, Int.reduceLT, Int.reduceLE, Nat.reduceLT, Nat.lt_irrefl, Nat.reduceBEq, tys0, tys1, tys2, tys3, tys4, tys5, tys6, tys7, tys8, tys9, tys10, tys11, tys12, tys13, tys14, tys15, tys16, tys17, Try.ntmps12, Try.results12, e4, p0, p1, p7, p9]
  refine RunL.lendV rfl rfl ok_f19 rfl (heldSurreal_ok Q (1 + 2 * R.sz) (by omega) (by omega)) (vwl3 oh3) rfl rfl ?_
  simp only [run0, run1, run2, run3, run4, run5, run6, run7, run8, run9, run10, run11, run12, run13, run14, run15, run16, run17, run18, run19, run20, run21, run22, reduceCtorEq, Nat.reduceEqDiff, Nat.reduceAdd, Nat.reduceSub, Nat.reduceLeDiff, indexAddrA, indexRefA, appendA, strA, Nat.reduceMul, Nat.zero_mul, Nat.reduceMod, Int.reduceEq, Int.reduceLT, Int.reduceLE, Nat.reduceLT, Nat.lt_irrefl, Nat.reduceBEq, tys0, tys1, tys2, tys3, tys4, tys5, tys6, tys7, tys8, tys9, tys10, tys11, tys12, tys13, tys14, tys15, tys16, tys17, Try.ntmps12, Try.results12, e5, p0, p1, p7, p9, bne_self_eq_false]
  refine RunL.callp rfl rfl ok_f22 (toSurreal_ok a ha) (by first | rfl | simp only [pureL, pureB, Bool.and_self, Bool.and_true, Bool.true_and, Su.elems_pure, Su.pay_pure, Su.av_pure]) rfl ?_
  simp only [run0, run1, run2, run3, run4, run5, run6, run7, run8, run9, run10, run11, run12, run13, run14, run15, run16, run17, run18, run19, run20, run21, run22, reduceCtorEq, Nat.reduceEqDiff, Nat.reduceAdd, Nat.reduceSub, Nat.reduceLeDiff, indexAddrA, indexRefA, appendA, strA, Nat.reduceMul, Nat.zero_mul, Nat.reduceMod, Int.reduceEq, Int.reduceLT, Int.reduceLE, Nat.reduceLT, Nat.lt_irrefl, Nat.reduceBEq, tys0, tys1, tys2, tys3, tys4, tys5, tys6, tys7, tys8, tys9, tys10, tys11, tys12, tys13, tys14, tys15, tys16, tys17, Try.ntmps12, Try.results12]
  refine RunL.callgp rfl rfl ok_f40 rfl hi (by simp only [pureL, pureB, av_pure, Bool.and_self]) rfl ?_
  generalize hM2' : M1.map (shO L3.length) = N2 at *
  simp only [run0, run1, run2, run3, run4, run5, run6, run7, run8, run9, run10, run11, run12, run13, run14, run15, run16, run17, run18, run19, run20, run21, run22, reduceCtorEq, Nat.reduceEqDiff, Nat.reduceAdd, Nat.reduceSub, Nat.reduceLeDiff, indexAddrA, indexRefA, appendA, strA, Nat.reduceMul, Nat.zero_mul, Nat.reduceMod, Int.reduceEq, Int.reduceLT, Int.reduceLE, Nat.reduceLT, Nat.lt_irrefl, Nat.reduceBEq, tys0, tys1, tys2, tys3, tys4, tys5, tys6, tys7, tys8, tys9, tys10, tys11, tys12, tys13, tys14, tys15, tys16, tys17, Try.ntmps12, Try.results12, shA, shL, hM2', r1, r2, r3, r7, r9, setXn, getXn, List.length_append]
  refine RunL.lendV rfl rfl ok_f17 rfl (eqSurreal_ok R R hRs) (vwl2 (ogh _)) rfl rfl ?_
  simp only [run0, run1, run2, run3, run4, run5, run6, run7, run8, run9, run10, run11, run12, run13, run14, run15, run16, run17, run18, run19, run20, run21, run22, reduceCtorEq, Nat.reduceEqDiff, Nat.reduceAdd, Nat.reduceSub, Nat.reduceLeDiff, indexAddrA, indexRefA, appendA, strA, Nat.reduceMul, Nat.zero_mul, Nat.reduceMod, Int.reduceEq, Int.reduceLT, Int.reduceLE, Nat.reduceLT, Nat.lt_irrefl, Nat.reduceBEq, tys0, tys1, tys2, tys3, tys4, tys5, tys6, tys7, tys8, tys9, tys10, tys11, tys12, tys13, tys14, tys15, tys16, tys17, Try.ntmps12, Try.results12, eqT_refl, r1, r2, r3, r7, r9, setXn, getXn]
  refine RunL.callp rfl rfl ok_f34 (eqFraction_ok fn fd fn fd) (by first | rfl | simp only [pureL, pureB, Bool.and_self, Bool.and_true, Bool.true_and, Su.elems_pure, Su.pay_pure, Su.av_pure]) rfl ?_
  simp only [run0, run1, run2, run3, run4, run5, run6, run7, run8, run9, run10, run11, run12, run13, run14, run15, run16, run17, run18, run19, run20, run21, run22, reduceCtorEq, Nat.reduceEqDiff, Nat.reduceAdd, Nat.reduceSub, Nat.reduceLeDiff, indexAddrA, indexRefA, appendA, strA, Nat.reduceMul, Nat.zero_mul, Nat.reduceMod, Int.reduceEq, Int.reduceLT, Int.reduceLE, Nat.reduceLT, Nat.lt_irrefl, Nat.reduceBEq, tys0, tys1, tys2, tys3, tys4, tys5, tys6, tys7, tys8, tys9, tys10, tys11, tys12, tys13, tys14, tys15, tys16, tys17, Try.ntmps12, Try.results12, beq_self_eq_true, r1, r2, r3, r7, r9, setXn, getXn]
  refine RunL.lendV rfl rfl ok_f17 rfl (eqSurreal_ok Q Q hQs) (vwl2 (ohh _)) rfl rfl ?_
  simp only [run0, run1, run2, run3, run4, run5, run6, run7, run8, run9, run10, run11, run12, run13, run14, run15, run16, run17, run18, run19, run20, run21, run22, reduceCtorEq, Nat.reduceEqDiff, Nat.reduceAdd, Nat.reduceSub, Nat.reduceLeDiff, indexAddrA, indexRefA, appendA, strA, Nat.reduceMul, Nat.zero_mul, Nat.reduceMod, Int.reduceEq, Int.reduceLT, Int.reduceLE, Nat.reduceLT, Nat.lt_irrefl, Nat.reduceBEq, tys0, tys1, tys2, tys3, tys4, tys5, tys6, tys7, tys8, tys9, tys10, tys11, tys12, tys13, tys14, tys15, tys16, tys17, Try.ntmps12, Try.results12, eqT_refl, bne_self_eq_false, r1, r2, r3, r7, r9]
  refine RunL.lendV rfl rfl ok_f19 rfl (heldSurreal_ok R 1 (by omega) (by omega)) (vwl3 (og3.more _)) rfl rfl ?_
  simp only [run0, run1, run2, run3, run4, run5, run6, run7, run8, run9, run10, run11, run12, run13, run14, run15, run16, run17, run18, run19, run20, run21, run22, reduceCtorEq, Nat.reduceEqDiff, Nat.reduceAdd, Nat.reduceSub, Nat.reduceLeDiff, indexAddrA, indexRefA, appendA, strA, Nat.reduceMul, Nat.zero_mul, Nat.reduceMod, Int.reduceEq, Int.reduceLT, Int.reduceLE, Nat.reduceLT, Nat.lt_irrefl, Nat.reduceBEq, tys0, tys1, tys2, tys3, tys4, tys5, tys6, tys7, tys8, tys9, tys10, tys11, tys12, tys13, tys14, tys15, tys16, tys17, Try.ntmps12, Try.results12, e4, bne_self_eq_false, r7, r9]
  refine RunL.lendV rfl rfl ok_f19 rfl (heldSurreal_ok Q (1 + 2 * R.sz) (by omega) (by omega)) (vwl3 (oh3.more _)) rfl rfl ?_
  simp only [run0, run1, run2, run3, run4, run5, run6, run7, run8, run9, run10, run11, run12, run13, run14, run15, run16, run17, run18, run19, run20, run21, run22, reduceCtorEq, Nat.reduceEqDiff, Nat.reduceAdd, Nat.reduceSub, Nat.reduceLeDiff, indexAddrA, indexRefA, appendA, strA, Nat.reduceMul, Nat.zero_mul, Nat.reduceMod, Int.reduceEq, Int.reduceLT, Int.reduceLE, Nat.reduceLT, Nat.lt_irrefl, Nat.reduceBEq, tys0, tys1, tys2, tys3, tys4, tys5, tys6, tys7, tys8, tys9, tys10, tys11, tys12, tys13, tys14, tys15, tys16, tys17, Try.ntmps12, Try.results12, e5, bne_self_eq_false]
  exact Fin.eq rfl rfl

end Go.Proofs.Ytfblibmibaiagaa
