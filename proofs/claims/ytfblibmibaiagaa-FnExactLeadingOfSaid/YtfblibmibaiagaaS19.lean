/-
  Surreals: the leading term: the law.
-/
import Derived.Test.YtfblibmibaiagaaS16
namespace Go.Proofs.Ytfblibmibaiagaa
open Go K Su
set_option linter.unusedSimpArgs false
set_option linter.unusedVariables false
set_option maxHeartbeats 800000

theorem okS_resF {x : AV} {m n : Int} {b : Bool} (h : okT x = true) : okS (.tup [.agg [x], .agg [.int .i64 m, .int .i64 n], .bool b]) = true := by
  have := okT_okS h
  simp [okS, okSL, this]
def leadT : Su → Su
  | .nil => .nil
  | .cons e _ _ => e
def leadC : Su → Int × Int
  | .nil => (0, 0)
  | .cons _ c _ => c
def leadOk (a : Su) : Bool := goodT a && !isZ a
def leadR (a : Su) : Su := if leadOk a then leadT a else .nil
def leadF (a : Su) : Int × Int := if leadOk a then leadC a else (0, 0)
theorem leadT_sz (a : Su) : (leadT a).sz ≤ a.sz := by cases a <;> simp [leadT, sz]; omega
theorem leadR_sz (a : Su) (h : a.sz ≤ 1048576) : (leadR a).sz ≤ 1048576 := by
  have := leadT_sz a
  unfold leadR
  split
  · omega
  · simp [sz]
theorem implLead_ok (a : Su) (hs : a.sz ≤ 1048576) : ∃ x M, Ct Try.prog 33 [av a] [] (.tup [.agg [x], fr (leadF a).1 (leadF a).2, .bool (leadOk a)]) M ∧ Own M (leadR a) x := by
  cases hg : leadOk a
  · rw [show leadF a = (0, 0) by simp [leadF, hg], show leadR a = .nil by simp [leadR, hg]]
    refine ⟨nilV, ?_⟩
    apply ex1
    · apply Ct.by_ hmix [8000000, 5999999, 6000001, 7000002, 2000000 + 67] Try.func33 rfl
      simp only [run0, run1, run2, run3, run4, run5, run6, run7, run8, run9, run10, run11, run12, run13, run14, run15, run16, run17, run18, run19, run20, run21, run22, reduceCtorEq, Nat.reduceEqDiff, Nat.reduceAdd, Nat.reduceSub, Nat.reduceLeDiff, indexAddrA, indexRefA, appendA, strA, Nat.reduceMul, Nat.zero_mul, Nat.reduceMod, Int.reduceEq, Int.reduceLT, Int.reduceLE, Nat.reduceLT, Nat.lt_irrefl, Nat.reduceBEq, tys0, tys1, tys2, tys3, tys4, tys5, tys6, tys7, tys8, tys9, tys10, tys11, tys12, tys13, tys14, tys15, tys16, tys17, Try.ntmps33, Try.results33, av]
      refine RunL.callp rfl rfl ok_f23 (IsSurreal_ok a hs) (by first | rfl | simp only [pureL, pureB, Bool.and_self, Bool.and_true, Bool.true_and, Su.elems_pure, Su.pay_pure, Su.av_pure]) rfl ?_
      cases h1 : goodT a
      · simp only [run0, run1, run2, run3, run4, run5, run6, run7, run8, run9, run10, run11, run12, run13, run14, run15, run16, run17, run18, run19, run20, run21, run22, reduceCtorEq, Nat.reduceEqDiff, Nat.reduceAdd, Nat.reduceSub, Nat.reduceLeDiff, indexAddrA, indexRefA, appendA, strA, Nat.reduceMul, Nat.zero_mul, Nat.reduceMod, Int.reduceEq, Int.reduceLT, Int.reduceLE, Nat.reduceLT, Nat.lt_irrefl, Nat.reduceBEq, tys0, tys1, tys2, tys3, tys4, tys5, tys6, tys7, tys8, tys9, tys10, tys11, tys12, tys13, tys14, tys15, tys16, tys17, Try.ntmps33, Try.results33, h1]
        exact Fin.keep [] rfl rfl
      · have h2 : isZ a = true := by simpa [leadOk, h1] using hg
        simp only [run0, run1, run2, run3, run4, run5, run6, run7, run8, run9, run10, run11, run12, run13, run14, run15, run16, run17, run18, run19, run20, run21, run22, reduceCtorEq, Nat.reduceEqDiff, Nat.reduceAdd, Nat.reduceSub, Nat.reduceLeDiff, indexAddrA, indexRefA, appendA, strA, Nat.reduceMul, Nat.zero_mul, Nat.reduceMod, Int.reduceEq, Int.reduceLT, Int.reduceLE, Nat.reduceLT, Nat.lt_irrefl, Nat.reduceBEq, tys0, tys1, tys2, tys3, tys4, tys5, tys6, tys7, tys8, tys9, tys10, tys11, tys12, tys13, tys14, tys15, tys16, tys17, Try.ntmps33, Try.results33, h1, h2, elems_length, isZ_len]
        exact Fin.keep [] rfl rfl
    · exact ⟨[], .inl ⟨rfl, rfl, rfl⟩, List.nodup_nil, keepS_okSO _ _⟩
  · rw [show leadF a = leadC a by simp [leadF, hg], show leadR a = leadT a by simp [leadR, hg]]
    simp only [leadOk, Bool.and_eq_true, Bool.not_eq_true'] at hg
    obtain ⟨h1, h2⟩ := hg
    cases a with
    | nil => cases h2
    | cons e c r =>
      have hse : e.sz ≤ 1048576 := by simp only [sz] at hs; omega
      obtain ⟨x, M, hc, S, ho, hn, hM⟩ := cloneS_ok e hse
      refine ⟨shA 3 x, ?_⟩
      apply ex1
      · apply Ct.by_ hmix [8000000, 5999999, 6000001, 7000002, 2000000 + 67] Try.func33 rfl
        simp only [run0, run1, run2, run3, run4, run5, run6, run7, run8, run9, run10, run11, run12, run13, run14, run15, run16, run17, run18, run19, run20, run21, run22, reduceCtorEq, Nat.reduceEqDiff, Nat.reduceAdd, Nat.reduceSub, Nat.reduceLeDiff, indexAddrA, indexRefA, appendA, strA, Nat.reduceMul, Nat.zero_mul, Nat.reduceMod, Int.reduceEq, Int.reduceLT, Int.reduceLE, Nat.reduceLT, Nat.lt_irrefl, Nat.reduceBEq, tys0, tys1, tys2, tys3, tys4, tys5, tys6, tys7, tys8, tys9, tys10, tys11, tys12, tys13, tys14, tys15, tys16, tys17, Try.ntmps33, Try.results33, av]
        refine RunL.callp rfl rfl ok_f23 (IsSurreal_ok (cons e c r) hs) (by first | rfl | simp only [pureL, pureB, Bool.and_self, Bool.and_true, Bool.true_and, Su.elems_pure, Su.pay_pure, Su.av_pure]) rfl ?_
        simp only [run0, run1, run2, run3, run4, run5, run6, run7, run8, run9, run10, run11, run12, run13, run14, run15, run16, run17, run18, run19, run20, run21, run22, reduceCtorEq, Nat.reduceEqDiff, Nat.reduceAdd, Nat.reduceSub, Nat.reduceLeDiff, indexAddrA, indexRefA, appendA, strA, Nat.reduceMul, Nat.zero_mul, Nat.reduceMod, Int.reduceEq, Int.reduceLT, Int.reduceLE, Nat.reduceLT, Nat.lt_irrefl, Nat.reduceBEq, tys0, tys1, tys2, tys3, tys4, tys5, tys6, tys7, tys8, tys9, tys10, tys11, tys12, tys13, tys14, tys15, tys16, tys17, Try.ntmps33, Try.results33, h1, h2, elems_length, isZ_len]
        refine ⟨[0,1,2,3,4,6,7,8,9,10,5,11,12,13], by kernel_rfl, ?_⟩
        simp only [run0, run1, run2, run3, run4, run5, run6, run7, run8, run9, run10, run11, run12, run13, run14, run15, run16, run17, run18, run19, run20, run21, run22, reduceCtorEq, Nat.reduceEqDiff, Nat.reduceAdd, Nat.reduceSub, Nat.reduceLeDiff, indexAddrA, indexRefA, appendA, strA, Nat.reduceMul, Nat.zero_mul, Nat.reduceMod, Int.reduceEq, Int.reduceLT, Int.reduceLE, Nat.reduceLT, Nat.lt_irrefl, Nat.reduceBEq, tys0, tys1, tys2, tys3, tys4, tys5, tys6, tys7, tys8, tys9, tys10, tys11, tys12, tys13, tys14, tys15, tys16, tys17, Try.ntmps33, Try.results33, elems, pay, Int.reduceToNat, Int.le_refl]
        refine RunL.callgp rfl rfl ok_f67 rfl hc (by simp only [pureL, pureB, av_pure, Bool.and_self]) rfl ?_
        simp only [run0, run1, run2, run3, run4, run5, run6, run7, run8, run9, run10, run11, run12, run13, run14, run15, run16, run17, run18, run19, run20, run21, run22, reduceCtorEq, Nat.reduceEqDiff, Nat.reduceAdd, Nat.reduceSub, Nat.reduceLeDiff, indexAddrA, indexRefA, appendA, strA, Nat.reduceMul, Nat.zero_mul, Nat.reduceMod, Int.reduceEq, Int.reduceLT, Int.reduceLE, Nat.reduceLT, Nat.lt_irrefl, Nat.reduceBEq, tys0, tys1, tys2, tys3, tys4, tys5, tys6, tys7, tys8, tys9, tys10, tys11, tys12, tys13, tys14, tys15, tys16, tys17, Try.ntmps33, Try.results33, shA, shL, elems, pay, Int.reduceToNat, Int.le_refl]
        exact Fin.keep (S.map (· + 3)) (by simp [okT, okTL, okT_sh ho]) rfl
      · exact Own.end (k := 3) (fun id => by simp) ho hn
theorem specLead_ok (a : Su) (hs : a.sz ≤ 1048576) : Ct Try.prog 32 [av a] [] (.tup [av (leadR a), fr (leadF a).1 (leadF a).2, .bool (leadOk a)]) [] := by
  cases hg : leadOk a
  · rw [show leadF a = (0, 0) by simp [leadF, hg], show leadR a = .nil by simp [leadR, hg]]
    refine Ct.by_ hmix [ 8000000, 5999999, 6000001, 7000002] Try.func32 rfl ?_
    simp only [run0, run1, run2, run3, run4, run5, run6, run7, run8, run9, run10, run11, run12, run13, run14, run15, run16, run17, run18, run19, run20, run21, run22, reduceCtorEq, Nat.reduceEqDiff, Nat.reduceAdd, Nat.reduceSub, Nat.reduceLeDiff, indexAddrA, indexRefA, appendA, strA, Nat.reduceMul, Nat.zero_mul, Nat.reduceMod, Int.reduceEq, Int.reduceLT, Int.reduceLE, Nat.reduceLT, Nat.lt_irrefl, Nat.reduceBEq, tys0, tys1, tys2, tys3, tys4, tys5, tys6, tys7, tys8, tys9, tys10, tys11, tys12, tys13, tys14, tys15, tys16, tys17, Try.ntmps32, Try.results32, av]
    refine RunL.callp rfl rfl ok_f55 (odGood_ok a hs) (by first | rfl | simp only [pureL, pureB, Bool.and_self, Bool.and_true, Bool.true_and, Su.elems_pure, Su.pay_pure, Su.av_pure]) rfl ?_
    cases h1 : goodT a
    · simp only [run0, run1, run2, run3, run4, run5, run6, run7, run8, run9, run10, run11, run12, run13, run14, run15, run16, run17, run18, run19, run20, run21, run22, reduceCtorEq, Nat.reduceEqDiff, Nat.reduceAdd, Nat.reduceSub, Nat.reduceLeDiff, indexAddrA, indexRefA, appendA, strA, Nat.reduceMul, Nat.zero_mul, Nat.reduceMod, Int.reduceEq, Int.reduceLT, Int.reduceLE, Nat.reduceLT, Nat.lt_irrefl, Nat.reduceBEq, tys0, tys1, tys2, tys3, tys4, tys5, tys6, tys7, tys8, tys9, tys10, tys11, tys12, tys13, tys14, tys15, tys16, tys17, Try.ntmps32, Try.results32, h1]
      exact Fin.value (Vw.tup (.cons (Vw.agg (.cons (Vw.nil false) .nil)) (.cons (Vw.pur (.of rfl)) (.cons (Vw.pur (Pur.bool _)) .nil))))
    · have h2 : isZ a = true := by simpa [leadOk, h1] using hg
      simp only [run0, run1, run2, run3, run4, run5, run6, run7, run8, run9, run10, run11, run12, run13, run14, run15, run16, run17, run18, run19, run20, run21, run22, reduceCtorEq, Nat.reduceEqDiff, Nat.reduceAdd, Nat.reduceSub, Nat.reduceLeDiff, indexAddrA, indexRefA, appendA, strA, Nat.reduceMul, Nat.zero_mul, Nat.reduceMod, Int.reduceEq, Int.reduceLT, Int.reduceLE, Nat.reduceLT, Nat.lt_irrefl, Nat.reduceBEq, tys0, tys1, tys2, tys3, tys4, tys5, tys6, tys7, tys8, tys9, tys10, tys11, tys12, tys13, tys14, tys15, tys16, tys17, Try.ntmps32, Try.results32, h1]
      refine RunL.callp rfl rfl ok_f64 (odZero_ok a) (by first | rfl | simp only [pureL, pureB, Bool.and_self, Bool.and_true, Bool.true_and, Su.elems_pure, Su.pay_pure, Su.av_pure]) rfl ?_
      simp only [run0, run1, run2, run3, run4, run5, run6, run7, run8, run9, run10, run11, run12, run13, run14, run15, run16, run17, run18, run19, run20, run21, run22, reduceCtorEq, Nat.reduceEqDiff, Nat.reduceAdd, Nat.reduceSub, Nat.reduceLeDiff, indexAddrA, indexRefA, appendA, strA, Nat.reduceMul, Nat.zero_mul, Nat.reduceMod, Int.reduceEq, Int.reduceLT, Int.reduceLE, Nat.reduceLT, Nat.lt_irrefl, Nat.reduceBEq, tys0, tys1, tys2, tys3, tys4, tys5, tys6, tys7, tys8, tys9, tys10, tys11, tys12, tys13, tys14, tys15, tys16, tys17, Try.ntmps32, Try.results32, h2]
      exact Fin.value (Vw.tup (.cons (Vw.agg (.cons (Vw.nil false) .nil)) (.cons (Vw.pur (.of rfl)) (.cons (Vw.pur (Pur.bool _)) .nil))))
  · rw [show leadF a = leadC a by simp [leadF, hg], show leadR a = leadT a by simp [leadR, hg]]
    simp only [leadOk, Bool.and_eq_true, Bool.not_eq_true'] at hg
    obtain ⟨h1, h2⟩ := hg
    cases a with
    | nil => cases h2
    | cons e c r =>
      have hse : e.sz ≤ 1048576 := by simp only [sz] at hs; omega
      refine Ct.by_ hmix [ 8000000, 5999999, 6000001, 7000002] Try.func32 rfl ?_
      simp only [run0, run1, run2, run3, run4, run5, run6, run7, run8, run9, run10, run11, run12, run13, run14, run15, run16, run17, run18, run19, run20, run21, run22, reduceCtorEq, Nat.reduceEqDiff, Nat.reduceAdd, Nat.reduceSub, Nat.reduceLeDiff, indexAddrA, indexRefA, appendA, strA, Nat.reduceMul, Nat.zero_mul, Nat.reduceMod, Int.reduceEq, Int.reduceLT, Int.reduceLE, Nat.reduceLT, Nat.lt_irrefl, Nat.reduceBEq, tys0, tys1, tys2, tys3, tys4, tys5, tys6, tys7, tys8, tys9, tys10, tys11, tys12, tys13, tys14, tys15, tys16, tys17, Try.ntmps32, Try.results32, av]
      refine RunL.callp rfl rfl ok_f55 (odGood_ok (cons e c r) hs) (by first | rfl | simp only [pureL, pureB, Bool.and_self, Bool.and_true, Bool.true_and, Su.elems_pure, Su.pay_pure, Su.av_pure]) rfl ?_
      simp only [run0, run1, run2, run3, run4, run5, run6, run7, run8, run9, run10, run11, run12, run13, run14, run15, run16, run17, run18, run19, run20, run21, run22, reduceCtorEq, Nat.reduceEqDiff, Nat.reduceAdd, Nat.reduceSub, Nat.reduceLeDiff, indexAddrA, indexRefA, appendA, strA, Nat.reduceMul, Nat.zero_mul, Nat.reduceMod, Int.reduceEq, Int.reduceLT, Int.reduceLE, Nat.reduceLT, Nat.lt_irrefl, Nat.reduceBEq, tys0, tys1, tys2, tys3, tys4, tys5, tys6, tys7, tys8, tys9, tys10, tys11, tys12, tys13, tys14, tys15, tys16, tys17, Try.ntmps32, Try.results32, h1]
      refine RunL.callp rfl rfl ok_f64 (odZero_ok (cons e c r)) (by first | rfl | simp only [pureL, pureB, Bool.and_self, Bool.and_true, Bool.true_and, Su.elems_pure, Su.pay_pure, Su.av_pure]) rfl ?_
      simp only [run0, run1, run2, run3, run4, run5, run6, run7, run8, run9, run10, run11, run12, run13, run14, run15, run16, run17, run18, run19, run20, run21, run22, reduceCtorEq, Nat.reduceEqDiff, Nat.reduceAdd, Nat.reduceSub, Nat.reduceLeDiff, indexAddrA, indexRefA, appendA, strA, Nat.reduceMul, Nat.zero_mul, Nat.reduceMod, Int.reduceEq, Int.reduceLT, Int.reduceLE, Nat.reduceLT, Nat.lt_irrefl, Nat.reduceBEq, tys0, tys1, tys2, tys3, tys4, tys5, tys6, tys7, tys8, tys9, tys10, tys11, tys12, tys13, tys14, tys15, tys16, tys17, Try.ntmps32, Try.results32, h2]
      refine ⟨[0,1,2,3,4,5,6,7,8,9,10,11,12,13], by kernel_rfl, ?_⟩
      simp only [run0, run1, run2, run3, run4, run5, run6, run7, run8, run9, run10, run11, run12, run13, run14, run15, run16, run17, run18, run19, run20, run21, run22, reduceCtorEq, Nat.reduceEqDiff, Nat.reduceAdd, Nat.reduceSub, Nat.reduceLeDiff, indexAddrA, indexRefA, appendA, strA, Nat.reduceMul, Nat.zero_mul, Nat.reduceMod, Int.reduceEq, Int.reduceLT, Int.reduceLE, Nat.reduceLT, Nat.lt_irrefl, Nat.reduceBEq, tys0, tys1, tys2, tys3, tys4, tys5, tys6, tys7, tys8, tys9, tys10, tys11, tys12, tys13, tys14, tys15, tys16, tys17, Try.ntmps32, Try.results32, elems, pay, Int.reduceToNat, Int.le_refl]
      refine RunL.callp rfl rfl ok_f66 (own_v e hse) (by first | rfl | simp only [pureL, pureB, Bool.and_self, Bool.and_true, Bool.true_and, Su.elems_pure, Su.pay_pure, Su.av_pure]) rfl ?_
      simp only [run0, run1, run2, run3, run4, run5, run6, run7, run8, run9, run10, run11, run12, run13, run14, run15, run16, run17, run18, run19, run20, run21, run22, reduceCtorEq, Nat.reduceEqDiff, Nat.reduceAdd, Nat.reduceSub, Nat.reduceLeDiff, indexAddrA, indexRefA, appendA, strA, Nat.reduceMul, Nat.zero_mul, Nat.reduceMod, Int.reduceEq, Int.reduceLT, Int.reduceLE, Nat.reduceLT, Nat.lt_irrefl, Nat.reduceBEq, tys0, tys1, tys2, tys3, tys4, tys5, tys6, tys7, tys8, tys9, tys10, tys11, tys12, tys13, tys14, tys15, tys16, tys17, Try.ntmps32, Try.results32, av, elems, pay, Int.reduceToNat, Int.le_refl]
      exact Fin.eq rfl (by simp only [pureB, pureL, elems_pure, Bool.and_self])

theorem FnExactLeadingOf_ok {a0 : AV} (h0 : IsOf Try.prog 36 a0) : Ct Try.prog 9 [a0] [] (.bool true) [] := by
  obtain ⟨a, rfl, hf⟩ := laws_isOd h0
  rcases szR_spec a.sz 1048576 with ⟨hs, hr⟩ | ⟨hs, hr⟩
  case inr =>
    refine Ct.by_ hmix [] Try.func9 rfl ?_
    simp only [run0, run1, run2, run3, run4, run5, run6, run7, run8, run9, run10, run11, run12, run13, run14, run15, run16, run17, run18, run19, run20, run21, run22, reduceCtorEq, Nat.reduceEqDiff, Nat.reduceAdd, Nat.reduceSub, Nat.reduceLeDiff, indexAddrA, indexRefA, appendA, strA, Nat.reduceMul, Nat.zero_mul, Nat.reduceMod, Int.reduceEq, Int.reduceLT, Int.reduceLE, Nat.reduceLT, Nat.lt_irrefl, Nat.reduceBEq, tys0, tys1, tys2, tys3, tys4, tys5, tys6, tys7, tys8, tys9, tys10, tys11, tys12, tys13, tys14, tys15, tys16, tys17, Try.ntmps9, Try.results9, av]
    refine RunL.callp rfl rfl ok_f20 (szSurreal_ok a 1048576 hf (by omega) (by omega)) (by first | rfl | simp only [pureL, pureB, Bool.and_self, Bool.and_true, Bool.true_and, Su.elems_pure, Su.pay_pure, Su.av_pure]) rfl ?_
    have e1 : szR a.sz 1048576 < 0 := by omega
    simp only [run0, run1, run2, run3, run4, run5, run6, run7, run8, run9, run10, run11, run12, run13, run14, run15, run16, run17, run18, run19, run20, run21, run22, reduceCtorEq, Nat.reduceEqDiff, Nat.reduceAdd, Nat.reduceSub, Nat.reduceLeDiff, indexAddrA, indexRefA, appendA, strA, Nat.reduceMul, Nat.zero_mul, Nat.reduceMod, Int.reduceEq, Int.reduceLT, Int.reduceLE, Nat.reduceLT, Nat.lt_irrefl, Nat.reduceBEq, tys0, tys1, tys2, tys3, tys4, tys5, tys6, tys7, tys8, tys9, tys10, tys11, tys12, tys13, tys14, tys15, tys16, tys17, Try.ntmps9, Try.results9, e1]
    exact Fin.eq rfl rfl
  have ha : a.sz ≤ 1048576 := by omega
  have e1 : ¬ (szR a.sz 1048576 < 0) := by omega
  generalize hR : leadR a = R
  generalize hO : leadOk a = ok
  generalize hF : leadF a = f
  have hsp := specLead_ok a ha
  obtain ⟨g, M1, hi, S1, ho1, hn1, hM1⟩ := implLead_ok a ha
  rw [hR, hO, hF] at hsp
  rw [hO, hF] at hi
  obtain ⟨fn, fd⟩ := f
  simp only [fr] at hsp hi
  rw [hR] at ho1
  have hRs : R.sz ≤ 1048576 := by rw [← hR]; exact leadR_sz a ha
  obtain ⟨x, M0, hx, S0, ho0, hn0, hM0⟩ := toSurrealOwn_ok a ha
  -- the memory behind both
  generalize hM0' : M0.map (shO 3) = N0 at *
  generalize hM1' : M1.map (shO (N0.length + 1 + 1 + 1 + 1)) = N1 at *
  have ox : ∀ X, OwnR (.box 36 [.sl false (elems a)] :: .box 26 [.sl false (elems R)] :: .box 29 [.int .i64 fn, .int .i64 fd] :: (N0 ++ X)) 76 3 a (shA 3 x) (S0.map (· + 3)) := fun X =>
    (OwnR.sh (L' := .box 36 [.sl false (elems a)] :: .box 26 [.sl false (elems R)] :: .box 29 [.int .i64 fn, .int .i64 fd] :: N0) (fun id => by simp [← hM0']) ho0).more X
  generalize hx' : shA 3 x = X0 at *
  have n0 := nodup_add 3 hn0
  generalize hS0 : S0.map (· + 3) = T0 at *
  have og : ∀ X, OwnR (.box 36 [.sl false (elems a)] :: .box 26 [.sl false (elems R)] :: .box 29 [.int .i64 fn, .int .i64 fd] :: (N0 ++ .box 26 [X0] :: (N1 ++ X))) 76 3 R (shA (N0.length + 1 + 1 + 1 + 1) g) (S1.map (· + (N0.length + 1 + 1 + 1 + 1))) := fun X => by
    have := (OwnR.sh (L' := .box 36 [.sl false (elems a)] :: .box 26 [.sl false (elems R)] :: .box 29 [.int .i64 fn, .int .i64 fd] :: (N0 ++ .box 26 [X0] :: N1)) (fun id => by
      rw [show id + (N0.length + 1 + 1 + 1 + 1) = (N0.length + (id + 1)) + 3 by omega]
      simp only [List.getElem?_cons_succ]
      rw [getXn, List.getElem?_cons_succ, ← hM1', List.getElem?_map]) ho1).more X
    simp only [List.cons_append, List.append_assoc] at this
    exact this
  have n1 := nodup_add (N0.length + 1 + 1 + 1 + 1) hn1
  have oS : okS (.tup [.agg [g], .agg [.int .i64 fn, .int .i64 fd], .bool ok]) = true := okS_resF ho1.form.1
  generalize hG : shA (N0.length + 1 + 1 + 1 + 1) g = G0 at *
  generalize hS1 : S1.map (· + (N0.length + 1 + 1 + 1 + 1)) = T1 at *
  have xlt : ∀ id ∈ T0, id < N0.length + 3 := fun id hid => by have := (ox []).lt id hid; simpa using this
  have glo : ∀ id ∈ T1, N0.length + 4 ≤ id := fun id hid => by
    rw [← hS1] at hid
    obtain ⟨q, _, rfl⟩ := List.mem_map.1 hid
    omega
  have nbox : ∀ {L : List AObj} {b : Su} {y : AV} {S : List Nat} {id : Nat} {T : TypeId} {cs : List AV}, OwnR L 76 3 b y S → L[id]? = some (.box T cs) → id ∉ S := fun h hb hid => by
    obtain ⟨_, _, h2, _⟩ := h.objs _ hid
    rw [hb] at h2; cases h2
  -- the marks of the argument
  obtain ⟨L1, hc1, hm1, hf1, hl1⟩ := markSurreal_ok a X0 T0 (.box 36 [.sl false (elems a)] :: .box 26 [.sl false (elems R)] :: .box 29 [.int .i64 fn, .int .i64 fd] :: (N0 ++ .box 26 [X0] :: (N1 ++ [.box 26 [G0], .box 29 [.int .i64 fn, .int .i64 fd]]))) 1 (ox _) n0 (by omega) (by omega)
  have keep1 : ∀ (id : Nat) o, (.box 36 [.sl false (elems a)] :: .box 26 [.sl false (elems R)] :: .box 29 [.int .i64 fn, .int .i64 fd] :: (N0 ++ .box 26 [X0] :: (N1 ++ [.box 26 [G0], .box 29 [.int .i64 fn, .int .i64 fd]])) : List AObj)[id]? = some o → id ∉ T0 → L1[id]? = some o := fun id o h hn => by
    rw [hf1 id hn (List.getElem?_eq_some_iff.1 h).1]; exact h
  have keepB1 : ∀ (id : Nat) T cs, (.box 36 [.sl false (elems a)] :: .box 26 [.sl false (elems R)] :: .box 29 [.int .i64 fn, .int .i64 fd] :: (N0 ++ .box 26 [X0] :: (N1 ++ [.box 26 [G0], .box 29 [.int .i64 fn, .int .i64 fd]])) : List AObj)[id]? = some (.box T cs) → L1[id]? = some (.box T cs) := fun id T cs h => keep1 id _ h (nbox (ox _) h)
  have q0 : L1[0]? = some (.box 36 [.sl false (elems a)]) := keepB1 0 _ _ rfl
  have q1 : L1[1]? = some (.box 26 [.sl false (elems R)]) := keepB1 1 _ _ rfl
  have q2 : L1[2]? = some (.box 29 [.int .i64 fn, .int .i64 fd]) := keepB1 2 _ _ rfl
  have q8 : L1[N0.length + (N1.length + 1 + 1) + 1 + 1 + 1]? = some (.box 29 [.int .i64 fn, .int .i64 fd]) := keepB1 _ _ _ (by
    simp only [List.getElem?_cons_succ, getXn, getX1, List.getElem?_cons_zero])
  have q7 : L1[N0.length + (N1.length + 1) + 1 + 1 + 1]? = some (.box 26 [G0]) := keepB1 _ _ _ (by simp only [List.getElem?_cons_succ, getXn, getX0, List.getElem?_cons_zero])
  have og1 : OwnR L1 76 3 R G0 T1 := (og _).mono fun id hid g1 es1 h => keep1 id _ h (fun h2 => by have := xlt id h2; have := glo id hid; omega)
  -- the marks of the result
  obtain ⟨L2, hc2, og2, hf2, hl2⟩ := markSurreal_ok R G0 T1 L1 1 og1 n1 (by omega) (by omega)
  have keepB2 : ∀ {id : Nat} {T : TypeId} {cs : List AV}, L1[id]? = some (.box T cs) → L2[id]? = some (.box T cs) := fun h => by
    rw [hf2 _ (nbox og1 h) (List.getElem?_eq_some_iff.1 h).1]; exact h
  have p0 := keepB2 q0
  have p1 := keepB2 q1
  have p7 := keepB2 q7
  have p2 := keepB2 q2
  have p8 := keepB2 q8
  have r1 : ∀ X, (L2 ++ X)[1]? = some (.box 26 [.sl false (elems R)]) := fun X => by rw [List.getElem?_append_left (List.getElem?_eq_some_iff.1 p1).1]; exact p1
  have r2 : ∀ X, (L2 ++ X)[2]? = some (.box 29 [.int .i64 fn, .int .i64 fd]) := fun X => by rw [List.getElem?_append_left (List.getElem?_eq_some_iff.1 p2).1]; exact p2
  have r7 : ∀ X, (L2 ++ X)[N0.length + (N1.length + 1) + 1 + 1 + 1]? = some (.box 26 [G0]) := fun X => by rw [List.getElem?_append_left (List.getElem?_eq_some_iff.1 p7).1]; exact p7
  have oh : ∀ X, OwnR (L2 ++ (M1.map (shO L2.length) ++ X)) 76 3 R (shA L2.length g) (S1.map (· + L2.length)) := fun X => by
    rw [← List.append_assoc]; exact (OwnR.sh (more_get L2 M1) ho1).more X
  have e3 : ¬ (1 + 2 * (a.sz : Int) < 0) := by omega
  have e4 : ¬ (1 + 2 * (R.sz : Int) < 0) := by omega
  refine Ct.by_ hmix [17, 2000000 + 33] Try.func9 rfl ?_
  simp only [run0, run1, run2, run3, run4, run5, run6, run7, run8, run9, run10, run11, run12, run13, run14, run15, run16, run17, run18, run19, run20, run21, run22, reduceCtorEq, Nat.reduceEqDiff, Nat.reduceAdd, Nat.reduceSub, Nat.reduceLeDiff, indexAddrA, indexRefA, appendA, strA, Nat.reduceMul, Nat.zero_mul, Nat.reduceMod, Int.reduceEq, Int.reduceLT, Int.reduceLE, Nat.reduceLT, Nat.lt_irrefl, Nat.reduceBEq, tys0, tys1, tys2, tys3, tys4, tys5, tys6, tys7, tys8, tys9, tys10, tys11, tys12, tys13, tys14, tys15, tys16, tys17, Try.ntmps9, Try.results9, av]
  refine RunL.callp rfl rfl ok_f20 (szSurreal_ok a 1048576 hf (by omega) (by omega)) (by first | rfl | simp only [pureL, pureB, Bool.and_self, Bool.and_true, Bool.true_and, Su.elems_pure, Su.pay_pure, Su.av_pure]) rfl ?_
  simp only [run0, run1, run2, run3, run4, run5, run6, run7, run8, run9, run10, run11, run12, run13, run14, run15, run16, run17, run18, run19, run20, run21, run22, reduceCtorEq, Nat.reduceEqDiff, Nat.reduceAdd, Nat.reduceSub, Nat.reduceLeDiff, indexAddrA, indexRefA, appendA, strA, Nat.reduceMul, Nat.zero_mul, Nat.reduceMod, Int.reduceEq, Int.reduceLT, Int.reduceLE, Nat.reduceLT, Nat.lt_irrefl, Nat.reduceBEq, tys0, tys1, tys2, tys3, tys4, tys5, tys6, tys7, tys8, tys9, tys10, tys11, tys12, tys13, tys14, tys15, tys16, tys17, Try.ntmps9, Try.results9, e1]
  refine RunL.callp rfl rfl ok_f22 (toSurreal_ok a ha) (by first | rfl | simp only [pureL, pureB, Bool.and_self, Bool.and_true, Bool.true_and, Su.elems_pure, Su.pay_pure, Su.av_pure]) rfl ?_
  simp only [run0, run1, run2, run3, run4, run5, run6, run7, run8, run9, run10, run11, run12, run13, run14, run15, run16, run17, run18, run19, run20, run21, run22, reduceCtorEq, Nat.reduceEqDiff, Nat.reduceAdd, Nat.reduceSub, Nat.reduceLeDiff, indexAddrA, indexRefA, appendA, strA, Nat.reduceMul, Nat.zero_mul, Nat.reduceMod, Int.reduceEq, Int.reduceLT, Int.reduceLE, Nat.reduceLT, Nat.lt_irrefl, Nat.reduceBEq, tys0, tys1, tys2, tys3, tys4, tys5, tys6, tys7, tys8, tys9, tys10, tys11, tys12, tys13, tys14, tys15, tys16, tys17, Try.ntmps9, Try.results9, av]
  refine RunL.callp rfl rfl ok_f32 (hsp) (by first | rfl | simp only [pureL, pureB, Bool.and_self, Bool.and_true, Bool.true_and, Su.elems_pure, Su.pay_pure, Su.av_pure]) rfl ?_
  simp only [run0, run1, run2, run3, run4, run5, run6, run7, run8, run9, run10, run11, run12, run13, run14, run15, run16, run17, run18, run19, run20, run21, run22, reduceCtorEq, Nat.reduceEqDiff, Nat.reduceAdd, Nat.reduceSub, Nat.reduceLeDiff, indexAddrA, indexRefA, appendA, strA, Nat.reduceMul, Nat.zero_mul, Nat.reduceMod, Int.reduceEq, Int.reduceLT, Int.reduceLE, Nat.reduceLT, Nat.lt_irrefl, Nat.reduceBEq, tys0, tys1, tys2, tys3, tys4, tys5, tys6, tys7, tys8, tys9, tys10, tys11, tys12, tys13, tys14, tys15, tys16, tys17, Try.ntmps9, Try.results9, av]
  refine RunL.callgp rfl rfl ok_f22 rfl hx (by simp only [pureL, pureB, av_pure, Bool.and_self]) rfl ?_
  simp only [run0, run1, run2, run3, run4, run5, run6, run7, run8, run9, run10, run11, run12, run13, run14, run15, run16, run17, run18, run19, run20, run21, run22, reduceCtorEq, Nat.reduceEqDiff, Nat.reduceAdd, Nat.reduceSub, Nat.reduceLeDiff, indexAddrA, indexRefA, appendA, strA, Nat.reduceMul, Nat.zero_mul, Nat.reduceMod, Int.reduceEq, Int.reduceLT, Int.reduceLE, Nat.reduceLT, Nat.lt_irrefl, Nat.reduceBEq, tys0, tys1, tys2, tys3, tys4, tys5, tys6, tys7, tys8, tys9, tys10, tys11, tys12, tys13, tys14, tys15, tys16, tys17, Try.ntmps9, Try.results9, shA, shL, hx', hM0']
  refine RunL.lendGV rfl rfl ok_f33 rfl hi (.cons (vw1 (ox _)) .nil) oS hM1 rfl ?_
  simp only [run0, run1, run2, run3, run4, run5, run6, run7, run8, run9, run10, run11, run12, run13, run14, run15, run16, run17, run18, run19, run20, run21, run22, reduceCtorEq, Nat.reduceEqDiff, Nat.reduceAdd, Nat.reduceSub, Nat.reduceLeDiff, indexAddrA, indexRefA, appendA, strA, Nat.reduceMul, Nat.zero_mul, Nat.reduceMod, Int.reduceEq, Int.reduceLT, Int.reduceLE, Nat.reduceLT, Nat.lt_irrefl, Nat.reduceBEq, tys0, tys1, tys2, tys3, tys4, tys5, tys6, tys7, tys8, tys9, tys10, tys11, tys12, tys13, tys14, tys15, tys16, tys17, Try.ntmps9, Try.results9, shA, shL, hM1', hG, setXn]
  refine RunL.lendV rfl rfl ok_f17 rfl (eqSurreal_ok R R hRs) (vwl2 (og _)) rfl rfl ?_
  simp only [run0, run1, run2, run3, run4, run5, run6, run7, run8, run9, run10, run11, run12, run13, run14, run15, run16, run17, run18, run19, run20, run21, run22, reduceCtorEq, Nat.reduceEqDiff, Nat.reduceAdd, Nat.reduceSub, Nat.reduceLeDiff, indexAddrA, indexRefA, appendA, strA, Nat.reduceMul, Nat.zero_mul, Nat.reduceMod, Int.reduceEq, Int.reduceLT, Int.reduceLE, Nat.reduceLT, Nat.lt_irrefl, Nat.reduceBEq, tys0, tys1, tys2, tys3, tys4, tys5, tys6, tys7, tys8, tys9, tys10, tys11, tys12, tys13, tys14, tys15, tys16, tys17, Try.ntmps9, Try.results9, eqT_refl]
  refine RunL.callp rfl rfl ok_f34 (eqFraction_ok fn fd fn fd) (by first | rfl | simp only [pureL, pureB, Bool.and_self, Bool.and_true, Bool.true_and, Su.elems_pure, Su.pay_pure, Su.av_pure]) rfl ?_
  simp only [run0, run1, run2, run3, run4, run5, run6, run7, run8, run9, run10, run11, run12, run13, run14, run15, run16, run17, run18, run19, run20, run21, run22, reduceCtorEq, Nat.reduceEqDiff, Nat.reduceAdd, Nat.reduceSub, Nat.reduceLeDiff, indexAddrA, indexRefA, appendA, strA, Nat.reduceMul, Nat.zero_mul, Nat.reduceMod, Int.reduceEq, Int.reduceLT, Int.reduceLE, Nat.reduceLT, Nat.lt_irrefl, Nat.reduceBEq, tys0, tys1, tys2, tys3, tys4, tys5, tys6, tys7, tys8, tys9, tys10, tys11, tys12, tys13, tys14, tys15, tys16, tys17, Try.ntmps9, Try.results9, beq_self_eq_true, bne_self_eq_false]
  refine ⟨by kernel_rfl, ?_⟩
  refine RunL.callp rfl rfl ok_f22 (toSurreal_ok a ha) (by first | rfl | simp only [pureL, pureB, Bool.and_self, Bool.and_true, Bool.true_and, Su.elems_pure, Su.pay_pure, Su.av_pure]) rfl ?_
  simp only [run0, run1, run2, run3, run4, run5, run6, run7, run8, run9, run10, run11, run12, run13, run14, run15, run16, run17, run18, run19, run20, run21, run22, reduceCtorEq, Nat.reduceEqDiff, Nat.reduceAdd, Nat.reduceSub, Nat.reduceLeDiff, indexAddrA, indexRefA, appendA, strA, Nat.reduceMul, Nat.zero_mul, Nat.reduceMod, Int.reduceEq, Int.reduceLT, Int.reduceLE, Nat.reduceLT, Nat.lt_irrefl, Nat.reduceBEq, tys0, tys1, tys2, tys3, tys4, tys5, tys6, tys7, tys8, tys9, tys10, tys11, tys12, tys13, tys14, tys15, tys16, tys17, Try.ntmps9, Try.results9, av]
  refine RunL.lendV rfl rfl ok_f17 rfl (eqSurreal_ok a a ha) (vwl2 (ox _)) rfl rfl ?_
  simp only [run0, run1, run2, run3, run4, run5, run6, run7, run8, run9, run10, run11, run12, run13, run14, run15, run16, run17, run18, run19, run20, run21, run22, reduceCtorEq, Nat.reduceEqDiff, Nat.reduceAdd, Nat.reduceSub, Nat.reduceLeDiff, indexAddrA, indexRefA, appendA, strA, Nat.reduceMul, Nat.zero_mul, Nat.reduceMod, Int.reduceEq, Int.reduceLT, Int.reduceLE, Nat.reduceLT, Nat.lt_irrefl, Nat.reduceBEq, tys0, tys1, tys2, tys3, tys4, tys5, tys6, tys7, tys8, tys9, tys10, tys11, tys12, tys13, tys14, tys15, tys16, tys17, Try.ntmps9, Try.results9, eqT_refl]
  refine RunL.callM rfl rfl ok_f18 rfl rfl hc1 rfl ?_
  simp only [run0, run1, run2, run3, run4, run5, run6, run7, run8, run9, run10, run11, run12, run13, run14, run15, run16, run17, run18, run19, run20, run21, run22, reduceCtorEq, Nat.reduceEqDiff, Nat.reduceAdd, Nat.reduceSub, Nat.reduceLeDiff, indexAddrA, indexRefA, appendA, strA, Nat.reduceMul, Nat.zero_mul, Nat.reduceMod, Int.reduceEq, Int.reduceLT, Int.reduceLE, Nat.reduceLT, Nat.lt_irrefl, Nat.reduceBEq, tys0, tys1, tys2, tys3, tys4, tys5, tys6, tys7, tys8, tys9, tys10, tys11, tys12, tys13, tys14, tys15, tys16, tys17, Try.ntmps9, Try.results9, e3, q0, q1, q7]
  refine RunL.lendV rfl rfl ok_f17 rfl (eqSurreal_ok R R hRs) (vwl2 og1) rfl rfl ?_
  simp only [run0, run1, run2, run3, run4, run5, run6, run7, run8, run9, run10, run11, run12, run13, run14, run15, run16, run17, run18, run19, run20, run21, run22, reduceCtorEq, Nat.reduceEqDiff, Nat.reduceAdd, Nat.reduceSub, Nat.reduceLeDiff, indexAddrA, indexRefA, appendA, strA, Nat.reduceMul, Nat.zero_mul, Nat.reduceMod, Int.reduceEq, Int.reduceLT, Int.reduceLE, Nat.reduceLT, Nat.lt_irrefl, Nat.reduceBEq, tys0, tys1, tys2, tys3, tys4, tys5, tys6, tys7, tys8, tys9, tys10, tys11, tys12, tys13, tys14, tys15, tys16, tys17, Try.ntmps9, Try.results9, eqT_refl, q0, q1, q2, q7, q8]
  refine RunL.callp rfl rfl ok_f34 (eqFraction_ok fn fd fn fd) (by first | rfl | simp only [pureL, pureB, Bool.and_self, Bool.and_true, Bool.true_and, Su.elems_pure, Su.pay_pure, Su.av_pure]) rfl ?_
  simp only [run0, run1, run2, run3, run4, run5, run6, run7, run8, run9, run10, run11, run12, run13, run14, run15, run16, run17, run18, run19, run20, run21, run22, reduceCtorEq, Nat.reduceEqDiff, Nat.reduceAdd, Nat.reduceSub, Nat.reduceLeDiff, indexAddrA, indexRefA, appendA, strA, Nat.reduceMul, Nat.zero_mul, Nat.reduceMod, Int.reduceEq, Int.reduceLT, Int.reduceLE, Nat.reduceLT, Nat.lt_irrefl, Nat.reduceBEq, tys0, tys1, tys2, tys3, tys4, tys5, tys6, tys7, tys8, tys9, tys10, tys11, tys12, tys13, tys14, tys15, tys16, tys17, Try.ntmps9, Try.results9, beq_self_eq_true, bne_self_eq_false, q0, q1, q7]
  refine RunL.callM rfl rfl ok_f18 rfl rfl hc2 rfl ?_
  simp only [run0, run1, run2, run3, run4, run5, run6, run7, run8, run9, run10, run11, run12, run13, run14, run15, run16, run17, run18, run19, run20, run21, run22, reduceCtorEq, Nat.reduceEqDiff, Nat.reduceAdd, Nat.reduceSub, Nat.reduceLeDiff, indexAddrA, indexRefA, appendA, strA, Nat.reduceMul, Nat.zero_mul, Nat.reduceMod, Int.reduceEq, Int.reduceLT, Int.reduceLE, Nat.reduceLT, Nat.lt_irrefl, Nat.reduceBEq, tys0, tys1, tys2, tys3, tys4, tys5, tys6, tys7, tys8, tys9, tys10, tys11, tys12, tys13, tys14, tys15, tys16, tys17, Try.ntmps9, Try.results9, p0, p1, p7]
  refine RunL.lendV rfl rfl ok_f19 rfl (heldSurreal_ok R 1 (by omega) (by omega)) (vwl3 og2) rfl rfl ?_
  simp only [run0, run1, run2, run3, run4, run5, run6, run7, run8, run9, run10, run11, run12, run13, run14, run15, run16, run17, run18, run19, run20, run21, run22, reduceCtorEq, Nat.reduceEqDiff, Nat.reduceAdd, Nat.reduceSub, Nat.reduceLeDiff, indexAddrA, indexRefA, appendA, strA, Nat.reduceMul, Nat.zero_mul, Nat.reduceMod, Int.reduceEq, Int.reduceLT, Int.reduceLE, Nat.reduceLT, Nat.lt_irrefl, Nat.reduceBEq, tys0, tys1, tys2, tys3, tys4, tys5, tys6, tys7, tys8, tys9, tys10, tys11, tys12, tys13, tys14, tys15, tys16, tys17, Try.ntmps9, Try.results9, e4, p0, p1, p7, bne_self_eq_false]
  refine RunL.callp rfl rfl ok_f22 (toSurreal_ok a ha) (by first | rfl | simp only [pureL, pureB, Bool.and_self, Bool.and_true, Bool.true_and, Su.elems_pure, Su.pay_pure, Su.av_pure]) rfl ?_
  simp only [run0, run1, run2, run3, run4, run5, run6, run7, run8, run9, run10, run11, run12, run13, run14, run15, run16, run17, run18, run19, run20, run21, run22, reduceCtorEq, Nat.reduceEqDiff, Nat.reduceAdd, Nat.reduceSub, Nat.reduceLeDiff, indexAddrA, indexRefA, appendA, strA, Nat.reduceMul, Nat.zero_mul, Nat.reduceMod, Int.reduceEq, Int.reduceLT, Int.reduceLE, Nat.reduceLT, Nat.lt_irrefl, Nat.reduceBEq, tys0, tys1, tys2, tys3, tys4, tys5, tys6, tys7, tys8, tys9, tys10, tys11, tys12, tys13, tys14, tys15, tys16, tys17, Try.ntmps9, Try.results9]
  refine RunL.callgp rfl rfl ok_f33 rfl hi (by simp only [pureL, pureB, av_pure, Bool.and_self]) rfl ?_
  generalize hM2' : M1.map (shO L2.length) = N2 at *
  simp only [run0, run1, run2, run3, run4, run5, run6, run7, run8, run9, run10, run11, run12, run13, run14, run15, run16, run17, run18, run19, run20, run21, run22, reduceCtorEq, Nat.reduceEqDiff, Nat.reduceAdd, Nat.reduceSub, Nat.reduceLeDiff, indexAddrA, indexRefA, appendA, strA, Nat.reduceMul, Nat.zero_mul, Nat.reduceMod, Int.reduceEq, Int.reduceLT, Int.reduceLE, Nat.reduceLT, Nat.lt_irrefl, Nat.reduceBEq, tys0, tys1, tys2, tys3, tys4, tys5, tys6, tys7, tys8, tys9, tys10, tys11, tys12, tys13, tys14, tys15, tys16, tys17, Try.ntmps9, Try.results9, shA, shL, hM2', r1, r7, setXn]
  refine RunL.lendV rfl rfl ok_f17 rfl (eqSurreal_ok R R hRs) (vwl2 (oh _)) rfl rfl ?_
  simp only [run0, run1, run2, run3, run4, run5, run6, run7, run8, run9, run10, run11, run12, run13, run14, run15, run16, run17, run18, run19, run20, run21, run22, reduceCtorEq, Nat.reduceEqDiff, Nat.reduceAdd, Nat.reduceSub, Nat.reduceLeDiff, indexAddrA, indexRefA, appendA, strA, Nat.reduceMul, Nat.zero_mul, Nat.reduceMod, Int.reduceEq, Int.reduceLT, Int.reduceLE, Nat.reduceLT, Nat.lt_irrefl, Nat.reduceBEq, tys0, tys1, tys2, tys3, tys4, tys5, tys6, tys7, tys8, tys9, tys10, tys11, tys12, tys13, tys14, tys15, tys16, tys17, Try.ntmps9, Try.results9, eqT_refl, r1, r2, r7, List.getElem?_append_right, setXn, getXn]
  refine RunL.callp rfl rfl ok_f34 (eqFraction_ok fn fd fn fd) (by first | rfl | simp only [pureL, pureB, Bool.and_self, Bool.and_true, Bool.true_and, Su.elems_pure, Su.pay_pure, Su.av_pure]) rfl ?_
  simp only [run0, run1, run2, run3, run4, run5, run6, run7, run8, run9, run10, run11, run12, run13, run14, run15, run16, run17, run18, run19, run20, run21, run22, reduceCtorEq, Nat.reduceEqDiff, Nat.reduceAdd, Nat.reduceSub, Nat.reduceLeDiff, indexAddrA, indexRefA, appendA, strA, Nat.reduceMul, Nat.zero_mul, Nat.reduceMod, Int.reduceEq, Int.reduceLT, Int.reduceLE, Nat.reduceLT, Nat.lt_irrefl, Nat.reduceBEq, tys0, tys1, tys2, tys3, tys4, tys5, tys6, tys7, tys8, tys9, tys10, tys11, tys12, tys13, tys14, tys15, tys16, tys17, Try.ntmps9, Try.results9, beq_self_eq_true, bne_self_eq_false, r1, r7]
  refine RunL.lendV rfl rfl ok_f19 rfl (heldSurreal_ok R 1 (by omega) (by omega)) (vwl3 (og2.more _)) rfl rfl ?_
  simp only [run0, run1, run2, run3, run4, run5, run6, run7, run8, run9, run10, run11, run12, run13, run14, run15, run16, run17, run18, run19, run20, run21, run22, reduceCtorEq, Nat.reduceEqDiff, Nat.reduceAdd, Nat.reduceSub, Nat.reduceLeDiff, indexAddrA, indexRefA, appendA, strA, Nat.reduceMul, Nat.zero_mul, Nat.reduceMod, Int.reduceEq, Int.reduceLT, Int.reduceLE, Nat.reduceLT, Nat.lt_irrefl, Nat.reduceBEq, tys0, tys1, tys2, tys3, tys4, tys5, tys6, tys7, tys8, tys9, tys10, tys11, tys12, tys13, tys14, tys15, tys16, tys17, Try.ntmps9, Try.results9, e4, bne_self_eq_false]
  exact Fin.eq rfl rfl


end Go.Proofs.Ytfblibmibaiagaa
