/-
  Surreals: a fraction as a number: the law.
-/
import Derived.Test.YtfblibmibaiagaaS17
namespace Go.Proofs.Ytfblibmibaiagaa
open Go K Su
set_option linter.unusedSimpArgs false
set_option linter.unusedVariables false
set_option maxHeartbeats 800000

theorem Ct.weak {P : Program} {f : FuncId} {xs ys : List AV} {L L' : List AObj} {r : AV} (h : Ct P f ys L r L') (hv : ∀ γ vs, ArgsR γ L xs vs → ArgsR γ L ys vs) : Ct P f xs L r L' :=
  fun γ w vs hI ha => h γ w vs hI (hv γ vs ha)
theorem rv_nil {γ : Nat → Gh} {L : List AObj} {v : Value} (h : RV γ L (.agg [nilV]) v) : RV γ L (av .nil) v := by
  cases h with
  | agg _ vs hn h1 h =>
    refine .agg _ _ hn h1 fun i x hi => ?_
    cases i with
    | zero =>
      simp only [elems, List.getElem?_cons_zero, Option.some.injEq] at hi
      subst hi
      have := h 0 nilV rfl
      generalize vs.getD 0 undef = u at this ⊢
      cases this
      exact .sl false [] none 0 0 0 (fun _ _ => undef) rfl (Nat.le_refl _) (by simp) (by simp) (by simp) (by simp)
    | succ i => simp at hi
theorem args_nil0 {γ : Nat → Gh} {L : List AObj} {vs : Array Value} {y : AV} (h : ArgsR γ L [.agg [nilV], y] vs) : ArgsR γ L [av .nil, y] vs :=
  ⟨h.1, fun i x hi => by
    cases i with
    | zero => simp at hi; subst hi; exact rv_nil (h.2 0 _ rfl)
    | succ i => exact h.2 (i + 1) x (by simpa using hi)⟩
theorem args_nil1 {γ : Nat → Gh} {L : List AObj} {vs : Array Value} {y : AV} (h : ArgsR γ L [y, .agg [nilV]] vs) : ArgsR γ L [y, av .nil] vs :=
  ⟨h.1, fun i x hi => by
    rcases i with _ | _ | i
    · exact h.2 0 x (by simpa using hi)
    · simp at hi; subst hi; exact rv_nil (h.2 1 _ rfl)
    · simp at hi⟩

theorem real_ok (c : Int × Int) : Ct Try.prog 49 [fr c.1 c.2] [] (av (termT .nil c)) [] := by
  have h := Ct.weak (term_ok .nil c) fun γ vs => args_nil0
  simp only [nilV, fr] at h
  refine Ct.by_ hmix [] Try.func49 rfl ?_
  simp only [run0, run1, run2, run3, run4, run5, run6, run7, run8, run9, run10, run11, run12, run13, run14, run15, run16, run17, run18, run19, run20, run21, run22, reduceCtorEq, Nat.reduceEqDiff, Nat.reduceAdd, Nat.reduceSub, Nat.reduceLeDiff, indexAddrA, indexRefA, appendA, strA, Nat.reduceMul, Nat.zero_mul, Nat.reduceMod, Int.reduceEq, Int.reduceLT, Int.reduceLE, Nat.reduceLT, Nat.lt_irrefl, Nat.reduceBEq, tys0, tys1, tys2, tys3, tys4, tys5, tys6, tys7, tys8, tys9, tys10, tys11, tys12, tys13, tys14, tys15, tys16, tys17, Try.ntmps49, Try.results49, fr]
  refine RunL.callp rfl rfl ok_f73 (h) (by first | rfl | simp only [pureL, pureB, Bool.and_self, Bool.and_true, Bool.true_and, Su.elems_pure, Su.pay_pure, Su.av_pure]) rfl ?_
  simp only [run0, run1, run2, run3, run4, run5, run6, run7, run8, run9, run10, run11, run12, run13, run14, run15, run16, run17, run18, run19, run20, run21, run22, reduceCtorEq, Nat.reduceEqDiff, Nat.reduceAdd, Nat.reduceSub, Nat.reduceLeDiff, indexAddrA, indexRefA, appendA, strA, Nat.reduceMul, Nat.zero_mul, Nat.reduceMod, Int.reduceEq, Int.reduceLT, Int.reduceLE, Nat.reduceLT, Nat.lt_irrefl, Nat.reduceBEq, tys0, tys1, tys2, tys3, tys4, tys5, tys6, tys7, tys8, tys9, tys10, tys11, tys12, tys13, tys14, tys15, tys16, tys17, Try.ntmps49, Try.results49, av]
  exact Fin.eq rfl (by simp only [pureB, pureL, elems_pure, Bool.and_self])
theorem suReal_ok (c : Int × Int) : Ct Try.prog 47 [fr c.1 c.2] [] (av (termT .nil c)) [] := by
  have h := Ct.weak (suTerm_ok .nil c) fun γ vs => args_nil0
  simp only [nilV, fr] at h
  refine Ct.by_ hmix [] Try.func47 rfl ?_
  simp only [run0, run1, run2, run3, run4, run5, run6, run7, run8, run9, run10, run11, run12, run13, run14, run15, run16, run17, run18, run19, run20, run21, run22, reduceCtorEq, Nat.reduceEqDiff, Nat.reduceAdd, Nat.reduceSub, Nat.reduceLeDiff, indexAddrA, indexRefA, appendA, strA, Nat.reduceMul, Nat.zero_mul, Nat.reduceMod, Int.reduceEq, Int.reduceLT, Int.reduceLE, Nat.reduceLT, Nat.lt_irrefl, Nat.reduceBEq, tys0, tys1, tys2, tys3, tys4, tys5, tys6, tys7, tys8, tys9, tys10, tys11, tys12, tys13, tys14, tys15, tys16, tys17, Try.ntmps47, Try.results47, fr]
  refine RunL.callp rfl rfl ok_f71 (h) (by first | rfl | simp only [pureL, pureB, Bool.and_self, Bool.and_true, Bool.true_and, Su.elems_pure, Su.pay_pure, Su.av_pure]) rfl ?_
  simp only [run0, run1, run2, run3, run4, run5, run6, run7, run8, run9, run10, run11, run12, run13, run14, run15, run16, run17, run18, run19, run20, run21, run22, reduceCtorEq, Nat.reduceEqDiff, Nat.reduceAdd, Nat.reduceSub, Nat.reduceLeDiff, indexAddrA, indexRefA, appendA, strA, Nat.reduceMul, Nat.zero_mul, Nat.reduceMod, Int.reduceEq, Int.reduceLT, Int.reduceLE, Nat.reduceLT, Nat.lt_irrefl, Nat.reduceBEq, tys0, tys1, tys2, tys3, tys4, tys5, tys6, tys7, tys8, tys9, tys10, tys11, tys12, tys13, tys14, tys15, tys16, tys17, Try.ntmps47, Try.results47, av]
  exact Fin.eq rfl (by simp only [pureB, pureL, elems_pure, Bool.and_self])
theorem frS_good {c : Int × Int} (h : goodB c.1 c.2 = true) : goodT (termT .nil c) = true := by
  unfold termT
  cases hc : (c.1 == 0)
  · simp [goodT, sz, formG, okC, h, hc, below]
  · rfl
def frR (c : Int × Int) : Su := if goodB c.1 c.2 then termT .nil c else .nil
theorem frR_sz (c : Int × Int) : (frR c).sz ≤ 1 := by
  have := termT_sz .nil c
  unfold frR
  split
  · simpa [sz] using this
  · simp [sz]
theorem implFrom_ok (c : Int × Int) : ∃ x M, Ct Try.prog 16 [fr c.1 c.2] [] (.tup [.agg [x], .bool (goodB c.1 c.2)]) M ∧ Own M (frR c) x := by
  have hsz := termT_sz .nil c
  simp only [sz] at hsz
  obtain ⟨x, M, ht, S, ho, hn, hM⟩ := told_ok (termT .nil c) (goodB c.1 c.2) (by omega)
  have e1 : (goodB c.1 c.2 && goodT (termT .nil c)) = goodB c.1 c.2 := by
    cases h : goodB c.1 c.2
    · rfl
    · rw [frS_good h]; rfl
  have e2 : (if (goodB c.1 c.2 && goodT (termT .nil c)) = true then termT .nil c else .nil) = frR c := by rw [e1]; rfl
  rw [e1] at ht
  rw [e2] at ho
  refine ⟨shA 2 x, ?_⟩
  apply ex1
  · apply Ct.by_ hmix [2000000 + 48] Try.func16 rfl
    simp only [run0, run1, run2, run3, run4, run5, run6, run7, run8, run9, run10, run11, run12, run13, run14, run15, run16, run17, run18, run19, run20, run21, run22, reduceCtorEq, Nat.reduceEqDiff, Nat.reduceAdd, Nat.reduceSub, Nat.reduceLeDiff, indexAddrA, indexRefA, appendA, strA, Nat.reduceMul, Nat.zero_mul, Nat.reduceMod, Int.reduceEq, Int.reduceLT, Int.reduceLE, Nat.reduceLT, Nat.lt_irrefl, Nat.reduceBEq, tys0, tys1, tys2, tys3, tys4, tys5, tys6, tys7, tys8, tys9, tys10, tys11, tys12, tys13, tys14, tys15, tys16, tys17, Try.ntmps16, Try.results16, fr]
    refine ⟨by kernel_rfl, ?_⟩
    refine RunL.callp rfl rfl ok_f49 (real_ok c) (by first | rfl | simp only [pureL, pureB, Bool.and_self, Bool.and_true, Bool.true_and, Su.elems_pure, Su.pay_pure, Su.av_pure]) rfl ?_
    simp only [run0, run1, run2, run3, run4, run5, run6, run7, run8, run9, run10, run11, run12, run13, run14, run15, run16, run17, run18, run19, run20, run21, run22, reduceCtorEq, Nat.reduceEqDiff, Nat.reduceAdd, Nat.reduceSub, Nat.reduceLeDiff, indexAddrA, indexRefA, appendA, strA, Nat.reduceMul, Nat.zero_mul, Nat.reduceMod, Int.reduceEq, Int.reduceLT, Int.reduceLE, Nat.reduceLT, Nat.lt_irrefl, Nat.reduceBEq, tys0, tys1, tys2, tys3, tys4, tys5, tys6, tys7, tys8, tys9, tys10, tys11, tys12, tys13, tys14, tys15, tys16, tys17, Try.ntmps16, Try.results16, fr]
    refine RunL.callp rfl rfl ok_f50 (good_ok c.1 c.2) (by first | rfl | simp only [pureL, pureB, Bool.and_self, Bool.and_true, Bool.true_and, Su.elems_pure, Su.pay_pure, Su.av_pure]) rfl ?_
    simp only [run0, run1, run2, run3, run4, run5, run6, run7, run8, run9, run10, run11, run12, run13, run14, run15, run16, run17, run18, run19, run20, run21, run22, reduceCtorEq, Nat.reduceEqDiff, Nat.reduceAdd, Nat.reduceSub, Nat.reduceLeDiff, indexAddrA, indexRefA, appendA, strA, Nat.reduceMul, Nat.zero_mul, Nat.reduceMod, Int.reduceEq, Int.reduceLT, Int.reduceLE, Nat.reduceLT, Nat.lt_irrefl, Nat.reduceBEq, tys0, tys1, tys2, tys3, tys4, tys5, tys6, tys7, tys8, tys9, tys10, tys11, tys12, tys13, tys14, tys15, tys16, tys17, Try.ntmps16, Try.results16]
    refine RunL.callgp rfl rfl ok_f48 rfl ht (by simp only [pureL, pureB, av_pure, Bool.and_self]) rfl ?_
    simp only [run0, run1, run2, run3, run4, run5, run6, run7, run8, run9, run10, run11, run12, run13, run14, run15, run16, run17, run18, run19, run20, run21, run22, reduceCtorEq, Nat.reduceEqDiff, Nat.reduceAdd, Nat.reduceSub, Nat.reduceLeDiff, indexAddrA, indexRefA, appendA, strA, Nat.reduceMul, Nat.zero_mul, Nat.reduceMod, Int.reduceEq, Int.reduceLT, Int.reduceLE, Nat.reduceLT, Nat.lt_irrefl, Nat.reduceBEq, tys0, tys1, tys2, tys3, tys4, tys5, tys6, tys7, tys8, tys9, tys10, tys11, tys12, tys13, tys14, tys15, tys16, tys17, Try.ntmps16, Try.results16, shA, shL]
    exact Fin.keep (S.map (· + 2)) (by simp [okT, okTL, okT_sh ho]) rfl
  · exact Own.end (k := 2) (fun id => by simp) ho hn
theorem specFrom_ok (c : Int × Int) : Ct Try.prog 14 [fr c.1 c.2] [] (.tup [av (frR c), .bool (goodB c.1 c.2)]) [] := by
  refine Ct.by_ hmix [] Try.func14 rfl ?_
  simp only [run0, run1, run2, run3, run4, run5, run6, run7, run8, run9, run10, run11, run12, run13, run14, run15, run16, run17, run18, run19, run20, run21, run22, reduceCtorEq, Nat.reduceEqDiff, Nat.reduceAdd, Nat.reduceSub, Nat.reduceLeDiff, indexAddrA, indexRefA, appendA, strA, Nat.reduceMul, Nat.zero_mul, Nat.reduceMod, Int.reduceEq, Int.reduceLT, Int.reduceLE, Nat.reduceLT, Nat.lt_irrefl, Nat.reduceBEq, tys0, tys1, tys2, tys3, tys4, tys5, tys6, tys7, tys8, tys9, tys10, tys11, tys12, tys13, tys14, tys15, tys16, tys17, Try.ntmps14, Try.results14, fr]
  refine RunL.callp rfl rfl ok_f46 (shGood_ok c.1 c.2) (by first | rfl | simp only [pureL, pureB, Bool.and_self, Bool.and_true, Bool.true_and, Su.elems_pure, Su.pay_pure, Su.av_pure]) rfl ?_
  cases h1 : goodB c.1 c.2
  · rw [show frR c = .nil by simp [frR, h1]]
    simp only [run0, run1, run2, run3, run4, run5, run6, run7, run8, run9, run10, run11, run12, run13, run14, run15, run16, run17, run18, run19, run20, run21, run22, reduceCtorEq, Nat.reduceEqDiff, Nat.reduceAdd, Nat.reduceSub, Nat.reduceLeDiff, indexAddrA, indexRefA, appendA, strA, Nat.reduceMul, Nat.zero_mul, Nat.reduceMod, Int.reduceEq, Int.reduceLT, Int.reduceLE, Nat.reduceLT, Nat.lt_irrefl, Nat.reduceBEq, tys0, tys1, tys2, tys3, tys4, tys5, tys6, tys7, tys8, tys9, tys10, tys11, tys12, tys13, tys14, tys15, tys16, tys17, Try.ntmps14, Try.results14, h1]
    exact Fin.value (Vw.tup (.cons (Vw.agg (.cons (Vw.nil false) .nil)) (.cons (Vw.pur (Pur.bool _)) .nil)))
  · rw [show frR c = termT .nil c by simp [frR, h1]]
    simp only [run0, run1, run2, run3, run4, run5, run6, run7, run8, run9, run10, run11, run12, run13, run14, run15, run16, run17, run18, run19, run20, run21, run22, reduceCtorEq, Nat.reduceEqDiff, Nat.reduceAdd, Nat.reduceSub, Nat.reduceLeDiff, indexAddrA, indexRefA, appendA, strA, Nat.reduceMul, Nat.zero_mul, Nat.reduceMod, Int.reduceEq, Int.reduceLT, Int.reduceLE, Nat.reduceLT, Nat.lt_irrefl, Nat.reduceBEq, tys0, tys1, tys2, tys3, tys4, tys5, tys6, tys7, tys8, tys9, tys10, tys11, tys12, tys13, tys14, tys15, tys16, tys17, Try.ntmps14, Try.results14, h1]
    refine RunL.callp rfl rfl ok_f47 (suReal_ok c) (by first | rfl | simp only [pureL, pureB, Bool.and_self, Bool.and_true, Bool.true_and, Su.elems_pure, Su.pay_pure, Su.av_pure]) rfl ?_
    simp only [run0, run1, run2, run3, run4, run5, run6, run7, run8, run9, run10, run11, run12, run13, run14, run15, run16, run17, run18, run19, run20, run21, run22, reduceCtorEq, Nat.reduceEqDiff, Nat.reduceAdd, Nat.reduceSub, Nat.reduceLeDiff, indexAddrA, indexRefA, appendA, strA, Nat.reduceMul, Nat.zero_mul, Nat.reduceMod, Int.reduceEq, Int.reduceLT, Int.reduceLE, Nat.reduceLT, Nat.lt_irrefl, Nat.reduceBEq, tys0, tys1, tys2, tys3, tys4, tys5, tys6, tys7, tys8, tys9, tys10, tys11, tys12, tys13, tys14, tys15, tys16, tys17, Try.ntmps14, Try.results14, av]
    exact Fin.eq rfl (by simp only [pureB, pureL, elems_pure, Bool.and_self])

theorem FnExactFromFraction_ok {a0 : AV} (h0 : IsOf Try.prog 23 a0) : Ct Try.prog 3 [a0] [] (.bool true) [] := by
  obtain ⟨n, d, rfl, _, _⟩ := laws_isFr h0
  have hto := toFraction_ok n d
  have hsp := specFrom_ok (n, d)
  obtain ⟨g, M1, hi, S1, ho1, hn1, hM1⟩ := implFrom_ok (n, d)
  have hsz := frR_sz (n, d)
  generalize frR (n, d) = R at *
  generalize goodB (n, d).1 (n, d).2 = ok at *
  simp only [fr] at hto hsp hi
  have hRs : R.sz ≤ 1048576 := by omega
  generalize hM1' : M1.map (shO 2) = N1 at *
  have og : ∀ X, OwnR (.box 23 [.int .i64 n, .int .i64 d] :: .box 26 [.sl false (elems R)] :: (N1 ++ X)) 76 3 R (shA 2 g) (S1.map (· + 2)) := fun X =>
    (OwnR.sh (L' := .box 23 [.int .i64 n, .int .i64 d] :: .box 26 [.sl false (elems R)] :: N1) (fun id => by simp [← hM1']) ho1).more X
  have n1 := nodup_add 2 hn1
  have oS : okS (.tup [.agg [g], .bool ok]) = true := okS_res ho1.form.1
  generalize hG : shA 2 g = G0 at *
  generalize hS1 : S1.map (· + 2) = T1 at *
  have nbox : ∀ {L : List AObj} {b : Su} {y : AV} {S : List Nat} {id : Nat} {T : TypeId} {cs : List AV}, OwnR L 76 3 b y S → L[id]? = some (.box T cs) → id ∉ S := fun h hb hid => by
    obtain ⟨_, _, h2, _⟩ := h.objs _ hid
    rw [hb] at h2; cases h2
  obtain ⟨L2, hc2, og2, hf2, hl2⟩ := markSurreal_ok R G0 T1 (.box 23 [.int .i64 n, .int .i64 d] :: .box 26 [.sl false (elems R)] :: (N1 ++ [.box 26 [G0]])) 1 (og _) n1 (by omega) (by omega)
  have keepB2 : ∀ (id : Nat) (T : TypeId) (cs : List AV), (.box 23 [.int .i64 n, .int .i64 d] :: .box 26 [.sl false (elems R)] :: (N1 ++ [.box 26 [G0]]) : List AObj)[id]? = some (.box T cs) → L2[id]? = some (.box T cs) := fun id T cs h => by
    rw [hf2 _ (nbox (og _) h) (List.getElem?_eq_some_iff.1 h).1]; exact h
  have p0 : L2[0]? = some (.box 23 [.int .i64 n, .int .i64 d]) := keepB2 0 _ _ rfl
  have p1 : L2[1]? = some (.box 26 [.sl false (elems R)]) := keepB2 1 _ _ rfl
  have p7 : L2[N1.length + 1 + 1]? = some (.box 26 [G0]) := keepB2 _ _ _ (by simp only [List.getElem?_cons_succ, getX0, List.getElem?_cons_zero])
  have r1 : ∀ X, (L2 ++ X)[1]? = some (.box 26 [.sl false (elems R)]) := fun X => by rw [List.getElem?_append_left (List.getElem?_eq_some_iff.1 p1).1]; exact p1
  have r7 : ∀ X, (L2 ++ X)[N1.length + 1 + 1]? = some (.box 26 [G0]) := fun X => by rw [List.getElem?_append_left (List.getElem?_eq_some_iff.1 p7).1]; exact p7
  have oh : ∀ X, OwnR (L2 ++ (M1.map (shO L2.length) ++ X)) 76 3 R (shA L2.length g) (S1.map (· + L2.length)) := fun X => by
    rw [← List.append_assoc]; exact (OwnR.sh (more_get L2 M1) ho1).more X
  have e4 : ¬ (1 + 2 * (R.sz : Int) < 0) := by omega
  refine Ct.by_ hmix [17, 2000000 + 16] Try.func3 rfl ?_
  simp only [run0, run1, run2, run3, run4, run5, run6, run7, run8, run9, run10, run11, run12, run13, run14, run15, run16, run17, run18, run19, run20, run21, run22, reduceCtorEq, Nat.reduceEqDiff, Nat.reduceAdd, Nat.reduceSub, Nat.reduceLeDiff, indexAddrA, indexRefA, appendA, strA, Nat.reduceMul, Nat.zero_mul, Nat.reduceMod, Int.reduceEq, Int.reduceLT, Int.reduceLE, Nat.reduceLT, Nat.lt_irrefl, Nat.reduceBEq, tys0, tys1, tys2, tys3, tys4, tys5, tys6, tys7, tys8, tys9, tys10, tys11, tys12, tys13, tys14, tys15, tys16, tys17, Try.ntmps3, Try.results3, fr]
  refine RunL.callp rfl rfl ok_f15 (hto) (by first | rfl | simp only [pureL, pureB, Bool.and_self, Bool.and_true, Bool.true_and, Su.elems_pure, Su.pay_pure, Su.av_pure]) rfl ?_
  simp only [run0, run1, run2, run3, run4, run5, run6, run7, run8, run9, run10, run11, run12, run13, run14, run15, run16, run17, run18, run19, run20, run21, run22, reduceCtorEq, Nat.reduceEqDiff, Nat.reduceAdd, Nat.reduceSub, Nat.reduceLeDiff, indexAddrA, indexRefA, appendA, strA, Nat.reduceMul, Nat.zero_mul, Nat.reduceMod, Int.reduceEq, Int.reduceLT, Int.reduceLE, Nat.reduceLT, Nat.lt_irrefl, Nat.reduceBEq, tys0, tys1, tys2, tys3, tys4, tys5, tys6, tys7, tys8, tys9, tys10, tys11, tys12, tys13, tys14, tys15, tys16, tys17, Try.ntmps3, Try.results3]
  refine RunL.callp rfl rfl ok_f14 (hsp) (by first | rfl | simp only [pureL, pureB, Bool.and_self, Bool.and_true, Bool.true_and, Su.elems_pure, Su.pay_pure, Su.av_pure]) rfl ?_
  simp only [run0, run1, run2, run3, run4, run5, run6, run7, run8, run9, run10, run11, run12, run13, run14, run15, run16, run17, run18, run19, run20, run21, run22, reduceCtorEq, Nat.reduceEqDiff, Nat.reduceAdd, Nat.reduceSub, Nat.reduceLeDiff, indexAddrA, indexRefA, appendA, strA, Nat.reduceMul, Nat.zero_mul, Nat.reduceMod, Int.reduceEq, Int.reduceLT, Int.reduceLE, Nat.reduceLT, Nat.lt_irrefl, Nat.reduceBEq, tys0, tys1, tys2, tys3, tys4, tys5, tys6, tys7, tys8, tys9, tys10, tys11, tys12, tys13, tys14, tys15, tys16, tys17, Try.ntmps3, Try.results3, av]
  refine RunL.callp rfl rfl ok_f15 (hto) (by first | rfl | simp only [pureL, pureB, Bool.and_self, Bool.and_true, Bool.true_and, Su.elems_pure, Su.pay_pure, Su.av_pure]) rfl ?_
  simp only [run0, run1, run2, run3, run4, run5, run6, run7, run8, run9, run10, run11, run12, run13, run14, run15, run16, run17, run18, run19, run20, run21, run22, reduceCtorEq, Nat.reduceEqDiff, Nat.reduceAdd, Nat.reduceSub, Nat.reduceLeDiff, indexAddrA, indexRefA, appendA, strA, Nat.reduceMul, Nat.zero_mul, Nat.reduceMod, Int.reduceEq, Int.reduceLT, Int.reduceLE, Nat.reduceLT, Nat.lt_irrefl, Nat.reduceBEq, tys0, tys1, tys2, tys3, tys4, tys5, tys6, tys7, tys8, tys9, tys10, tys11, tys12, tys13, tys14, tys15, tys16, tys17, Try.ntmps3, Try.results3]
  refine RunL.callgp rfl rfl ok_f16 rfl hi rfl rfl ?_
  simp only [run0, run1, run2, run3, run4, run5, run6, run7, run8, run9, run10, run11, run12, run13, run14, run15, run16, run17, run18, run19, run20, run21, run22, reduceCtorEq, Nat.reduceEqDiff, Nat.reduceAdd, Nat.reduceSub, Nat.reduceLeDiff, indexAddrA, indexRefA, appendA, strA, Nat.reduceMul, Nat.zero_mul, Nat.reduceMod, Int.reduceEq, Int.reduceLT, Int.reduceLE, Nat.reduceLT, Nat.lt_irrefl, Nat.reduceBEq, tys0, tys1, tys2, tys3, tys4, tys5, tys6, tys7, tys8, tys9, tys10, tys11, tys12, tys13, tys14, tys15, tys16, tys17, Try.ntmps3, Try.results3, shA, shL, hM1', hG, setXn]
  refine RunL.lendV rfl rfl ok_f17 rfl (eqSurreal_ok R R hRs) (vwl2 (og _)) rfl rfl ?_
  simp only [run0, run1, run2, run3, run4, run5, run6, run7, run8, run9, run10, run11, run12, run13, run14, run15, run16, run17, run18, run19, run20, run21, run22, reduceCtorEq, Nat.reduceEqDiff, Nat.reduceAdd, Nat.reduceSub, Nat.reduceLeDiff, indexAddrA, indexRefA, appendA, strA, Nat.reduceMul, Nat.zero_mul, Nat.reduceMod, Int.reduceEq, Int.reduceLT, Int.reduceLE, Nat.reduceLT, Nat.lt_irrefl, Nat.reduceBEq, tys0, tys1, tys2, tys3, tys4, tys5, tys6, tys7, tys8, tys9, tys10, tys11, tys12, tys13, tys14, tys15, tys16, tys17, Try.ntmps3, Try.results3, eqT_refl, bne_self_eq_false]
  refine RunL.callM rfl rfl ok_f18 rfl rfl hc2 rfl ?_
  simp only [run0, run1, run2, run3, run4, run5, run6, run7, run8, run9, run10, run11, run12, run13, run14, run15, run16, run17, run18, run19, run20, run21, run22, reduceCtorEq, Nat.reduceEqDiff, Nat.reduceAdd, Nat.reduceSub, Nat.reduceLeDiff, indexAddrA, indexRefA, appendA, strA, Nat.reduceMul, Nat.zero_mul, Nat.reduceMod, Int.reduceEq, Int.reduceLT, Int.reduceLE, Nat.reduceLT, Nat.lt_irrefl, Nat.reduceBEq, tys0, tys1, tys2, tys3, tys4, tys5, tys6, tys7, tys8, tys9, tys10, tys11, tys12, tys13, tys14, tys15, tys16, tys17, Try.ntmps3, Try.results3, p0, p1, p7]
  refine RunL.lendV rfl rfl ok_f19 rfl (heldSurreal_ok R 1 (by omega) (by omega)) (vwl3 og2) rfl rfl ?_
  simp only [run0, run1, run2, run3, run4, run5, run6, run7, run8, run9, run10, run11, run12, run13, run14, run15, run16, run17, run18, run19, run20, run21, run22, reduceCtorEq, Nat.reduceEqDiff, Nat.reduceAdd, Nat.reduceSub, Nat.reduceLeDiff, indexAddrA, indexRefA, appendA, strA, Nat.reduceMul, Nat.zero_mul, Nat.reduceMod, Int.reduceEq, Int.reduceLT, Int.reduceLE, Nat.reduceLT, Nat.lt_irrefl, Nat.reduceBEq, tys0, tys1, tys2, tys3, tys4, tys5, tys6, tys7, tys8, tys9, tys10, tys11, tys12, tys13, tys14, tys15, tys16, tys17, Try.ntmps3, Try.results3, e4, p0, p1, p7, bne_self_eq_false]
  refine RunL.callp rfl rfl ok_f15 (hto) (by first | rfl | simp only [pureL, pureB, Bool.and_self, Bool.and_true, Bool.true_and, Su.elems_pure, Su.pay_pure, Su.av_pure]) rfl ?_
  simp only [run0, run1, run2, run3, run4, run5, run6, run7, run8, run9, run10, run11, run12, run13, run14, run15, run16, run17, run18, run19, run20, run21, run22, reduceCtorEq, Nat.reduceEqDiff, Nat.reduceAdd, Nat.reduceSub, Nat.reduceLeDiff, indexAddrA, indexRefA, appendA, strA, Nat.reduceMul, Nat.zero_mul, Nat.reduceMod, Int.reduceEq, Int.reduceLT, Int.reduceLE, Nat.reduceLT, Nat.lt_irrefl, Nat.reduceBEq, tys0, tys1, tys2, tys3, tys4, tys5, tys6, tys7, tys8, tys9, tys10, tys11, tys12, tys13, tys14, tys15, tys16, tys17, Try.ntmps3, Try.results3]
  refine RunL.callgp rfl rfl ok_f16 rfl hi rfl rfl ?_
  generalize hM2' : M1.map (shO L2.length) = N2 at *
  simp only [run0, run1, run2, run3, run4, run5, run6, run7, run8, run9, run10, run11, run12, run13, run14, run15, run16, run17, run18, run19, run20, run21, run22, reduceCtorEq, Nat.reduceEqDiff, Nat.reduceAdd, Nat.reduceSub, Nat.reduceLeDiff, indexAddrA, indexRefA, appendA, strA, Nat.reduceMul, Nat.zero_mul, Nat.reduceMod, Int.reduceEq, Int.reduceLT, Int.reduceLE, Nat.reduceLT, Nat.lt_irrefl, Nat.reduceBEq, tys0, tys1, tys2, tys3, tys4, tys5, tys6, tys7, tys8, tys9, tys10, tys11, tys12, tys13, tys14, tys15, tys16, tys17, Try.ntmps3, Try.results3, shA, shL, hM2', r1, r7, setXn]
  refine RunL.lendV rfl rfl ok_f17 rfl (eqSurreal_ok R R hRs) (vwl2 (oh _)) rfl rfl ?_
  simp only [run0, run1, run2, run3, run4, run5, run6, run7, run8, run9, run10, run11, run12, run13, run14, run15, run16, run17, run18, run19, run20, run21, run22, reduceCtorEq, Nat.reduceEqDiff, Nat.reduceAdd, Nat.reduceSub, Nat.reduceLeDiff, indexAddrA, indexRefA, appendA, strA, Nat.reduceMul, Nat.zero_mul, Nat.reduceMod, Int.reduceEq, Int.reduceLT, Int.reduceLE, Nat.reduceLT, Nat.lt_irrefl, Nat.reduceBEq, tys0, tys1, tys2, tys3, tys4, tys5, tys6, tys7, tys8, tys9, tys10, tys11, tys12, tys13, tys14, tys15, tys16, tys17, Try.ntmps3, Try.results3, eqT_refl, bne_self_eq_false, r1, r7]
  refine RunL.lendV rfl rfl ok_f19 rfl (heldSurreal_ok R 1 (by omega) (by omega)) (vwl3 (og2.more _)) rfl rfl ?_
  simp only [run0, run1, run2, run3, run4, run5, run6, run7, run8, run9, run10, run11, run12, run13, run14, run15, run16, run17, run18, run19, run20, run21, run22, reduceCtorEq, Nat.reduceEqDiff, Nat.reduceAdd, Nat.reduceSub, Nat.reduceLeDiff, indexAddrA, indexRefA, appendA, strA, Nat.reduceMul, Nat.zero_mul, Nat.reduceMod, Int.reduceEq, Int.reduceLT, Int.reduceLE, Nat.reduceLT, Nat.lt_irrefl, Nat.reduceBEq, tys0, tys1, tys2, tys3, tys4, tys5, tys6, tys7, tys8, tys9, tys10, tys11, tys12, tys13, tys14, tys15, tys16, tys17, Try.ntmps3, Try.results3, e4, bne_self_eq_false]
  exact Fin.eq rfl rfl

end Go.Proofs.Ytfblibmibaiagaa
