/-
  Surreals: what a law is given; the first laws.
-/
import Derived.Test.YtfblibmibaiagaaS5
import Derived.Test.YtfblibmibaiagaaS9
namespace Go.Proofs.Ytfblibmibaiagaa
open Go K Su
set_option linter.unusedSimpArgs false
set_option linter.unusedVariables false
set_option maxRecDepth 8000
set_option maxHeartbeats 400000

theorem od_of (n : Nat) (h : ∀ (xs : List AV), HasC Try.prog n 93 xs → ∃ (a : Su) (c : Int × Int), xs = [.sl false (elems a), .int .i64 c.1, .int .i64 c.2] ∧ fit a) :
    ∀ es : List AV, es.length ≤ maxLen → (∀ x ∈ es, HasC Try.prog n 93 x.cells ∧ (∃ cs, x = .agg cs)) → ∃ a : Su, es = elems a ∧ fit a
  | [], _, _ => ⟨.nil, rfl, trivial⟩
  | x :: es, hl, hx => by
    obtain ⟨a, h1, h2⟩ := od_of n h es (by simp at hl; omega) (fun y hy => hx y (List.mem_cons_of_mem _ hy))
    obtain ⟨h3, cs, rfl⟩ := hx _ (List.mem_cons_self ..)
    obtain ⟨e, c, h4, h5⟩ := h _ h3
    simp only [AV.cells] at h4
    subst h4 h1
    exact ⟨.cons e c a, rfl, by simp [elems_length] at hl; omega, h5, h2⟩

theorem laws_odC : ∀ (n : Nat), (∀ (xs : List AV), HasC Try.prog n 93 xs → ∃ (a : Su) (c : Int × Int), xs = [.sl false (elems a), .int .i64 c.1, .int .i64 c.2] ∧ fit a) ∧
    (∀ xs, HasC Try.prog n 36 xs → ∃ a : Su, xs = [.sl false (elems a)] ∧ fit a) ∧
    (∀ xs, HasC Try.prog n 34 xs → ∃ a : Su, xs = [.sl false (elems a)] ∧ fit a)
  | 0 => ⟨fun xs h => by simp [HasC] at h, fun xs h => by simp [HasC] at h, fun xs h => by simp [HasC] at h⟩
  | n + 1 => by
    obtain ⟨ih1, ih2, ih3⟩ := laws_odC n
    refine ⟨fun xs h => ?_, fun xs h => ?_, fun xs h => ?_⟩
    · have hu := Try.underlying93
      simp only [HasC, hu] at h
      obtain ⟨hl, hf⟩ := h
      rw [ty_c93] at hl
      match xs, hl with
      | [x, y, z], _ =>
        have h0 := hf _ (List.mem_cons_self ..)
        have h1 := hf _ (List.mem_cons_of_mem _ (List.mem_cons_self ..))
        simp only [ty_c36, List.drop_zero, List.take_succ_cons, List.take_zero] at h0
        simp only [ty_c23, List.drop_succ_cons, List.drop_zero, List.take_succ_cons, List.take_zero] at h1
        obtain ⟨a, e0, f0⟩ := ih2 _ h0
        obtain ⟨_, g0⟩ := h1.field ty_f23_0
        obtain ⟨_, g1⟩ := h1.field ty_f23_1
        obtain ⟨c, e1, _⟩ := g0.int Try.underlying3
        obtain ⟨d, e2, _⟩ := g1.int Try.underlying3
        rw [ty_c3] at e1 e2
        simp at e0 e1 e2
        subst e0 e1 e2
        exact ⟨a, (c, d), rfl, f0⟩
    · have hu := Try.underlying36
      simp only [HasC, hu] at h
      obtain ⟨hl, hf⟩ := h
      rw [ty_c36] at hl
      match xs, hl with
      | [x], _ =>
        have h0 := hf _ (List.mem_cons_self ..)
        simp only [ty_c34, List.drop_zero, List.take_succ_cons, List.take_zero] at h0
        exact ih3 _ h0
    · have hu := Try.underlying34
      simp only [HasC, hu] at h
      obtain ⟨es, rfl, hl, hx⟩ := h
      obtain ⟨a, rfl, hf⟩ := od_of n ih1 es hl (fun x hx' => ⟨(hx x hx').1, (hx x hx').2.2.1 ty_a93⟩)
      exact ⟨a, rfl, hf⟩

theorem laws_isOd {x : AV} (h : IsOf Try.prog 36 x) : ∃ a : Su, x = av a ∧ fit a := by
  obtain ⟨n, cs, rfl, _, h⟩ := h.agg ty_a36
  obtain ⟨a, rfl, hf⟩ := (laws_odC n).2.1 _ h
  exact ⟨a, rfl, hf⟩

/-- The laws' own copy, as a value. -/
theorem toSurreal_ok (a : Su) (hs : a.sz ≤ 1048576) : Ct Try.prog 22 [av a] [] (av a) [] := by
  obtain ⟨x, M, hc, S, ho, _, _⟩ := toSurreal_of (toS_ok a hs)
  exact hc.toV (Vw.agg (.cons (ho.view false) .nil))
theorem szSurreal_ok (a : Su) (l : Int) (hf : fit a) (h0 : 0 ≤ l) (h1 : l ≤ 1048576) : Ct Try.prog 20 [av a, .int .i64 l] [] (.int .i64 (szR a.sz l)) [] :=
  szSurreal_of szR_neg (szTermS_ok a l hf h0 h1)
theorem eqSurreal_ok (a b : Su) (ha : a.sz ≤ 1048576) : Ct Try.prog 17 [av a, av b] [] (.bool (eqT a b)) [] := eqSurreal_of (eqTermS_ok a b ha)

theorem specIsSurreal_ok (a : Su) (hs : a.sz ≤ 1048576) : Ct Try.prog 21 [av a] [] (.bool (goodT a)) [] := by
  refine Ct.by_ hmix [] Try.func21 rfl ?_
  simp only [run0, run1, run2, run3, run4, run5, run6, run7, run8, run9, run10, run11, run12, run13, run14, run15, run16, run17, run18, run19, run20, run21, run22, reduceCtorEq, Nat.reduceEqDiff, Nat.reduceAdd, Nat.reduceSub, Nat.reduceLeDiff, indexAddrA, indexRefA, appendA, strA, Nat.reduceMul, Nat.zero_mul, Nat.reduceMod, Int.reduceEq, Int.reduceLT, Int.reduceLE, Nat.reduceLT, Nat.lt_irrefl, Nat.reduceBEq, tys0, tys1, tys2, tys3, tys4, tys5, tys6, tys7, tys8, tys9, tys10, tys11, tys12, tys13, tys14, tys15, tys16, tys17, Try.ntmps21, Try.results21, av]
  refine RunL.callp rfl rfl ok_f55 (odGood_ok a hs) (by first | rfl | simp only [pureL, pureB, Bool.and_self, Bool.and_true, Bool.true_and, Su.elems_pure, Su.pay_pure, Su.av_pure]) rfl ?_
  simp only [run0, run1, run2, run3, run4, run5, run6, run7, run8, run9, run10, run11, run12, run13, run14, run15, run16, run17, run18, run19, run20, run21, run22, reduceCtorEq, Nat.reduceEqDiff, Nat.reduceAdd, Nat.reduceSub, Nat.reduceLeDiff, indexAddrA, indexRefA, appendA, strA, Nat.reduceMul, Nat.zero_mul, Nat.reduceMod, Int.reduceEq, Int.reduceLT, Int.reduceLE, Nat.reduceLT, Nat.lt_irrefl, Nat.reduceBEq, tys0, tys1, tys2, tys3, tys4, tys5, tys6, tys7, tys8, tys9, tys10, tys11, tys12, tys13, tys14, tys15, tys16, tys17, Try.ntmps21, Try.results21]
  exact Fin.eq rfl rfl

theorem FnExactIsSurreal_ok {a0 : AV} (h0 : IsOf Try.prog 36 a0) : Ct Try.prog 4 [a0] [] (.bool true) [] := by
  obtain ⟨a, rfl, hf⟩ := laws_isOd h0
  refine Ct.by_ hmix [] Try.func4 rfl ?_
  simp only [run0, run1, run2, run3, run4, run5, run6, run7, run8, run9, run10, run11, run12, run13, run14, run15, run16, run17, run18, run19, run20, run21, run22, reduceCtorEq, Nat.reduceEqDiff, Nat.reduceAdd, Nat.reduceSub, Nat.reduceLeDiff, indexAddrA, indexRefA, appendA, strA, Nat.reduceMul, Nat.zero_mul, Nat.reduceMod, Int.reduceEq, Int.reduceLT, Int.reduceLE, Nat.reduceLT, Nat.lt_irrefl, Nat.reduceBEq, tys0, tys1, tys2, tys3, tys4, tys5, tys6, tys7, tys8, tys9, tys10, tys11, tys12, tys13, tys14, tys15, tys16, tys17, Try.ntmps4, Try.results4, av]
  refine RunL.callp rfl rfl ok_f20 (szSurreal_ok a 1048576 hf (by omega) (by omega)) (by first | rfl | simp only [pureL, pureB, Bool.and_self, Bool.and_true, Bool.true_and, Su.elems_pure, Su.pay_pure, Su.av_pure]) rfl ?_
  rcases szR_spec a.sz 1048576 with ⟨hs, hr⟩ | ⟨hs, hr⟩
  · have hs' : a.sz ≤ 1048576 := by omega
    have e1 : ¬ (szR a.sz 1048576 < 0) := by omega
    simp only [run0, run1, run2, run3, run4, run5, run6, run7, run8, run9, run10, run11, run12, run13, run14, run15, run16, run17, run18, run19, run20, run21, run22, reduceCtorEq, Nat.reduceEqDiff, Nat.reduceAdd, Nat.reduceSub, Nat.reduceLeDiff, indexAddrA, indexRefA, appendA, strA, Nat.reduceMul, Nat.zero_mul, Nat.reduceMod, Int.reduceEq, Int.reduceLT, Int.reduceLE, Nat.reduceLT, Nat.lt_irrefl, Nat.reduceBEq, tys0, tys1, tys2, tys3, tys4, tys5, tys6, tys7, tys8, tys9, tys10, tys11, tys12, tys13, tys14, tys15, tys16, tys17, Try.ntmps4, Try.results4, e1]
    refine RunL.callp rfl rfl ok_f22 (toSurreal_ok a hs') (by first | rfl | simp only [pureL, pureB, Bool.and_self, Bool.and_true, Bool.true_and, Su.elems_pure, Su.pay_pure, Su.av_pure]) rfl ?_
    simp only [run0, run1, run2, run3, run4, run5, run6, run7, run8, run9, run10, run11, run12, run13, run14, run15, run16, run17, run18, run19, run20, run21, run22, reduceCtorEq, Nat.reduceEqDiff, Nat.reduceAdd, Nat.reduceSub, Nat.reduceLeDiff, indexAddrA, indexRefA, appendA, strA, Nat.reduceMul, Nat.zero_mul, Nat.reduceMod, Int.reduceEq, Int.reduceLT, Int.reduceLE, Nat.reduceLT, Nat.lt_irrefl, Nat.reduceBEq, tys0, tys1, tys2, tys3, tys4, tys5, tys6, tys7, tys8, tys9, tys10, tys11, tys12, tys13, tys14, tys15, tys16, tys17, Try.ntmps4, Try.results4, av]
    refine RunL.callp rfl rfl ok_f21 (specIsSurreal_ok a hs') (by first | rfl | simp only [pureL, pureB, Bool.and_self, Bool.and_true, Bool.true_and, Su.elems_pure, Su.pay_pure, Su.av_pure]) rfl ?_
    simp only [run0, run1, run2, run3, run4, run5, run6, run7, run8, run9, run10, run11, run12, run13, run14, run15, run16, run17, run18, run19, run20, run21, run22, reduceCtorEq, Nat.reduceEqDiff, Nat.reduceAdd, Nat.reduceSub, Nat.reduceLeDiff, indexAddrA, indexRefA, appendA, strA, Nat.reduceMul, Nat.zero_mul, Nat.reduceMod, Int.reduceEq, Int.reduceLT, Int.reduceLE, Nat.reduceLT, Nat.lt_irrefl, Nat.reduceBEq, tys0, tys1, tys2, tys3, tys4, tys5, tys6, tys7, tys8, tys9, tys10, tys11, tys12, tys13, tys14, tys15, tys16, tys17, Try.ntmps4, Try.results4, av]
    refine RunL.callp rfl rfl ok_f22 (toSurreal_ok a hs') (by first | rfl | simp only [pureL, pureB, Bool.and_self, Bool.and_true, Bool.true_and, Su.elems_pure, Su.pay_pure, Su.av_pure]) rfl ?_
    simp only [run0, run1, run2, run3, run4, run5, run6, run7, run8, run9, run10, run11, run12, run13, run14, run15, run16, run17, run18, run19, run20, run21, run22, reduceCtorEq, Nat.reduceEqDiff, Nat.reduceAdd, Nat.reduceSub, Nat.reduceLeDiff, indexAddrA, indexRefA, appendA, strA, Nat.reduceMul, Nat.zero_mul, Nat.reduceMod, Int.reduceEq, Int.reduceLT, Int.reduceLE, Nat.reduceLT, Nat.lt_irrefl, Nat.reduceBEq, tys0, tys1, tys2, tys3, tys4, tys5, tys6, tys7, tys8, tys9, tys10, tys11, tys12, tys13, tys14, tys15, tys16, tys17, Try.ntmps4, Try.results4, av]
    refine RunL.callp rfl rfl ok_f23 (IsSurreal_ok a hs') (by first | rfl | simp only [pureL, pureB, Bool.and_self, Bool.and_true, Bool.true_and, Su.elems_pure, Su.pay_pure, Su.av_pure]) rfl ?_
    simp only [run0, run1, run2, run3, run4, run5, run6, run7, run8, run9, run10, run11, run12, run13, run14, run15, run16, run17, run18, run19, run20, run21, run22, reduceCtorEq, Nat.reduceEqDiff, Nat.reduceAdd, Nat.reduceSub, Nat.reduceLeDiff, indexAddrA, indexRefA, appendA, strA, Nat.reduceMul, Nat.zero_mul, Nat.reduceMod, Int.reduceEq, Int.reduceLT, Int.reduceLE, Nat.reduceLT, Nat.lt_irrefl, Nat.reduceBEq, tys0, tys1, tys2, tys3, tys4, tys5, tys6, tys7, tys8, tys9, tys10, tys11, tys12, tys13, tys14, tys15, tys16, tys17, Try.ntmps4, Try.results4, av, bne_self_eq_false]
    refine ⟨by kernel_rfl, ?_⟩
    refine RunL.callp rfl rfl ok_f22 (toSurreal_ok a hs') (by first | rfl | simp only [pureL, pureB, Bool.and_self, Bool.and_true, Bool.true_and, Su.elems_pure, Su.pay_pure, Su.av_pure]) rfl ?_
    simp only [run0, run1, run2, run3, run4, run5, run6, run7, run8, run9, run10, run11, run12, run13, run14, run15, run16, run17, run18, run19, run20, run21, run22, reduceCtorEq, Nat.reduceEqDiff, Nat.reduceAdd, Nat.reduceSub, Nat.reduceLeDiff, indexAddrA, indexRefA, appendA, strA, Nat.reduceMul, Nat.zero_mul, Nat.reduceMod, Int.reduceEq, Int.reduceLT, Int.reduceLE, Nat.reduceLT, Nat.lt_irrefl, Nat.reduceBEq, tys0, tys1, tys2, tys3, tys4, tys5, tys6, tys7, tys8, tys9, tys10, tys11, tys12, tys13, tys14, tys15, tys16, tys17, Try.ntmps4, Try.results4, av]
    refine RunL.callp rfl rfl ok_f17 (eqSurreal_ok a a hs') (by first | rfl | simp only [pureL, pureB, Bool.and_self, Bool.and_true, Bool.true_and, Su.elems_pure, Su.pay_pure, Su.av_pure]) rfl ?_
    simp only [run0, run1, run2, run3, run4, run5, run6, run7, run8, run9, run10, run11, run12, run13, run14, run15, run16, run17, run18, run19, run20, run21, run22, reduceCtorEq, Nat.reduceEqDiff, Nat.reduceAdd, Nat.reduceSub, Nat.reduceLeDiff, indexAddrA, indexRefA, appendA, strA, Nat.reduceMul, Nat.zero_mul, Nat.reduceMod, Int.reduceEq, Int.reduceLT, Int.reduceLE, Nat.reduceLT, Nat.lt_irrefl, Nat.reduceBEq, tys0, tys1, tys2, tys3, tys4, tys5, tys6, tys7, tys8, tys9, tys10, tys11, tys12, tys13, tys14, tys15, tys16, tys17, Try.ntmps4, Try.results4, eqT_refl]
    exact Fin.eq rfl rfl
  · have e1 : szR a.sz 1048576 < 0 := by omega
    simp only [run0, run1, run2, run3, run4, run5, run6, run7, run8, run9, run10, run11, run12, run13, run14, run15, run16, run17, run18, run19, run20, run21, run22, reduceCtorEq, Nat.reduceEqDiff, Nat.reduceAdd, Nat.reduceSub, Nat.reduceLeDiff, indexAddrA, indexRefA, appendA, strA, Nat.reduceMul, Nat.zero_mul, Nat.reduceMod, Int.reduceEq, Int.reduceLT, Int.reduceLE, Nat.reduceLT, Nat.lt_irrefl, Nat.reduceBEq, tys0, tys1, tys2, tys3, tys4, tys5, tys6, tys7, tys8, tys9, tys10, tys11, tys12, tys13, tys14, tys15, tys16, tys17, Try.ntmps4, Try.results4, e1]
    exact Fin.eq rfl rfl

end Go.Proofs.Ytfblibmibaiagaa
