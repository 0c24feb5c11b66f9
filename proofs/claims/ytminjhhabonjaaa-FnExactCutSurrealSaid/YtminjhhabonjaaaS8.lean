/-
  Surreals: which are right, by the reference.
-/
import Derived.Test.YtminjhhabonjaaaS6
namespace Go.Proofs.Ytminjhhabonjaaa
open Go K Su
set_option linter.unusedSimpArgs false
set_option linter.unusedVariables false
set_option maxHeartbeats 400000

theorem leftL_lo : ∀ (a : Su) (n : Nat) (l B : Int), -3 ≤ l → l ≤ B → 0 ≤ B → -3 ≤ leftL a n l ∧ leftL a n l ≤ B
  | .nil, n, l, B, h1, h2, _ => ⟨h1, h2⟩
  | .cons e c r, n, l, B, h1, h2, h3 => by
    unfold leftL
    split
    · omega
    · have := leftL_lo e (n - 1) (l - 2) B (by omega) (by omega) h3
      exact leftL_lo r n _ B this.1 this.2 h3

theorem odLeft_ok (a : Su) (n : Nat) (l : Int) (hs : a.sz ≤ 1048576) (hn : n ≤ 6) (h0 : -2 ≤ l) (h1 : l ≤ 1000) : Ct Try.prog 42 [av a, .int .i64 n, .int .i64 l] [] (.int .i64 (leftL a n (l - 1))) [] := by
  refine Ct.by_ hmix [] Try.func42 rfl ?_
  have hw : IntKind.i64.wrap (l - 1) = l - 1 := wr_id (by omega) (by omega)
  simp only [run0, run1, run2, run3, run4, run5, run6, run7, run8, run9, run10, run11, run12, run13, run14, run15, run16, run17, run18, run19, run20, run21, run22, reduceCtorEq, Nat.reduceEqDiff, Nat.reduceAdd, Nat.reduceSub, Nat.reduceLeDiff, indexAddrA, indexRefA, appendA, strA, Nat.reduceMul, Nat.zero_mul, Nat.reduceMod, Int.reduceEq, Int.reduceLT, Int.reduceLE, Nat.reduceLT, Nat.lt_irrefl, Nat.reduceBEq, tys0, tys1, tys2, tys3, tys4, tys5, tys6, tys7, tys8, tys9, tys10, tys11, tys12, tys13, tys14, tys15, tys16, tys17, tys18, tys19, tys20, tys21, tys22, tys23, Try.ntmps42, Try.results42, av, elems_length, hw]
  refine AWp.loop_inv (ι := Su × Su × Int × List AObj) (fun p => ⟨[.agg [.sl false (elems a)], .int .i64 n, .int .i64 p.2.2.1, .ptr 0 0, .junk, .junk, .int .i64 0, .junk, .junk, .junk, .junk, .junk, .sl false (elems a), .int .i64 a.len, .int .i64 p.1.len, .junk, .junk, .junk, .junk, .junk, .junk, .junk, .junk, .junk, .junk, .junk, .junk, .junk, .junk, .junk, .junk, .junk, .junk], .box 39 [.sl false (elems a)] :: p.2.2.2⟩)
    (fun p => a = p.1.app p.2.1 ∧ leftL p.2.1 n p.2.2.1 = leftL a n (l - 1) ∧ -3 ≤ p.2.2.1 ∧ p.2.2.1 ≤ 1000) (fun p => p.2.1.len) (.nil, a, l - 1, []) ⟨rfl, rfl, by simp only; omega, by simp only; omega⟩ ⟨by simp only [len, Int.natCast_zero]; repeat constructor, rfl⟩ ?_
  rintro ⟨d, r, l', X⟩ ⟨ha, h2, h3, h4⟩
  refine W.sound hmix (E := []) ?_
  simp only at ha h2 h3 h4
  cases r with
  | nil =>
    obtain ⟨e1, rfl⟩ := od_end ha
    simp only [run0, run1, run2, run3, run4, run5, run6, run7, run8, run9, run10, run11, run12, run13, run14, run15, run16, run17, run18, run19, run20, run21, run22, reduceCtorEq, Nat.reduceEqDiff, Nat.reduceAdd, Nat.reduceSub, Nat.reduceLeDiff, indexAddrA, indexRefA, appendA, strA, Nat.reduceMul, Nat.zero_mul, Nat.reduceMod, Int.reduceEq, Int.reduceLT, Int.reduceLE, Nat.reduceLT, Nat.lt_irrefl, Nat.reduceBEq, tys0, tys1, tys2, tys3, tys4, tys5, tys6, tys7, tys8, tys9, tys10, tys11, tys12, tys13, tys14, tys15, tys16, tys17, tys18, tys19, tys20, tys21, tys22, tys23, Try.ntmps42, Try.results42, elems_length, e1]
    exact Fin.eq (by rw [← h2]; rfl) rfl
  | cons e c r =>
    obtain ⟨e1, e2, e5, hlt, hnx, _⟩ := od_step ha hs
    rw [leftL_cons] at h2
    by_cases hl : l' < 0
    · rw [if_pos (.inl hl)] at h2
      simp only [run0, run1, run2, run3, run4, run5, run6, run7, run8, run9, run10, run11, run12, run13, run14, run15, run16, run17, run18, run19, run20, run21, run22, reduceCtorEq, Nat.reduceEqDiff, Nat.reduceAdd, Nat.reduceSub, Nat.reduceLeDiff, indexAddrA, indexRefA, appendA, strA, Nat.reduceMul, Nat.zero_mul, Nat.reduceMod, Int.reduceEq, Int.reduceLT, Int.reduceLE, Nat.reduceLT, Nat.lt_irrefl, Nat.reduceBEq, tys0, tys1, tys2, tys3, tys4, tys5, tys6, tys7, tys8, tys9, tys10, tys11, tys12, tys13, tys14, tys15, tys16, tys17, tys18, tys19, tys20, tys21, tys22, tys23, Try.ntmps42, Try.results42, elems_length, e1, e2, hl, Int.toNat_natCast, Int.natCast_nonneg]
      exact Fin.eq (by rw [← h2]) rfl
    cases n with
    | zero =>
      rw [if_pos (.inr rfl)] at h2
      simp only [run0, run1, run2, run3, run4, run5, run6, run7, run8, run9, run10, run11, run12, run13, run14, run15, run16, run17, run18, run19, run20, run21, run22, reduceCtorEq, Nat.reduceEqDiff, Nat.reduceAdd, Nat.reduceSub, Nat.reduceLeDiff, indexAddrA, indexRefA, appendA, strA, Nat.reduceMul, Nat.zero_mul, Nat.reduceMod, Int.reduceEq, Int.reduceLT, Int.reduceLE, Nat.reduceLT, Nat.lt_irrefl, Nat.reduceBEq, tys0, tys1, tys2, tys3, tys4, tys5, tys6, tys7, tys8, tys9, tys10, tys11, tys12, tys13, tys14, tys15, tys16, tys17, tys18, tys19, tys20, tys21, tys22, tys23, Try.ntmps42, Try.results42, elems_length, e1, e2, hl, Int.toNat_natCast, Int.natCast_nonneg, Int.natCast_zero]
      exact Fin.eq (by rw [← h2]) rfl
    | succ n =>
      rw [if_neg (by omega)] at h2
      have hn0 : (((n + 1 : Nat) : Int) == 0) = false := by simp; omega
      have w1 : IntKind.i64.wrap (((n + 1 : Nat) : Int) - 1) = (n : Int) := by rw [wr_id (by omega) (by omega)]; omega
      have w2 : IntKind.i64.wrap (l' - 1) = l' - 1 := wr_id (by omega) (by omega)
      have hb := leftL_lo e n (l' - 2) 1000 (by omega) (by omega) (by omega)
      simp only [run0, run1, run2, run3, run4, run5, run6, run7, run8, run9, run10, run11, run12, run13, run14, run15, run16, run17, run18, run19, run20, run21, run22, reduceCtorEq, Nat.reduceEqDiff, Nat.reduceAdd, Nat.reduceSub, Nat.reduceLeDiff, indexAddrA, indexRefA, appendA, strA, Nat.reduceMul, Nat.zero_mul, Nat.reduceMod, Int.reduceEq, Int.reduceLT, Int.reduceLE, Nat.reduceLT, Nat.lt_irrefl, Nat.reduceBEq, tys0, tys1, tys2, tys3, tys4, tys5, tys6, tys7, tys8, tys9, tys10, tys11, tys12, tys13, tys14, tys15, tys16, tys17, tys18, tys19, tys20, tys21, tys22, tys23, Try.ntmps42, Try.results42, elems_length, e1, e2, hl, hn0, w1, w2, Int.toNat_natCast, Int.natCast_nonneg]
      refine RunL.callp rfl rfl ok_f42 (odLeft_ok e n (l' - 1) (by omega) (by omega) (by omega) (by omega)) (by first | rfl | simp only [pureL, pureB, Bool.and_self, Bool.and_true, Bool.true_and, Su.elems_pure, Su.pay_pure, Su.av_pure]) rfl ?_
      simp only [run0, run1, run2, run3, run4, run5, run6, run7, run8, run9, run10, run11, run12, run13, run14, run15, run16, run17, run18, run19, run20, run21, run22, reduceCtorEq, Nat.reduceEqDiff, Nat.reduceAdd, Nat.reduceSub, Nat.reduceLeDiff, indexAddrA, indexRefA, appendA, strA, Nat.reduceMul, Nat.zero_mul, Nat.reduceMod, Int.reduceEq, Int.reduceLT, Int.reduceLE, Nat.reduceLT, Nat.lt_irrefl, Nat.reduceBEq, tys0, tys1, tys2, tys3, tys4, tys5, tys6, tys7, tys8, tys9, tys10, tys11, tys12, tys13, tys14, tys15, tys16, tys17, tys18, tys19, tys20, tys21, tys22, tys23, Try.ntmps42, Try.results42, e5]
      exact ⟨(d.app (cons e c nil), r, leftL e n (l' - 1 - 1), _), ⟨hnx.symm, by rw [← h2, show l' - 1 - 1 = l' - 2 by omega]; rfl, by rw [show l' - 1 - 1 = l' - 2 by omega]; exact hb.1, by rw [show l' - 1 - 1 = l' - 2 by omega]; exact hb.2⟩, by simp [len], by repeat constructor, rfl⟩
termination_by a.sz

theorem odForm_neg (a : Su) : Ct Try.prog 43 [av a, .int .i64 (-1)] [] (.bool false) [] := by
  refine Ct.by_ hmix [] Try.func43 rfl ?_
  simp only [run0, run1, run2, run3, run4, run5, run6, run7, run8, run9, run10, run11, run12, run13, run14, run15, run16, run17, run18, run19, run20, run21, run22, reduceCtorEq, Nat.reduceEqDiff, Nat.reduceAdd, Nat.reduceSub, Nat.reduceLeDiff, indexAddrA, indexRefA, appendA, strA, Nat.reduceMul, Nat.zero_mul, Nat.reduceMod, Int.reduceEq, Int.reduceLT, Int.reduceLE, Nat.reduceLT, Nat.lt_irrefl, Nat.reduceBEq, tys0, tys1, tys2, tys3, tys4, tys5, tys6, tys7, tys8, tys9, tys10, tys11, tys12, tys13, tys14, tys15, tys16, tys17, tys18, tys19, tys20, tys21, tys22, tys23, Try.ntmps43, Try.results43, av, elems_length, Int.reduceLT]
  exact Fin.eq rfl rfl

/-- The term ahead. -/
def Ahead (d : Su) : Option (Su × Su × (Int × Int)) → Prop
  | none => d = nil
  | some (d0, p, c) => d = d0.app (cons p c nil)
def aheadE : Option (Su × Su × (Int × Int)) → Option Su
  | none => none
  | some (_, p, _) => some p

theorem odForm_ok (a : Su) (n : Nat) (hs : a.sz ≤ 1048576) (hn : n ≤ 6) : Ct Try.prog 43 [av a, .int .i64 n] [] (.bool (formG a n none)) [] := by
  refine Ct.by_ hmix [] Try.func43 rfl ?_
  have hn0 : ¬ ((n : Int) < 0) := by omega
  simp only [run0, run1, run2, run3, run4, run5, run6, run7, run8, run9, run10, run11, run12, run13, run14, run15, run16, run17, run18, run19, run20, run21, run22, reduceCtorEq, Nat.reduceEqDiff, Nat.reduceAdd, Nat.reduceSub, Nat.reduceLeDiff, indexAddrA, indexRefA, appendA, strA, Nat.reduceMul, Nat.zero_mul, Nat.reduceMod, Int.reduceEq, Int.reduceLT, Int.reduceLE, Nat.reduceLT, Nat.lt_irrefl, Nat.reduceBEq, tys0, tys1, tys2, tys3, tys4, tys5, tys6, tys7, tys8, tys9, tys10, tys11, tys12, tys13, tys14, tys15, tys16, tys17, tys18, tys19, tys20, tys21, tys22, tys23, Try.ntmps43, Try.results43, av, elems_length, hn0]
  refine AWp.loop_inv (ι := Su × Su × Option (Su × Su × (Int × Int)) × List AObj) (fun p => ⟨[.agg [.sl false (elems a)], .int .i64 n, .ptr 0 0, .junk, .bool false, .junk, .junk, .junk, .junk, .junk, .sl false (elems a), .int .i64 a.len, .int .i64 p.1.len, .junk, .junk, .junk, .junk, .junk, .junk, .junk, .junk, .junk, .junk, .junk, .junk, .junk, .junk, .junk, .junk, .junk, .junk, .junk, .junk, .junk, .junk, .junk, .junk, .junk, .junk, .junk, .junk, .junk, .junk, .junk, .junk, .junk, .junk, .junk, .junk, .junk, .junk, .junk, .junk], .box 39 [.sl false (elems a)] :: p.2.2.2⟩)
    (fun p => a = p.1.app p.2.1 ∧ Ahead p.1 p.2.2.1 ∧ formG p.2.1 n (aheadE p.2.2.1) = formG a n none ∧ (formG a n none = true → rng a) ∧ (∀ d0 q c, p.2.2.1 = some (d0, q, c) → rng q ∧ q.sz < a.sz)) (fun p => p.2.1.len) (.nil, a, none, []) ⟨rfl, rfl, rfl, formG_rng, by intro _ _ _ h; cases h⟩ ⟨by simp only [len, Int.natCast_zero]; repeat constructor, rfl⟩ ?_
  rintro ⟨d, r, P, X⟩ ⟨ha, hA, h2, hr, hq⟩
  refine W.sound hmix (E := []) ?_
  simp only at ha hA h2 hr hq
  cases r with
  | nil =>
    obtain ⟨e1, rfl⟩ := od_end ha
    simp only [run0, run1, run2, run3, run4, run5, run6, run7, run8, run9, run10, run11, run12, run13, run14, run15, run16, run17, run18, run19, run20, run21, run22, reduceCtorEq, Nat.reduceEqDiff, Nat.reduceAdd, Nat.reduceSub, Nat.reduceLeDiff, indexAddrA, indexRefA, appendA, strA, Nat.reduceMul, Nat.zero_mul, Nat.reduceMod, Int.reduceEq, Int.reduceLT, Int.reduceLE, Nat.reduceLT, Nat.lt_irrefl, Nat.reduceBEq, tys0, tys1, tys2, tys3, tys4, tys5, tys6, tys7, tys8, tys9, tys10, tys11, tys12, tys13, tys14, tys15, tys16, tys17, tys18, tys19, tys20, tys21, tys22, tys23, Try.ntmps43, Try.results43, elems_length, e1]
    exact Fin.eq (by rw [← h2]; rfl) rfl
  | cons e c r =>
    obtain ⟨e1, e2, e5, hlt, hnx, _⟩ := od_step ha hs
    simp only [run0, run1, run2, run3, run4, run5, run6, run7, run8, run9, run10, run11, run12, run13, run14, run15, run16, run17, run18, run19, run20, run21, run22, reduceCtorEq, Nat.reduceEqDiff, Nat.reduceAdd, Nat.reduceSub, Nat.reduceLeDiff, indexAddrA, indexRefA, appendA, strA, Nat.reduceMul, Nat.zero_mul, Nat.reduceMod, Int.reduceEq, Int.reduceLT, Int.reduceLE, Nat.reduceLT, Nat.lt_irrefl, Nat.reduceBEq, tys0, tys1, tys2, tys3, tys4, tys5, tys6, tys7, tys8, tys9, tys10, tys11, tys12, tys13, tys14, tys15, tys16, tys17, tys18, tys19, tys20, tys21, tys22, tys23, Try.ntmps43, Try.results43, elems_length, e1, e2, Int.toNat_natCast, Int.natCast_nonneg]
    refine ⟨by kernel_rfl, ?_⟩
    refine RunL.callp rfl rfl ok_f60 (shGood_ok c.1 c.2) (by first | rfl | simp only [pureL, pureB, Bool.and_self, Bool.and_true, Bool.true_and, Su.elems_pure, Su.pay_pure, Su.av_pure]) rfl ?_
    cases hc1 : goodB c.1 c.2
    · have hf : formG a n none = false := by rw [← h2]; simp [formG_cons, okC, hc1]
      simp only [run0, run1, run2, run3, run4, run5, run6, run7, run8, run9, run10, run11, run12, run13, run14, run15, run16, run17, run18, run19, run20, run21, run22, reduceCtorEq, Nat.reduceEqDiff, Nat.reduceAdd, Nat.reduceSub, Nat.reduceLeDiff, indexAddrA, indexRefA, appendA, strA, Nat.reduceMul, Nat.zero_mul, Nat.reduceMod, Int.reduceEq, Int.reduceLT, Int.reduceLE, Nat.reduceLT, Nat.lt_irrefl, Nat.reduceBEq, tys0, tys1, tys2, tys3, tys4, tys5, tys6, tys7, tys8, tys9, tys10, tys11, tys12, tys13, tys14, tys15, tys16, tys17, tys18, tys19, tys20, tys21, tys22, tys23, Try.ntmps43, Try.results43, hc1]
      exact Fin.eq (by rw [hf]) rfl
    cases hc2 : (c.1 == 0)
    case true =>
      have hf : formG a n none = false := by rw [← h2]; simp [formG_cons, okC, hc2]
      simp only [run0, run1, run2, run3, run4, run5, run6, run7, run8, run9, run10, run11, run12, run13, run14, run15, run16, run17, run18, run19, run20, run21, run22, reduceCtorEq, Nat.reduceEqDiff, Nat.reduceAdd, Nat.reduceSub, Nat.reduceLeDiff, indexAddrA, indexRefA, appendA, strA, Nat.reduceMul, Nat.zero_mul, Nat.reduceMod, Int.reduceEq, Int.reduceLT, Int.reduceLE, Nat.reduceLT, Nat.lt_irrefl, Nat.reduceBEq, tys0, tys1, tys2, tys3, tys4, tys5, tys6, tys7, tys8, tys9, tys10, tys11, tys12, tys13, tys14, tys15, tys16, tys17, tys18, tys19, tys20, tys21, tys22, tys23, Try.ntmps43, Try.results43, hc1, hc2]
      exact Fin.eq (by rw [hf]) rfl
    have hc : okC c = true := by simp [okC, hc1, hc2]
    have hce : Ct Try.prog 43 [av e, .int .i64 (IntKind.i64.wrap ((n : Int) - 1))] [] (.bool (formP e n)) [] := by
      cases n with
      | zero => rw [show IntKind.i64.wrap (((0 : Nat) : Int) - 1) = -1 from rfl]; exact odForm_neg e
      | succ n =>
        rw [show IntKind.i64.wrap (((n + 1 : Nat) : Int) - 1) = (n : Int) by rw [wr_id (by omega) (by omega)]; omega]
        exact odForm_ok e n (by omega) (by omega)
    rw [formG_cons, hc] at h2
    simp only [Bool.true_and] at h2
    simp only [run0, run1, run2, run3, run4, run5, run6, run7, run8, run9, run10, run11, run12, run13, run14, run15, run16, run17, run18, run19, run20, run21, run22, reduceCtorEq, Nat.reduceEqDiff, Nat.reduceAdd, Nat.reduceSub, Nat.reduceLeDiff, indexAddrA, indexRefA, appendA, strA, Nat.reduceMul, Nat.zero_mul, Nat.reduceMod, Int.reduceEq, Int.reduceLT, Int.reduceLE, Nat.reduceLT, Nat.lt_irrefl, Nat.reduceBEq, tys0, tys1, tys2, tys3, tys4, tys5, tys6, tys7, tys8, tys9, tys10, tys11, tys12, tys13, tys14, tys15, tys16, tys17, tys18, tys19, tys20, tys21, tys22, tys23, Try.ntmps43, Try.results43, hc1, hc2]
    refine RunL.callp rfl rfl ok_f43 (hce) (by first | rfl | simp only [pureL, pureB, Bool.and_self, Bool.and_true, Bool.true_and, Su.elems_pure, Su.pay_pure, Su.av_pure]) rfl ?_
    cases hqe : formP e n
    · have hf : formG a n none = false := by rw [← h2]; simp [hqe]
      simp only [run0, run1, run2, run3, run4, run5, run6, run7, run8, run9, run10, run11, run12, run13, run14, run15, run16, run17, run18, run19, run20, run21, run22, reduceCtorEq, Nat.reduceEqDiff, Nat.reduceAdd, Nat.reduceSub, Nat.reduceLeDiff, indexAddrA, indexRefA, appendA, strA, Nat.reduceMul, Nat.zero_mul, Nat.reduceMod, Int.reduceEq, Int.reduceLT, Int.reduceLE, Nat.reduceLT, Nat.lt_irrefl, Nat.reduceBEq, tys0, tys1, tys2, tys3, tys4, tys5, tys6, tys7, tys8, tys9, tys10, tys11, tys12, tys13, tys14, tys15, tys16, tys17, tys18, tys19, tys20, tys21, tys22, tys23, Try.ntmps43, Try.results43, hqe]
      exact Fin.eq (by rw [hf]) rfl
    have hre : rng e := by
      cases n with
      | zero => cases hqe
      | succ n => exact formG_rng hqe
    simp only [hqe, Bool.true_and] at h2
    cases P with
    | none =>
      simp only [Ahead] at hA
      subst hA
      simp only [aheadE, below, Bool.true_and] at h2
      simp only [run0, run1, run2, run3, run4, run5, run6, run7, run8, run9, run10, run11, run12, run13, run14, run15, run16, run17, run18, run19, run20, run21, run22, reduceCtorEq, Nat.reduceEqDiff, Nat.reduceAdd, Nat.reduceSub, Nat.reduceLeDiff, indexAddrA, indexRefA, appendA, strA, Nat.reduceMul, Nat.zero_mul, Nat.reduceMod, Int.reduceEq, Int.reduceLT, Int.reduceLE, Nat.reduceLT, Nat.lt_irrefl, Nat.reduceBEq, tys0, tys1, tys2, tys3, tys4, tys5, tys6, tys7, tys8, tys9, tys10, tys11, tys12, tys13, tys14, tys15, tys16, tys17, tys18, tys19, tys20, tys21, tys22, tys23, Try.ntmps43, Try.results43, hqe, e5, len, Int.natCast_zero, Int.lt_irrefl]
      exact ⟨(nil.app (cons e c nil), r, some (nil, e, c), _), ⟨hnx.symm, rfl, h2, hr, by intro _ _ _ h; cases h; exact ⟨hre, hlt⟩⟩, by simp [len], by repeat constructor, rfl⟩
    | some P =>
      obtain ⟨d0, p, cp⟩ := P
      simp only [Ahead] at hA
      obtain ⟨hrp, hps⟩ := hq d0 p cp rfl
      have e6 : (0 : Int) < (d.len : Int) := by rw [hA, len_app]; simp only [len]; omega
      have hap : a = d0.app (cons p cp (cons e c r)) := by rw [ha, hA, app_assoc]; rfl
      obtain ⟨_, e8, _, _, _, _⟩ := od_step hap hs
      have e7 : IntKind.i64.wrap ((d.len : Int) - 1) = (d0.len : Int) := by
        have := len_le a
        rw [wr_id (by omega) (by omega), hA, len_app]; simp [len]
      have e9 : (d0.len : Int) < (a.len : Int) := (od_step hap hs).1
      simp only [run0, run1, run2, run3, run4, run5, run6, run7, run8, run9, run10, run11, run12, run13, run14, run15, run16, run17, run18, run19, run20, run21, run22, reduceCtorEq, Nat.reduceEqDiff, Nat.reduceAdd, Nat.reduceSub, Nat.reduceLeDiff, indexAddrA, indexRefA, appendA, strA, Nat.reduceMul, Nat.zero_mul, Nat.reduceMod, Int.reduceEq, Int.reduceLT, Int.reduceLE, Nat.reduceLT, Nat.lt_irrefl, Nat.reduceBEq, tys0, tys1, tys2, tys3, tys4, tys5, tys6, tys7, tys8, tys9, tys10, tys11, tys12, tys13, tys14, tys15, tys16, tys17, tys18, tys19, tys20, tys21, tys22, tys23, Try.ntmps43, Try.results43, hqe, e6, e7, e8, e9, elems_length, Int.toNat_natCast, Int.natCast_nonneg]
      refine RunL.callp rfl rfl ok_f25 (odCmp_ok p e (by omega) (by omega) hrp hre) (by first | rfl | simp only [pureL, pureB, Bool.and_self, Bool.and_true, Bool.true_and, Su.elems_pure, Su.pay_pure, Su.av_pure]) rfl ?_
      simp only [aheadE, below] at h2
      by_cases hcm : 0 < cmpT p e
      · simp only [hcm, decide_true, Bool.true_and] at h2
        have e10 : ¬ (cmpT p e ≤ 0) := by omega
        simp only [run0, run1, run2, run3, run4, run5, run6, run7, run8, run9, run10, run11, run12, run13, run14, run15, run16, run17, run18, run19, run20, run21, run22, reduceCtorEq, Nat.reduceEqDiff, Nat.reduceAdd, Nat.reduceSub, Nat.reduceLeDiff, indexAddrA, indexRefA, appendA, strA, Nat.reduceMul, Nat.zero_mul, Nat.reduceMod, Int.reduceEq, Int.reduceLT, Int.reduceLE, Nat.reduceLT, Nat.lt_irrefl, Nat.reduceBEq, tys0, tys1, tys2, tys3, tys4, tys5, tys6, tys7, tys8, tys9, tys10, tys11, tys12, tys13, tys14, tys15, tys16, tys17, tys18, tys19, tys20, tys21, tys22, tys23, Try.ntmps43, Try.results43, e10, e5]
        exact ⟨(d.app (cons e c nil), r, some (d, e, c), _), ⟨hnx.symm, rfl, h2, hr, by intro _ _ _ h; cases h; exact ⟨hre, hlt⟩⟩, by simp [len], by repeat constructor, rfl⟩
      · simp only [hcm, decide_false, Bool.false_and] at h2
        have e10 : cmpT p e ≤ 0 := by omega
        simp only [run0, run1, run2, run3, run4, run5, run6, run7, run8, run9, run10, run11, run12, run13, run14, run15, run16, run17, run18, run19, run20, run21, run22, reduceCtorEq, Nat.reduceEqDiff, Nat.reduceAdd, Nat.reduceSub, Nat.reduceLeDiff, indexAddrA, indexRefA, appendA, strA, Nat.reduceMul, Nat.zero_mul, Nat.reduceMod, Int.reduceEq, Int.reduceLT, Int.reduceLE, Nat.reduceLT, Nat.lt_irrefl, Nat.reduceBEq, tys0, tys1, tys2, tys3, tys4, tys5, tys6, tys7, tys8, tys9, tys10, tys11, tys12, tys13, tys14, tys15, tys16, tys17, tys18, tys19, tys20, tys21, tys22, tys23, Try.ntmps43, Try.results43, e10]
        exact Fin.eq (by rw [← h2]) rfl
termination_by a.sz

theorem odGood_ok (a : Su) (hs : a.sz ≤ 1048576) : Ct Try.prog 24 [av a] [] (.bool (goodT a)) [] := by
  have h := left_good a
  have h1 : Ct Try.prog 42 [av a, .int .i64 6, .int .i64 60] [] (.int .i64 (leftL a 6 (60 - 1))) [] := odLeft_ok a 6 60 hs (by omega) (by omega) (by omega)
  have h2 : Ct Try.prog 43 [av a, .int .i64 6] [] (.bool (formG a 6 none)) [] := odForm_ok a 6 hs (by omega)
  refine Ct.by_ hmix [] Try.func24 rfl ?_
  simp only [run0, run1, run2, run3, run4, run5, run6, run7, run8, run9, run10, run11, run12, run13, run14, run15, run16, run17, run18, run19, run20, run21, run22, reduceCtorEq, Nat.reduceEqDiff, Nat.reduceAdd, Nat.reduceSub, Nat.reduceLeDiff, indexAddrA, indexRefA, appendA, strA, Nat.reduceMul, Nat.zero_mul, Nat.reduceMod, Int.reduceEq, Int.reduceLT, Int.reduceLE, Nat.reduceLT, Nat.lt_irrefl, Nat.reduceBEq, tys0, tys1, tys2, tys3, tys4, tys5, tys6, tys7, tys8, tys9, tys10, tys11, tys12, tys13, tys14, tys15, tys16, tys17, tys18, tys19, tys20, tys21, tys22, tys23, Try.ntmps24, Try.results24, av]
  refine RunL.callp rfl rfl ok_f42 (h1) (by first | rfl | simp only [pureL, pureB, Bool.and_self, Bool.and_true, Bool.true_and, Su.elems_pure, Su.pay_pure, Su.av_pure]) rfl ?_
  simp only [run0, run1, run2, run3, run4, run5, run6, run7, run8, run9, run10, run11, run12, run13, run14, run15, run16, run17, run18, run19, run20, run21, run22, reduceCtorEq, Nat.reduceEqDiff, Nat.reduceAdd, Nat.reduceSub, Nat.reduceLeDiff, indexAddrA, indexRefA, appendA, strA, Nat.reduceMul, Nat.zero_mul, Nat.reduceMod, Int.reduceEq, Int.reduceLT, Int.reduceLE, Nat.reduceLT, Nat.lt_irrefl, Nat.reduceBEq, tys0, tys1, tys2, tys3, tys4, tys5, tys6, tys7, tys8, tys9, tys10, tys11, tys12, tys13, tys14, tys15, tys16, tys17, tys18, tys19, tys20, tys21, tys22, tys23, Try.ntmps24, Try.results24]
  by_cases hl : 0 ≤ leftL a 6 59
  · have e1 : (0 : Int) ≤ leftL a 6 (60 - 1) := hl
    simp only [hl, decide_true, Bool.true_and] at h
    simp only [run0, run1, run2, run3, run4, run5, run6, run7, run8, run9, run10, run11, run12, run13, run14, run15, run16, run17, run18, run19, run20, run21, run22, reduceCtorEq, Nat.reduceEqDiff, Nat.reduceAdd, Nat.reduceSub, Nat.reduceLeDiff, indexAddrA, indexRefA, appendA, strA, Nat.reduceMul, Nat.zero_mul, Nat.reduceMod, Int.reduceEq, Int.reduceLT, Int.reduceLE, Nat.reduceLT, Nat.lt_irrefl, Nat.reduceBEq, tys0, tys1, tys2, tys3, tys4, tys5, tys6, tys7, tys8, tys9, tys10, tys11, tys12, tys13, tys14, tys15, tys16, tys17, tys18, tys19, tys20, tys21, tys22, tys23, Try.ntmps24, Try.results24, e1]
    refine RunL.callp rfl rfl ok_f43 (h2) (by first | rfl | simp only [pureL, pureB, Bool.and_self, Bool.and_true, Bool.true_and, Su.elems_pure, Su.pay_pure, Su.av_pure]) rfl ?_
    simp only [run0, run1, run2, run3, run4, run5, run6, run7, run8, run9, run10, run11, run12, run13, run14, run15, run16, run17, run18, run19, run20, run21, run22, reduceCtorEq, Nat.reduceEqDiff, Nat.reduceAdd, Nat.reduceSub, Nat.reduceLeDiff, indexAddrA, indexRefA, appendA, strA, Nat.reduceMul, Nat.zero_mul, Nat.reduceMod, Int.reduceEq, Int.reduceLT, Int.reduceLE, Nat.reduceLT, Nat.lt_irrefl, Nat.reduceBEq, tys0, tys1, tys2, tys3, tys4, tys5, tys6, tys7, tys8, tys9, tys10, tys11, tys12, tys13, tys14, tys15, tys16, tys17, tys18, tys19, tys20, tys21, tys22, tys23, Try.ntmps24, Try.results24]
    exact Fin.eq (by rw [h]) rfl
  · have e1 : ¬ (0 : Int) ≤ leftL a 6 (60 - 1) := hl
    simp only [hl, decide_false, Bool.false_and] at h
    simp only [run0, run1, run2, run3, run4, run5, run6, run7, run8, run9, run10, run11, run12, run13, run14, run15, run16, run17, run18, run19, run20, run21, run22, reduceCtorEq, Nat.reduceEqDiff, Nat.reduceAdd, Nat.reduceSub, Nat.reduceLeDiff, indexAddrA, indexRefA, appendA, strA, Nat.reduceMul, Nat.zero_mul, Nat.reduceMod, Int.reduceEq, Int.reduceLT, Int.reduceLE, Nat.reduceLT, Nat.lt_irrefl, Nat.reduceBEq, tys0, tys1, tys2, tys3, tys4, tys5, tys6, tys7, tys8, tys9, tys10, tys11, tys12, tys13, tys14, tys15, tys16, tys17, tys18, tys19, tys20, tys21, tys22, tys23, Try.ntmps24, Try.results24, e1]
    exact Fin.eq (by rw [← h]) rfl

end Go.Proofs.Ytminjhhabonjaaa
