/-
  Surreals: which are right, by the program.
-/
import Derived.Test.YtminjhhabonjaaaS8
namespace Go.Proofs.Ytminjhhabonjaaa
open Go K Su
set_option linter.unusedSimpArgs false
set_option linter.unusedVariables false
set_option maxHeartbeats 1000000

/-- A node's answer and the count behind it. -/
def atT (a : Su) (d : Nat) (k : Int) : Bool × Int := if 60 < k + 1 ∨ 6 < d then (false, k + 1) else atL a d (k + 1) none
theorem atL_cons (e r : Su) (c : Int × Int) (d : Nat) (k : Int) (p : Option Su) : atL (.cons e c r) d k p =
    if 60 < k + 1 ∨ okC c = false then (false, k + 1)
    else if (atT e (d + 1) (k + 1)).1 = false then (false, (atT e (d + 1) (k + 1)).2)
    else if below p e = false then (false, (atT e (d + 1) (k + 1)).2)
    else atL r d (atT e (d + 1) (k + 1)).2 (some e) := by
  unfold atT
  rw [atL, show k + 1 + 1 = k + 2 by omega]
  split
  · rfl
  · split
    · simp
    · rfl
theorem atL_some {a : Su} {d : Nat} {k : Int} {p : Option Su} (hd : d ≤ 6) (hk : k ≤ 60) (h : (atL a d k p).1 = true) : (atL a d k p).2 ≤ 60 ∧ k ≤ (atL a d k p).2 := by
  have h1 := atL_spec a d (6 - d) k p (by omega) hk
  have h2 := h1.1.1 h
  have h3 := h1.2 h
  omega
theorem atT_some {a : Su} {d : Nat} {k : Int} (h : (atT a d k).1 = true) : (atT a d k).2 ≤ 60 ∧ k < (atT a d k).2 := by
  unfold atT at *
  split at h
  · cases h
  · rename_i hc
    rw [if_neg hc]
    have := atL_some (by omega) (by omega) h
    omega

theorem atT_rng {a : Su} {d : Nat} {k : Int} (hd : d ≤ 7) (h : (atT a d k).1 = true) : rng a := by
  unfold atT at h
  split at h
  · cases h
  · rename_i hc
    exact formG_rng ((atL_spec a d (6 - d) (k + 1) none (by omega) (by omega)).1.1 h).1

theorem ordinalAt_ok (a : Su) (ys : List AV) (d : Nat) (k : Int) (L : List AObj) (id : Nat) (hs : a.sz ≤ 1048576) (hd : d ≤ 7) (h0 : 0 ≤ k) (hk : k ≤ 60) (hL : L[id]? = some (.box 3 [.int .i64 k])) :
    Ct Try.prog 62 [.rptr (.agg (.sl false (elems a) :: ys)) 0, .int .i64 d, .ptr id 0] L (.bool (atT a d k).1) (L.set id (.box 3 [.int .i64 (atT a d k).2])) := by
  have hidl := (List.getElem?_eq_some_iff.1 hL).1
  have hget : ∀ X, (L.set id X)[id]? = some X := fun X => List.getElem?_set_self hidl
  have w1 : IntKind.i64.wrap (k + 1) = k + 1 := wr_id (by omega) (by omega)
  refine Ct.by_ hmix [] Try.func62 rfl ?_
  simp only [run0, run1, run2, run3, run4, run5, run6, run7, run8, run9, run10, run11, run12, run13, run14, run15, run16, run17, run18, run19, run20, run21, run22, reduceCtorEq, Nat.reduceEqDiff, Nat.reduceAdd, Nat.reduceSub, Nat.reduceLeDiff, indexAddrA, indexRefA, appendA, strA, Nat.reduceMul, Nat.zero_mul, Nat.reduceMod, Int.reduceEq, Int.reduceLT, Int.reduceLE, Nat.reduceLT, Nat.lt_irrefl, Nat.reduceBEq, tys0, tys1, tys2, tys3, tys4, tys5, tys6, tys7, tys8, tys9, tys10, tys11, tys12, tys13, tys14, tys15, tys16, tys17, tys18, tys19, tys20, tys21, tys22, tys23, Try.ntmps62, Try.results62, hL, hget, w1, List.set_set]
  by_cases c1 : 60 < k + 1
  · have hz : atT a d k = (false, k + 1) := by unfold atT; rw [if_pos (.inl c1)]
    simp only [run0, run1, run2, run3, run4, run5, run6, run7, run8, run9, run10, run11, run12, run13, run14, run15, run16, run17, run18, run19, run20, run21, run22, reduceCtorEq, Nat.reduceEqDiff, Nat.reduceAdd, Nat.reduceSub, Nat.reduceLeDiff, indexAddrA, indexRefA, appendA, strA, Nat.reduceMul, Nat.zero_mul, Nat.reduceMod, Int.reduceEq, Int.reduceLT, Int.reduceLE, Nat.reduceLT, Nat.lt_irrefl, Nat.reduceBEq, tys0, tys1, tys2, tys3, tys4, tys5, tys6, tys7, tys8, tys9, tys10, tys11, tys12, tys13, tys14, tys15, tys16, tys17, tys18, tys19, tys20, tys21, tys22, tys23, Try.ntmps62, Try.results62, c1, hL, hget]
    rw [hz]
    exact Fin.own rfl rfl
  by_cases c2 : 6 < d
  · have hz : atT a d k = (false, k + 1) := by unfold atT; rw [if_pos (.inr c2)]
    have c3 : (6 : Int) < (d : Int) := by omega
    simp only [run0, run1, run2, run3, run4, run5, run6, run7, run8, run9, run10, run11, run12, run13, run14, run15, run16, run17, run18, run19, run20, run21, run22, reduceCtorEq, Nat.reduceEqDiff, Nat.reduceAdd, Nat.reduceSub, Nat.reduceLeDiff, indexAddrA, indexRefA, appendA, strA, Nat.reduceMul, Nat.zero_mul, Nat.reduceMod, Int.reduceEq, Int.reduceLT, Int.reduceLE, Nat.reduceLT, Nat.lt_irrefl, Nat.reduceBEq, tys0, tys1, tys2, tys3, tys4, tys5, tys6, tys7, tys8, tys9, tys10, tys11, tys12, tys13, tys14, tys15, tys16, tys17, tys18, tys19, tys20, tys21, tys22, tys23, Try.ntmps62, Try.results62, c1, c3, hL, hget]
    rw [hz]
    exact Fin.own rfl rfl
  have hz : atT a d k = atL a d (k + 1) none := by unfold atT; rw [if_neg (by omega)]
  have c3 : ¬ (6 : Int) < (d : Int) := by omega
  rw [hz]
  simp only [run0, run1, run2, run3, run4, run5, run6, run7, run8, run9, run10, run11, run12, run13, run14, run15, run16, run17, run18, run19, run20, run21, run22, reduceCtorEq, Nat.reduceEqDiff, Nat.reduceAdd, Nat.reduceSub, Nat.reduceLeDiff, indexAddrA, indexRefA, appendA, strA, Nat.reduceMul, Nat.zero_mul, Nat.reduceMod, Int.reduceEq, Int.reduceLT, Int.reduceLE, Nat.reduceLT, Nat.lt_irrefl, Nat.reduceBEq, tys0, tys1, tys2, tys3, tys4, tys5, tys6, tys7, tys8, tys9, tys10, tys11, tys12, tys13, tys14, tys15, tys16, tys17, tys18, tys19, tys20, tys21, tys22, tys23, Try.ntmps62, Try.results62, c1, c3, hL, hget, elems_length]
  refine AWp.loop_inv (ι := Su × Su × Option (Su × Su × (Int × Int)) × Int) (fun p => ⟨[.rptr (.agg (.sl false (elems a) :: ys)) 0, .int .i64 d, .ptr id 0, .junk, .junk, .junk, .bool false, .junk, .junk, .junk, .junk, .junk, .junk, .junk, .junk, .junk, .junk, .junk, .junk, .junk, .junk, .junk, .junk, .junk, .junk, .sl false (elems a), .int .i64 a.len, .int .i64 p.1.len, .junk, .junk, .junk, .junk, .junk, .junk, .junk, .junk, .junk, .junk, .junk, .junk, .junk, .junk, .junk, .junk, .junk, .junk, .junk, .junk, .junk, .junk, .junk, .junk, .junk, .junk, .junk, .junk, .junk, .junk, .junk, .junk, .junk, .junk, .junk, .junk, .junk, .junk, .junk, .junk, .junk, .junk, .junk, .junk, .junk, .junk, .junk, .junk, .junk, .junk, .junk, .junk, .junk, .junk, .junk, .junk, .junk, .junk, .junk, .junk, .junk, .junk, .junk], L.set id (.box 3 [.int .i64 p.2.2.2])⟩)
    (fun p => a = p.1.app p.2.1 ∧ Ahead p.1 p.2.2.1 ∧ atL p.2.1 d p.2.2.2 (aheadE p.2.2.1) = atL a d (k + 1) none ∧ 0 ≤ p.2.2.2 ∧ p.2.2.2 ≤ 60 ∧ (∀ d0 q c, p.2.2.1 = some (d0, q, c) → rng q)) (fun p => p.2.1.len) (.nil, a, none, k + 1) ⟨rfl, rfl, rfl, by simp only; omega, by simp only; omega, by intro _ _ _ h; cases h⟩ ⟨by simp only [len, Int.natCast_zero]; repeat constructor, rfl⟩ ?_
  rintro ⟨dn, r, P, q⟩ ⟨ha, hA, h2, h3, h4, hrp⟩
  refine W.sound hmix (E := []) ?_
  simp only at ha hA h2 h3 h4 hrp
  cases r with
  | nil =>
    obtain ⟨e1, rfl⟩ := od_end ha
    simp only [run0, run1, run2, run3, run4, run5, run6, run7, run8, run9, run10, run11, run12, run13, run14, run15, run16, run17, run18, run19, run20, run21, run22, reduceCtorEq, Nat.reduceEqDiff, Nat.reduceAdd, Nat.reduceSub, Nat.reduceLeDiff, indexAddrA, indexRefA, appendA, strA, Nat.reduceMul, Nat.zero_mul, Nat.reduceMod, Int.reduceEq, Int.reduceLT, Int.reduceLE, Nat.reduceLT, Nat.lt_irrefl, Nat.reduceBEq, tys0, tys1, tys2, tys3, tys4, tys5, tys6, tys7, tys8, tys9, tys10, tys11, tys12, tys13, tys14, tys15, tys16, tys17, tys18, tys19, tys20, tys21, tys22, tys23, Try.ntmps62, Try.results62, elems_length, e1]
    rw [← h2]
    exact Fin.own rfl rfl
  | cons e c r =>
    obtain ⟨e1, e2, e5, hlt, hnx, _⟩ := od_step ha hs
    rw [atL_cons] at h2
    have w2 : IntKind.i64.wrap (q + 1) = q + 1 := wr_id (by omega) (by omega)
    simp only [run0, run1, run2, run3, run4, run5, run6, run7, run8, run9, run10, run11, run12, run13, run14, run15, run16, run17, run18, run19, run20, run21, run22, reduceCtorEq, Nat.reduceEqDiff, Nat.reduceAdd, Nat.reduceSub, Nat.reduceLeDiff, indexAddrA, indexRefA, appendA, strA, Nat.reduceMul, Nat.zero_mul, Nat.reduceMod, Int.reduceEq, Int.reduceLT, Int.reduceLE, Nat.reduceLT, Nat.lt_irrefl, Nat.reduceBEq, tys0, tys1, tys2, tys3, tys4, tys5, tys6, tys7, tys8, tys9, tys10, tys11, tys12, tys13, tys14, tys15, tys16, tys17, tys18, tys19, tys20, tys21, tys22, tys23, Try.ntmps62, Try.results62, hget, w2, List.set_set, elems_length, e1, e2, Int.toNat_natCast, Int.natCast_nonneg]
    by_cases c4 : 60 < q + 1
    · rw [if_pos (.inl c4)] at h2
      simp only [run0, run1, run2, run3, run4, run5, run6, run7, run8, run9, run10, run11, run12, run13, run14, run15, run16, run17, run18, run19, run20, run21, run22, reduceCtorEq, Nat.reduceEqDiff, Nat.reduceAdd, Nat.reduceSub, Nat.reduceLeDiff, indexAddrA, indexRefA, appendA, strA, Nat.reduceMul, Nat.zero_mul, Nat.reduceMod, Int.reduceEq, Int.reduceLT, Int.reduceLE, Nat.reduceLT, Nat.lt_irrefl, Nat.reduceBEq, tys0, tys1, tys2, tys3, tys4, tys5, tys6, tys7, tys8, tys9, tys10, tys11, tys12, tys13, tys14, tys15, tys16, tys17, tys18, tys19, tys20, tys21, tys22, tys23, Try.ntmps62, Try.results62, c4]
      rw [← h2]
      exact Fin.own rfl rfl
    simp only [run0, run1, run2, run3, run4, run5, run6, run7, run8, run9, run10, run11, run12, run13, run14, run15, run16, run17, run18, run19, run20, run21, run22, reduceCtorEq, Nat.reduceEqDiff, Nat.reduceAdd, Nat.reduceSub, Nat.reduceLeDiff, indexAddrA, indexRefA, appendA, strA, Nat.reduceMul, Nat.zero_mul, Nat.reduceMod, Int.reduceEq, Int.reduceLT, Int.reduceLE, Nat.reduceLT, Nat.lt_irrefl, Nat.reduceBEq, tys0, tys1, tys2, tys3, tys4, tys5, tys6, tys7, tys8, tys9, tys10, tys11, tys12, tys13, tys14, tys15, tys16, tys17, tys18, tys19, tys20, tys21, tys22, tys23, Try.ntmps62, Try.results62, c4]
    refine RunL.callp rfl rfl ok_f72 (good_ok c.1 c.2) (by first | rfl | simp only [pureL, pureB, Bool.and_self, Bool.and_true, Bool.true_and, Su.elems_pure, Su.pay_pure, Su.av_pure]) rfl ?_
    cases hc1 : goodB c.1 c.2
    · rw [if_pos (.inr (by simp [okC, hc1]))] at h2
      simp only [run0, run1, run2, run3, run4, run5, run6, run7, run8, run9, run10, run11, run12, run13, run14, run15, run16, run17, run18, run19, run20, run21, run22, reduceCtorEq, Nat.reduceEqDiff, Nat.reduceAdd, Nat.reduceSub, Nat.reduceLeDiff, indexAddrA, indexRefA, appendA, strA, Nat.reduceMul, Nat.zero_mul, Nat.reduceMod, Int.reduceEq, Int.reduceLT, Int.reduceLE, Nat.reduceLT, Nat.lt_irrefl, Nat.reduceBEq, tys0, tys1, tys2, tys3, tys4, tys5, tys6, tys7, tys8, tys9, tys10, tys11, tys12, tys13, tys14, tys15, tys16, tys17, tys18, tys19, tys20, tys21, tys22, tys23, Try.ntmps62, Try.results62, hc1]
      rw [← h2]
      exact Fin.own rfl rfl
    simp only [run0, run1, run2, run3, run4, run5, run6, run7, run8, run9, run10, run11, run12, run13, run14, run15, run16, run17, run18, run19, run20, run21, run22, reduceCtorEq, Nat.reduceEqDiff, Nat.reduceAdd, Nat.reduceSub, Nat.reduceLeDiff, indexAddrA, indexRefA, appendA, strA, Nat.reduceMul, Nat.zero_mul, Nat.reduceMod, Int.reduceEq, Int.reduceLT, Int.reduceLE, Nat.reduceLT, Nat.lt_irrefl, Nat.reduceBEq, tys0, tys1, tys2, tys3, tys4, tys5, tys6, tys7, tys8, tys9, tys10, tys11, tys12, tys13, tys14, tys15, tys16, tys17, tys18, tys19, tys20, tys21, tys22, tys23, Try.ntmps62, Try.results62, hc1]
    cases hc2 : (c.1 == 0)
    case true =>
      rw [if_pos (.inr (by simp [okC, hc2]))] at h2
      simp only [run0, run1, run2, run3, run4, run5, run6, run7, run8, run9, run10, run11, run12, run13, run14, run15, run16, run17, run18, run19, run20, run21, run22, reduceCtorEq, Nat.reduceEqDiff, Nat.reduceAdd, Nat.reduceSub, Nat.reduceLeDiff, indexAddrA, indexRefA, appendA, strA, Nat.reduceMul, Nat.zero_mul, Nat.reduceMod, Int.reduceEq, Int.reduceLT, Int.reduceLE, Nat.reduceLT, Nat.lt_irrefl, Nat.reduceBEq, tys0, tys1, tys2, tys3, tys4, tys5, tys6, tys7, tys8, tys9, tys10, tys11, tys12, tys13, tys14, tys15, tys16, tys17, tys18, tys19, tys20, tys21, tys22, tys23, Try.ntmps62, Try.results62, hc2]
      rw [← h2]
      exact Fin.own rfl rfl
    have hc : okC c = true := by simp [okC, hc1, hc2]
    rw [if_neg (by simp [c4, hc])] at h2
    have w3 : IntKind.i64.wrap ((d : Int) + 1) = ((d + 1 : Nat) : Int) := by rw [wr_id (by omega) (by omega)]; omega
    simp only [run0, run1, run2, run3, run4, run5, run6, run7, run8, run9, run10, run11, run12, run13, run14, run15, run16, run17, run18, run19, run20, run21, run22, reduceCtorEq, Nat.reduceEqDiff, Nat.reduceAdd, Nat.reduceSub, Nat.reduceLeDiff, indexAddrA, indexRefA, appendA, strA, Nat.reduceMul, Nat.zero_mul, Nat.reduceMod, Int.reduceEq, Int.reduceLT, Int.reduceLE, Nat.reduceLT, Nat.lt_irrefl, Nat.reduceBEq, tys0, tys1, tys2, tys3, tys4, tys5, tys6, tys7, tys8, tys9, tys10, tys11, tys12, tys13, tys14, tys15, tys16, tys17, tys18, tys19, tys20, tys21, tys22, tys23, Try.ntmps62, Try.results62, hc1, hc2, w3]
    refine RunL.call rfl rfl rfl ok_f62 rfl (.inl rfl) (ordinalAt_ok e [.int .i64 c.1, .int .i64 c.2] (d + 1) (q + 1) (L.set id (.box 3 [.int .i64 (q + 1)])) id (by omega) (by omega) (by omega) (by omega) (hget _)) ?_
    cases ht : (atT e (d + 1) (q + 1)).1
    · rw [if_pos ht] at h2
      simp only [run0, run1, run2, run3, run4, run5, run6, run7, run8, run9, run10, run11, run12, run13, run14, run15, run16, run17, run18, run19, run20, run21, run22, reduceCtorEq, Nat.reduceEqDiff, Nat.reduceAdd, Nat.reduceSub, Nat.reduceLeDiff, indexAddrA, indexRefA, appendA, strA, Nat.reduceMul, Nat.zero_mul, Nat.reduceMod, Int.reduceEq, Int.reduceLT, Int.reduceLE, Nat.reduceLT, Nat.lt_irrefl, Nat.reduceBEq, tys0, tys1, tys2, tys3, tys4, tys5, tys6, tys7, tys8, tys9, tys10, tys11, tys12, tys13, tys14, tys15, tys16, tys17, tys18, tys19, tys20, tys21, tys22, tys23, Try.ntmps62, Try.results62, List.set_set]
      rw [← h2]
      exact Fin.own rfl rfl
    rw [if_neg (by simp [ht])] at h2
    obtain ⟨k1, k2⟩ := atT_some ht
    have hre : rng e := atT_rng (by omega) ht
    generalize hQ : (atT e (d + 1) (q + 1)).2 = Q at *
    cases P with
    | none =>
      simp only [Ahead] at hA
      subst hA
      simp only [aheadE, below, Bool.true_eq_false, if_false] at h2
      simp only [run0, run1, run2, run3, run4, run5, run6, run7, run8, run9, run10, run11, run12, run13, run14, run15, run16, run17, run18, run19, run20, run21, run22, reduceCtorEq, Nat.reduceEqDiff, Nat.reduceAdd, Nat.reduceSub, Nat.reduceLeDiff, indexAddrA, indexRefA, appendA, strA, Nat.reduceMul, Nat.zero_mul, Nat.reduceMod, Int.reduceEq, Int.reduceLT, Int.reduceLE, Nat.reduceLT, Nat.lt_irrefl, Nat.reduceBEq, tys0, tys1, tys2, tys3, tys4, tys5, tys6, tys7, tys8, tys9, tys10, tys11, tys12, tys13, tys14, tys15, tys16, tys17, tys18, tys19, tys20, tys21, tys22, tys23, Try.ntmps62, Try.results62, List.set_set, e5, len, Int.natCast_zero, Int.lt_irrefl]
      refine ⟨by kernel_rfl, (nil.app (cons e c nil), r, some (nil, e, c), Q), ⟨hnx.symm, rfl, h2, by simp only; omega, by simp only; omega, by intro _ _ _ h; cases h; exact hre⟩, by simp [len], by repeat constructor, rfl⟩
    | some P =>
      obtain ⟨d0, p, cp⟩ := P
      simp only [Ahead] at hA
      have e6 : (0 : Int) < (dn.len : Int) := by rw [hA, len_app]; simp only [len]; omega
      have hap : a = d0.app (cons p cp (cons e c r)) := by rw [ha, hA, app_assoc]; rfl
      obtain ⟨e9, e8, _, hps, _, _⟩ := od_step hap hs
      have hll := len_le a
      have e7 : IntKind.i64.wrap ((dn.len : Int) - 1) = (d0.len : Int) := by
        rw [wr_id (by omega) (by omega), hA, len_app]; simp [len]
      simp only [run0, run1, run2, run3, run4, run5, run6, run7, run8, run9, run10, run11, run12, run13, run14, run15, run16, run17, run18, run19, run20, run21, run22, reduceCtorEq, Nat.reduceEqDiff, Nat.reduceAdd, Nat.reduceSub, Nat.reduceLeDiff, indexAddrA, indexRefA, appendA, strA, Nat.reduceMul, Nat.zero_mul, Nat.reduceMod, Int.reduceEq, Int.reduceLT, Int.reduceLE, Nat.reduceLT, Nat.lt_irrefl, Nat.reduceBEq, tys0, tys1, tys2, tys3, tys4, tys5, tys6, tys7, tys8, tys9, tys10, tys11, tys12, tys13, tys14, tys15, tys16, tys17, tys18, tys19, tys20, tys21, tys22, tys23, Try.ntmps62, Try.results62, List.set_set, e6, e7, e8, e9, hget, elems_length, Int.toNat_natCast, Int.natCast_nonneg]
      refine ⟨by kernel_rfl, ?_⟩
      refine RunL.callp rfl rfl ok_f29 (cmp_ok p e (by omega) (by omega) (hrp _ _ _ rfl) hre) (by first | rfl | simp only [pureL, pureB, Bool.and_self, Bool.and_true, Bool.true_and, Su.elems_pure, Su.pay_pure, Su.av_pure]) rfl ?_
      simp only [aheadE, below] at h2
      by_cases hcm : 0 < cmpT p e
      · simp only [hcm, decide_true, Bool.true_eq_false, if_false] at h2
        have e10 : ¬ (cmpT p e ≤ 0) := by omega
        simp only [run0, run1, run2, run3, run4, run5, run6, run7, run8, run9, run10, run11, run12, run13, run14, run15, run16, run17, run18, run19, run20, run21, run22, reduceCtorEq, Nat.reduceEqDiff, Nat.reduceAdd, Nat.reduceSub, Nat.reduceLeDiff, indexAddrA, indexRefA, appendA, strA, Nat.reduceMul, Nat.zero_mul, Nat.reduceMod, Int.reduceEq, Int.reduceLT, Int.reduceLE, Nat.reduceLT, Nat.lt_irrefl, Nat.reduceBEq, tys0, tys1, tys2, tys3, tys4, tys5, tys6, tys7, tys8, tys9, tys10, tys11, tys12, tys13, tys14, tys15, tys16, tys17, tys18, tys19, tys20, tys21, tys22, tys23, Try.ntmps62, Try.results62, e10, e5]
        exact ⟨(dn.app (cons e c nil), r, some (dn, e, c), Q), ⟨hnx.symm, rfl, h2, by simp only; omega, by simp only; omega, by intro _ _ _ h; cases h; exact hre⟩, by simp [len], by repeat constructor, rfl⟩
      · simp only [hcm, decide_false, if_true] at h2
        have e10 : cmpT p e ≤ 0 := by omega
        simp only [run0, run1, run2, run3, run4, run5, run6, run7, run8, run9, run10, run11, run12, run13, run14, run15, run16, run17, run18, run19, run20, run21, run22, reduceCtorEq, Nat.reduceEqDiff, Nat.reduceAdd, Nat.reduceSub, Nat.reduceLeDiff, indexAddrA, indexRefA, appendA, strA, Nat.reduceMul, Nat.zero_mul, Nat.reduceMod, Int.reduceEq, Int.reduceLT, Int.reduceLE, Nat.reduceLT, Nat.lt_irrefl, Nat.reduceBEq, tys0, tys1, tys2, tys3, tys4, tys5, tys6, tys7, tys8, tys9, tys10, tys11, tys12, tys13, tys14, tys15, tys16, tys17, tys18, tys19, tys20, tys21, tys22, tys23, Try.ntmps62, Try.results62, e10]
        rw [← h2]
        exact Fin.own rfl rfl
termination_by a.sz

theorem ordinalAtP_ok (a : Su) (i : Nat) (d : Nat) (k : Int) (L : List AObj) (id : Nat) (hs : a.sz ≤ 1048576) (hd : d ≤ 7) (h0 : 0 ≤ k) (hk : k ≤ 60) (hL : L[id]? = some (.box 3 [.int .i64 k])) (hi : L[i]? = some (.box 39 [.sl false (elems a)])) (hne : i ≠ id) :
    Ct Try.prog 62 [.ptr i 0, .int .i64 d, .ptr id 0] L (.bool (atT a d k).1) (L.set id (.box 3 [.int .i64 (atT a d k).2])) := by
  have hidl := (List.getElem?_eq_some_iff.1 hL).1
  have hget : ∀ X, (L.set id X)[id]? = some X := fun X => List.getElem?_set_self hidl
  have hgi : ∀ X, (L.set id X)[i]? = some (.box 39 [.sl false (elems a)]) := fun X => by rw [List.getElem?_set_ne (fun q => hne q.symm)]; exact hi
  have w1 : IntKind.i64.wrap (k + 1) = k + 1 := wr_id (by omega) (by omega)
  refine Ct.by_ hmix [] Try.func62 rfl ?_
  simp only [run0, run1, run2, run3, run4, run5, run6, run7, run8, run9, run10, run11, run12, run13, run14, run15, run16, run17, run18, run19, run20, run21, run22, reduceCtorEq, Nat.reduceEqDiff, Nat.reduceAdd, Nat.reduceSub, Nat.reduceLeDiff, indexAddrA, indexRefA, appendA, strA, Nat.reduceMul, Nat.zero_mul, Nat.reduceMod, Int.reduceEq, Int.reduceLT, Int.reduceLE, Nat.reduceLT, Nat.lt_irrefl, Nat.reduceBEq, tys0, tys1, tys2, tys3, tys4, tys5, tys6, tys7, tys8, tys9, tys10, tys11, tys12, tys13, tys14, tys15, tys16, tys17, tys18, tys19, tys20, tys21, tys22, tys23, Try.ntmps62, Try.results62, hL, hget, w1, List.set_set]
  by_cases c1 : 60 < k + 1
  · have hz : atT a d k = (false, k + 1) := by unfold atT; rw [if_pos (.inl c1)]
    simp only [run0, run1, run2, run3, run4, run5, run6, run7, run8, run9, run10, run11, run12, run13, run14, run15, run16, run17, run18, run19, run20, run21, run22, reduceCtorEq, Nat.reduceEqDiff, Nat.reduceAdd, Nat.reduceSub, Nat.reduceLeDiff, indexAddrA, indexRefA, appendA, strA, Nat.reduceMul, Nat.zero_mul, Nat.reduceMod, Int.reduceEq, Int.reduceLT, Int.reduceLE, Nat.reduceLT, Nat.lt_irrefl, Nat.reduceBEq, tys0, tys1, tys2, tys3, tys4, tys5, tys6, tys7, tys8, tys9, tys10, tys11, tys12, tys13, tys14, tys15, tys16, tys17, tys18, tys19, tys20, tys21, tys22, tys23, Try.ntmps62, Try.results62, c1, hL, hget]
    rw [hz]
    exact Fin.own rfl rfl
  by_cases c2 : 6 < d
  · have hz : atT a d k = (false, k + 1) := by unfold atT; rw [if_pos (.inr c2)]
    have c3 : (6 : Int) < (d : Int) := by omega
    simp only [run0, run1, run2, run3, run4, run5, run6, run7, run8, run9, run10, run11, run12, run13, run14, run15, run16, run17, run18, run19, run20, run21, run22, reduceCtorEq, Nat.reduceEqDiff, Nat.reduceAdd, Nat.reduceSub, Nat.reduceLeDiff, indexAddrA, indexRefA, appendA, strA, Nat.reduceMul, Nat.zero_mul, Nat.reduceMod, Int.reduceEq, Int.reduceLT, Int.reduceLE, Nat.reduceLT, Nat.lt_irrefl, Nat.reduceBEq, tys0, tys1, tys2, tys3, tys4, tys5, tys6, tys7, tys8, tys9, tys10, tys11, tys12, tys13, tys14, tys15, tys16, tys17, tys18, tys19, tys20, tys21, tys22, tys23, Try.ntmps62, Try.results62, c1, c3, hL, hget]
    rw [hz]
    exact Fin.own rfl rfl
  have hz : atT a d k = atL a d (k + 1) none := by unfold atT; rw [if_neg (by omega)]
  have c3 : ¬ (6 : Int) < (d : Int) := by omega
  rw [hz]
  simp only [run0, run1, run2, run3, run4, run5, run6, run7, run8, run9, run10, run11, run12, run13, run14, run15, run16, run17, run18, run19, run20, run21, run22, reduceCtorEq, Nat.reduceEqDiff, Nat.reduceAdd, Nat.reduceSub, Nat.reduceLeDiff, indexAddrA, indexRefA, appendA, strA, Nat.reduceMul, Nat.zero_mul, Nat.reduceMod, Int.reduceEq, Int.reduceLT, Int.reduceLE, Nat.reduceLT, Nat.lt_irrefl, Nat.reduceBEq, tys0, tys1, tys2, tys3, tys4, tys5, tys6, tys7, tys8, tys9, tys10, tys11, tys12, tys13, tys14, tys15, tys16, tys17, tys18, tys19, tys20, tys21, tys22, tys23, Try.ntmps62, Try.results62, c1, c3, hL, hget, hgi, elems_length]
  refine AWp.loop_inv (ι := Su × Su × Option (Su × Su × (Int × Int)) × Int) (fun p => ⟨[.ptr i 0, .int .i64 d, .ptr id 0, .junk, .junk, .junk, .bool false, .junk, .junk, .junk, .junk, .junk, .junk, .junk, .junk, .junk, .junk, .junk, .junk, .junk, .junk, .junk, .junk, .junk, .junk, .sl false (elems a), .int .i64 a.len, .int .i64 p.1.len, .junk, .junk, .junk, .junk, .junk, .junk, .junk, .junk, .junk, .junk, .junk, .junk, .junk, .junk, .junk, .junk, .junk, .junk, .junk, .junk, .junk, .junk, .junk, .junk, .junk, .junk, .junk, .junk, .junk, .junk, .junk, .junk, .junk, .junk, .junk, .junk, .junk, .junk, .junk, .junk, .junk, .junk, .junk, .junk, .junk, .junk, .junk, .junk, .junk, .junk, .junk, .junk, .junk, .junk, .junk, .junk, .junk, .junk, .junk, .junk, .junk, .junk, .junk], L.set id (.box 3 [.int .i64 p.2.2.2])⟩)
    (fun p => a = p.1.app p.2.1 ∧ Ahead p.1 p.2.2.1 ∧ atL p.2.1 d p.2.2.2 (aheadE p.2.2.1) = atL a d (k + 1) none ∧ 0 ≤ p.2.2.2 ∧ p.2.2.2 ≤ 60 ∧ (∀ d0 q c, p.2.2.1 = some (d0, q, c) → rng q)) (fun p => p.2.1.len) (.nil, a, none, k + 1) ⟨rfl, rfl, rfl, by simp only; omega, by simp only; omega, by intro _ _ _ h; cases h⟩ ⟨by simp only [len, Int.natCast_zero]; repeat constructor, rfl⟩ ?_
  rintro ⟨dn, r, P, q⟩ ⟨ha, hA, h2, h3, h4, hrp⟩
  refine W.sound hmix (E := []) ?_
  simp only at ha hA h2 h3 h4 hrp
  cases r with
  | nil =>
    obtain ⟨e1, rfl⟩ := od_end ha
    simp only [run0, run1, run2, run3, run4, run5, run6, run7, run8, run9, run10, run11, run12, run13, run14, run15, run16, run17, run18, run19, run20, run21, run22, reduceCtorEq, Nat.reduceEqDiff, Nat.reduceAdd, Nat.reduceSub, Nat.reduceLeDiff, indexAddrA, indexRefA, appendA, strA, Nat.reduceMul, Nat.zero_mul, Nat.reduceMod, Int.reduceEq, Int.reduceLT, Int.reduceLE, Nat.reduceLT, Nat.lt_irrefl, Nat.reduceBEq, tys0, tys1, tys2, tys3, tys4, tys5, tys6, tys7, tys8, tys9, tys10, tys11, tys12, tys13, tys14, tys15, tys16, tys17, tys18, tys19, tys20, tys21, tys22, tys23, Try.ntmps62, Try.results62, elems_length, e1]
    rw [← h2]
    exact Fin.own rfl rfl
  | cons e c r =>
    obtain ⟨e1, e2, e5, hlt, hnx, _⟩ := od_step ha hs
    rw [atL_cons] at h2
    have w2 : IntKind.i64.wrap (q + 1) = q + 1 := wr_id (by omega) (by omega)
    simp only [run0, run1, run2, run3, run4, run5, run6, run7, run8, run9, run10, run11, run12, run13, run14, run15, run16, run17, run18, run19, run20, run21, run22, reduceCtorEq, Nat.reduceEqDiff, Nat.reduceAdd, Nat.reduceSub, Nat.reduceLeDiff, indexAddrA, indexRefA, appendA, strA, Nat.reduceMul, Nat.zero_mul, Nat.reduceMod, Int.reduceEq, Int.reduceLT, Int.reduceLE, Nat.reduceLT, Nat.lt_irrefl, Nat.reduceBEq, tys0, tys1, tys2, tys3, tys4, tys5, tys6, tys7, tys8, tys9, tys10, tys11, tys12, tys13, tys14, tys15, tys16, tys17, tys18, tys19, tys20, tys21, tys22, tys23, Try.ntmps62, Try.results62, hget, w2, List.set_set, hgi, elems_length, e1, e2, Int.toNat_natCast, Int.natCast_nonneg]
    by_cases c4 : 60 < q + 1
    · rw [if_pos (.inl c4)] at h2
      simp only [run0, run1, run2, run3, run4, run5, run6, run7, run8, run9, run10, run11, run12, run13, run14, run15, run16, run17, run18, run19, run20, run21, run22, reduceCtorEq, Nat.reduceEqDiff, Nat.reduceAdd, Nat.reduceSub, Nat.reduceLeDiff, indexAddrA, indexRefA, appendA, strA, Nat.reduceMul, Nat.zero_mul, Nat.reduceMod, Int.reduceEq, Int.reduceLT, Int.reduceLE, Nat.reduceLT, Nat.lt_irrefl, Nat.reduceBEq, tys0, tys1, tys2, tys3, tys4, tys5, tys6, tys7, tys8, tys9, tys10, tys11, tys12, tys13, tys14, tys15, tys16, tys17, tys18, tys19, tys20, tys21, tys22, tys23, Try.ntmps62, Try.results62, c4]
      rw [← h2]
      exact Fin.own rfl rfl
    simp only [run0, run1, run2, run3, run4, run5, run6, run7, run8, run9, run10, run11, run12, run13, run14, run15, run16, run17, run18, run19, run20, run21, run22, reduceCtorEq, Nat.reduceEqDiff, Nat.reduceAdd, Nat.reduceSub, Nat.reduceLeDiff, indexAddrA, indexRefA, appendA, strA, Nat.reduceMul, Nat.zero_mul, Nat.reduceMod, Int.reduceEq, Int.reduceLT, Int.reduceLE, Nat.reduceLT, Nat.lt_irrefl, Nat.reduceBEq, tys0, tys1, tys2, tys3, tys4, tys5, tys6, tys7, tys8, tys9, tys10, tys11, tys12, tys13, tys14, tys15, tys16, tys17, tys18, tys19, tys20, tys21, tys22, tys23, Try.ntmps62, Try.results62, c4]
    refine RunL.callp rfl rfl ok_f72 (good_ok c.1 c.2) (by first | rfl | simp only [pureL, pureB, Bool.and_self, Bool.and_true, Bool.true_and, Su.elems_pure, Su.pay_pure, Su.av_pure]) rfl ?_
    cases hc1 : goodB c.1 c.2
    · rw [if_pos (.inr (by simp [okC, hc1]))] at h2
      simp only [run0, run1, run2, run3, run4, run5, run6, run7, run8, run9, run10, run11, run12, run13, run14, run15, run16, run17, run18, run19, run20, run21, run22, reduceCtorEq, Nat.reduceEqDiff, Nat.reduceAdd, Nat.reduceSub, Nat.reduceLeDiff, indexAddrA, indexRefA, appendA, strA, Nat.reduceMul, Nat.zero_mul, Nat.reduceMod, Int.reduceEq, Int.reduceLT, Int.reduceLE, Nat.reduceLT, Nat.lt_irrefl, Nat.reduceBEq, tys0, tys1, tys2, tys3, tys4, tys5, tys6, tys7, tys8, tys9, tys10, tys11, tys12, tys13, tys14, tys15, tys16, tys17, tys18, tys19, tys20, tys21, tys22, tys23, Try.ntmps62, Try.results62, hc1]
      rw [← h2]
      exact Fin.own rfl rfl
    simp only [run0, run1, run2, run3, run4, run5, run6, run7, run8, run9, run10, run11, run12, run13, run14, run15, run16, run17, run18, run19, run20, run21, run22, reduceCtorEq, Nat.reduceEqDiff, Nat.reduceAdd, Nat.reduceSub, Nat.reduceLeDiff, indexAddrA, indexRefA, appendA, strA, Nat.reduceMul, Nat.zero_mul, Nat.reduceMod, Int.reduceEq, Int.reduceLT, Int.reduceLE, Nat.reduceLT, Nat.lt_irrefl, Nat.reduceBEq, tys0, tys1, tys2, tys3, tys4, tys5, tys6, tys7, tys8, tys9, tys10, tys11, tys12, tys13, tys14, tys15, tys16, tys17, tys18, tys19, tys20, tys21, tys22, tys23, Try.ntmps62, Try.results62, hc1]
    cases hc2 : (c.1 == 0)
    case true =>
      rw [if_pos (.inr (by simp [okC, hc2]))] at h2
      simp only [run0, run1, run2, run3, run4, run5, run6, run7, run8, run9, run10, run11, run12, run13, run14, run15, run16, run17, run18, run19, run20, run21, run22, reduceCtorEq, Nat.reduceEqDiff, Nat.reduceAdd, Nat.reduceSub, Nat.reduceLeDiff, indexAddrA, indexRefA, appendA, strA, Nat.reduceMul, Nat.zero_mul, Nat.reduceMod, Int.reduceEq, Int.reduceLT, Int.reduceLE, Nat.reduceLT, Nat.lt_irrefl, Nat.reduceBEq, tys0, tys1, tys2, tys3, tys4, tys5, tys6, tys7, tys8, tys9, tys10, tys11, tys12, tys13, tys14, tys15, tys16, tys17, tys18, tys19, tys20, tys21, tys22, tys23, Try.ntmps62, Try.results62, hc2]
      rw [← h2]
      exact Fin.own rfl rfl
    have hc : okC c = true := by simp [okC, hc1, hc2]
    rw [if_neg (by simp [c4, hc])] at h2
    have w3 : IntKind.i64.wrap ((d : Int) + 1) = ((d + 1 : Nat) : Int) := by rw [wr_id (by omega) (by omega)]; omega
    simp only [run0, run1, run2, run3, run4, run5, run6, run7, run8, run9, run10, run11, run12, run13, run14, run15, run16, run17, run18, run19, run20, run21, run22, reduceCtorEq, Nat.reduceEqDiff, Nat.reduceAdd, Nat.reduceSub, Nat.reduceLeDiff, indexAddrA, indexRefA, appendA, strA, Nat.reduceMul, Nat.zero_mul, Nat.reduceMod, Int.reduceEq, Int.reduceLT, Int.reduceLE, Nat.reduceLT, Nat.lt_irrefl, Nat.reduceBEq, tys0, tys1, tys2, tys3, tys4, tys5, tys6, tys7, tys8, tys9, tys10, tys11, tys12, tys13, tys14, tys15, tys16, tys17, tys18, tys19, tys20, tys21, tys22, tys23, Try.ntmps62, Try.results62, hc1, hc2, w3]
    refine RunL.call rfl rfl rfl ok_f62 rfl (.inl rfl) (ordinalAt_ok e [.int .i64 c.1, .int .i64 c.2] (d + 1) (q + 1) (L.set id (.box 3 [.int .i64 (q + 1)])) id (by omega) (by omega) (by omega) (by omega) (hget _)) ?_
    cases ht : (atT e (d + 1) (q + 1)).1
    · rw [if_pos ht] at h2
      simp only [run0, run1, run2, run3, run4, run5, run6, run7, run8, run9, run10, run11, run12, run13, run14, run15, run16, run17, run18, run19, run20, run21, run22, reduceCtorEq, Nat.reduceEqDiff, Nat.reduceAdd, Nat.reduceSub, Nat.reduceLeDiff, indexAddrA, indexRefA, appendA, strA, Nat.reduceMul, Nat.zero_mul, Nat.reduceMod, Int.reduceEq, Int.reduceLT, Int.reduceLE, Nat.reduceLT, Nat.lt_irrefl, Nat.reduceBEq, tys0, tys1, tys2, tys3, tys4, tys5, tys6, tys7, tys8, tys9, tys10, tys11, tys12, tys13, tys14, tys15, tys16, tys17, tys18, tys19, tys20, tys21, tys22, tys23, Try.ntmps62, Try.results62, List.set_set]
      rw [← h2]
      exact Fin.own rfl rfl
    rw [if_neg (by simp [ht])] at h2
    obtain ⟨k1, k2⟩ := atT_some ht
    have hre : rng e := atT_rng (by omega) ht
    generalize hQ : (atT e (d + 1) (q + 1)).2 = Q at *
    cases P with
    | none =>
      simp only [Ahead] at hA
      subst hA
      simp only [aheadE, below, Bool.true_eq_false, if_false] at h2
      simp only [run0, run1, run2, run3, run4, run5, run6, run7, run8, run9, run10, run11, run12, run13, run14, run15, run16, run17, run18, run19, run20, run21, run22, reduceCtorEq, Nat.reduceEqDiff, Nat.reduceAdd, Nat.reduceSub, Nat.reduceLeDiff, indexAddrA, indexRefA, appendA, strA, Nat.reduceMul, Nat.zero_mul, Nat.reduceMod, Int.reduceEq, Int.reduceLT, Int.reduceLE, Nat.reduceLT, Nat.lt_irrefl, Nat.reduceBEq, tys0, tys1, tys2, tys3, tys4, tys5, tys6, tys7, tys8, tys9, tys10, tys11, tys12, tys13, tys14, tys15, tys16, tys17, tys18, tys19, tys20, tys21, tys22, tys23, Try.ntmps62, Try.results62, List.set_set, e5, len, Int.natCast_zero, Int.lt_irrefl]
      refine ⟨by kernel_rfl, (nil.app (cons e c nil), r, some (nil, e, c), Q), ⟨hnx.symm, rfl, h2, by simp only; omega, by simp only; omega, by intro _ _ _ h; cases h; exact hre⟩, by simp [len], by repeat constructor, rfl⟩
    | some P =>
      obtain ⟨d0, p, cp⟩ := P
      simp only [Ahead] at hA
      have e6 : (0 : Int) < (dn.len : Int) := by rw [hA, len_app]; simp only [len]; omega
      have hap : a = d0.app (cons p cp (cons e c r)) := by rw [ha, hA, app_assoc]; rfl
      obtain ⟨e9, e8, _, hps, _, _⟩ := od_step hap hs
      have hll := len_le a
      have e7 : IntKind.i64.wrap ((dn.len : Int) - 1) = (d0.len : Int) := by
        rw [wr_id (by omega) (by omega), hA, len_app]; simp [len]
      simp only [run0, run1, run2, run3, run4, run5, run6, run7, run8, run9, run10, run11, run12, run13, run14, run15, run16, run17, run18, run19, run20, run21, run22, reduceCtorEq, Nat.reduceEqDiff, Nat.reduceAdd, Nat.reduceSub, Nat.reduceLeDiff, indexAddrA, indexRefA, appendA, strA, Nat.reduceMul, Nat.zero_mul, Nat.reduceMod, Int.reduceEq, Int.reduceLT, Int.reduceLE, Nat.reduceLT, Nat.lt_irrefl, Nat.reduceBEq, tys0, tys1, tys2, tys3, tys4, tys5, tys6, tys7, tys8, tys9, tys10, tys11, tys12, tys13, tys14, tys15, tys16, tys17, tys18, tys19, tys20, tys21, tys22, tys23, Try.ntmps62, Try.results62, List.set_set, e6, e7, e8, e9, hget, hgi, elems_length, Int.toNat_natCast, Int.natCast_nonneg]
      refine ⟨by kernel_rfl, ?_⟩
      refine RunL.callp rfl rfl ok_f29 (cmp_ok p e (by omega) (by omega) (hrp _ _ _ rfl) hre) (by first | rfl | simp only [pureL, pureB, Bool.and_self, Bool.and_true, Bool.true_and, Su.elems_pure, Su.pay_pure, Su.av_pure]) rfl ?_
      simp only [aheadE, below] at h2
      by_cases hcm : 0 < cmpT p e
      · simp only [hcm, decide_true, Bool.true_eq_false, if_false] at h2
        have e10 : ¬ (cmpT p e ≤ 0) := by omega
        simp only [run0, run1, run2, run3, run4, run5, run6, run7, run8, run9, run10, run11, run12, run13, run14, run15, run16, run17, run18, run19, run20, run21, run22, reduceCtorEq, Nat.reduceEqDiff, Nat.reduceAdd, Nat.reduceSub, Nat.reduceLeDiff, indexAddrA, indexRefA, appendA, strA, Nat.reduceMul, Nat.zero_mul, Nat.reduceMod, Int.reduceEq, Int.reduceLT, Int.reduceLE, Nat.reduceLT, Nat.lt_irrefl, Nat.reduceBEq, tys0, tys1, tys2, tys3, tys4, tys5, tys6, tys7, tys8, tys9, tys10, tys11, tys12, tys13, tys14, tys15, tys16, tys17, tys18, tys19, tys20, tys21, tys22, tys23, Try.ntmps62, Try.results62, e10, e5]
        exact ⟨(dn.app (cons e c nil), r, some (dn, e, c), Q), ⟨hnx.symm, rfl, h2, by simp only; omega, by simp only; omega, by intro _ _ _ h; cases h; exact hre⟩, by simp [len], by repeat constructor, rfl⟩
      · simp only [hcm, decide_false, if_true] at h2
        have e10 : cmpT p e ≤ 0 := by omega
        simp only [run0, run1, run2, run3, run4, run5, run6, run7, run8, run9, run10, run11, run12, run13, run14, run15, run16, run17, run18, run19, run20, run21, run22, reduceCtorEq, Nat.reduceEqDiff, Nat.reduceAdd, Nat.reduceSub, Nat.reduceLeDiff, indexAddrA, indexRefA, appendA, strA, Nat.reduceMul, Nat.zero_mul, Nat.reduceMod, Int.reduceEq, Int.reduceLT, Int.reduceLE, Nat.reduceLT, Nat.lt_irrefl, Nat.reduceBEq, tys0, tys1, tys2, tys3, tys4, tys5, tys6, tys7, tys8, tys9, tys10, tys11, tys12, tys13, tys14, tys15, tys16, tys17, tys18, tys19, tys20, tys21, tys22, tys23, Try.ntmps62, Try.results62, e10]
        rw [← h2]
        exact Fin.own rfl rfl

theorem IsSurreal_ok (a : Su) (hs : a.sz ≤ 1048576) : Ct Try.prog 48 [av a] [] (.bool (goodT a)) [] := by
  have h := at_good a
  have h1 := ordinalAtP_ok a 0 0 0 [.box 39 [.sl false (elems a)], .box 3 [.int .i64 0]] 1 hs (by omega) (by omega) (by omega) rfl rfl (by omega)
  have h2 : atT a 0 0 = atL a 0 1 none := rfl
  rw [h2, h] at h1
  refine Ct.by_ hmix [] Try.func48 rfl ?_
  simp only [run0, run1, run2, run3, run4, run5, run6, run7, run8, run9, run10, run11, run12, run13, run14, run15, run16, run17, run18, run19, run20, run21, run22, reduceCtorEq, Nat.reduceEqDiff, Nat.reduceAdd, Nat.reduceSub, Nat.reduceLeDiff, indexAddrA, indexRefA, appendA, strA, Nat.reduceMul, Nat.zero_mul, Nat.reduceMod, Int.reduceEq, Int.reduceLT, Int.reduceLE, Nat.reduceLT, Nat.lt_irrefl, Nat.reduceBEq, tys0, tys1, tys2, tys3, tys4, tys5, tys6, tys7, tys8, tys9, tys10, tys11, tys12, tys13, tys14, tys15, tys16, tys17, tys18, tys19, tys20, tys21, tys22, tys23, Try.ntmps48, Try.results48, av]
  refine RunL.call rfl rfl rfl ok_f62 rfl (.inl rfl) h1 ?_
  simp only [run0, run1, run2, run3, run4, run5, run6, run7, run8, run9, run10, run11, run12, run13, run14, run15, run16, run17, run18, run19, run20, run21, run22, reduceCtorEq, Nat.reduceEqDiff, Nat.reduceAdd, Nat.reduceSub, Nat.reduceLeDiff, indexAddrA, indexRefA, appendA, strA, Nat.reduceMul, Nat.zero_mul, Nat.reduceMod, Int.reduceEq, Int.reduceLT, Int.reduceLE, Nat.reduceLT, Nat.lt_irrefl, Nat.reduceBEq, tys0, tys1, tys2, tys3, tys4, tys5, tys6, tys7, tys8, tys9, tys10, tys11, tys12, tys13, tys14, tys15, tys16, tys17, tys18, tys19, tys20, tys21, tys22, tys23, Try.ntmps48, Try.results48]
  exact Fin.eq rfl rfl

end Go.Proofs.Ytminjhhabonjaaa
