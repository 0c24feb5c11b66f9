/-
  Ordinals: the comparing of the program and of the reference.
-/
import Derived.Test.YtminjhhabonjaaaG1
import Derived.Test.YtminjhhabonjaaaO1
namespace Go.Proofs.Ytminjhhabonjaaa
open Go K Od
set_option linter.unusedSimpArgs false
set_option linter.unusedVariables false
set_option maxHeartbeats 400000

theorem od_step {a d e r : Od} {c : Int} (ha : a = d.app (cons e c r)) (hs : a.sz ≤ 1048576) :
    (d.len : Int) < (a.len : Int) ∧ (elems a)[d.len]? = some (.agg [.sl false (elems e), .int .i64 c]) ∧ IntKind.i64.wrap ((d.len : Int) + 1) = ((d.app (cons e c nil)).len : Int) ∧ e.sz < a.sz ∧
      (d.app (cons e c nil)).app r = a ∧ r.sz < a.sz := by
  have hda : d.len + (r.len + 1) = a.len := by rw [ha, len_app]; rfl
  have hsz : a.sz = d.sz + (e.sz + r.sz + 1) := by rw [ha, sz_app]; rfl
  have hl := len_le a
  refine ⟨by omega, ?_, ?_, by omega, ?_, by omega⟩
  · rw [ha]; exact elems_get d e c r
  · rw [w64_id (by omega) (by omega), len_app]; simp [len]
  · rw [app_assoc]; exact ha.symm
theorem od_end {a d : Od} (ha : a = d.app nil) : ¬ ((d.len : Int) < (a.len : Int)) ∧ a = d := by
  rw [app_nil] at ha; subst ha; exact ⟨by omega, rfl⟩

theorem in_ok (n lo hi : Int) : Ct Try.prog 57 [.int .i64 n, .int .i64 lo, .int .i64 hi] [] (.bool (inB n lo hi)) [] := by
  refine Ct.by_ hmix [] Try.func57 rfl ?_
  simp only [run0, run1, run2, run3, run4, run5, run6, run7, run8, run9, run10, run11, run12, run13, run14, run15, run16, run17, run18, run19, run20, run21, run22, reduceCtorEq, Nat.reduceEqDiff, Nat.reduceAdd, Nat.reduceSub, Nat.reduceLeDiff, indexAddrA, indexRefA, appendA, strA, Nat.reduceMul, Nat.zero_mul, Nat.reduceMod, Int.reduceEq, Int.reduceLT, Int.reduceLE, Nat.reduceLT, Nat.lt_irrefl, Nat.reduceBEq, tys0, tys1, tys2, tys3, tys4, tys5, tys6, tys7, tys8, tys9, tys10, tys11, tys12, tys13, tys14, tys15, tys16, tys17, tys18, tys19, tys20, tys21, tys22, tys23, Try.ntmps57, Try.results57]
  refine Rg.split (fun h => ?_) (fun h => ?_) <;> simp only [run0, run1, run2, run3, run4, run5, run6, run7, run8, run9, run10, run11, run12, run13, run14, run15, run16, run17, run18, run19, run20, run21, run22, reduceCtorEq, Nat.reduceEqDiff, Nat.reduceAdd, Nat.reduceSub, Nat.reduceLeDiff, indexAddrA, indexRefA, appendA, strA, Nat.reduceMul, Nat.zero_mul, Nat.reduceMod, Int.reduceEq, Int.reduceLT, Int.reduceLE, Nat.reduceLT, Nat.lt_irrefl, Nat.reduceBEq, tys0, tys1, tys2, tys3, tys4, tys5, tys6, tys7, tys8, tys9, tys10, tys11, tys12, tys13, tys14, tys15, tys16, tys17, tys18, tys19, tys20, tys21, tys22, tys23, Try.ntmps57, Try.results57, h] <;> exact Fin.eq (by simp [inB, h]) rfl
theorem l1In_ok (n lo hi : Int) : Ct Try.prog 65 [.int .i64 n, .int .i64 lo, .int .i64 hi] [] (.bool (inB n lo hi)) [] := by
  refine Ct.by_ hmix [] Try.func65 rfl ?_
  simp only [run0, run1, run2, run3, run4, run5, run6, run7, run8, run9, run10, run11, run12, run13, run14, run15, run16, run17, run18, run19, run20, run21, run22, reduceCtorEq, Nat.reduceEqDiff, Nat.reduceAdd, Nat.reduceSub, Nat.reduceLeDiff, indexAddrA, indexRefA, appendA, strA, Nat.reduceMul, Nat.zero_mul, Nat.reduceMod, Int.reduceEq, Int.reduceLT, Int.reduceLE, Nat.reduceLT, Nat.lt_irrefl, Nat.reduceBEq, tys0, tys1, tys2, tys3, tys4, tys5, tys6, tys7, tys8, tys9, tys10, tys11, tys12, tys13, tys14, tys15, tys16, tys17, tys18, tys19, tys20, tys21, tys22, tys23, Try.ntmps65, Try.results65]
  refine Rg.split (fun h => ?_) (fun h => ?_) <;> simp only [run0, run1, run2, run3, run4, run5, run6, run7, run8, run9, run10, run11, run12, run13, run14, run15, run16, run17, run18, run19, run20, run21, run22, reduceCtorEq, Nat.reduceEqDiff, Nat.reduceAdd, Nat.reduceSub, Nat.reduceLeDiff, indexAddrA, indexRefA, appendA, strA, Nat.reduceMul, Nat.zero_mul, Nat.reduceMod, Int.reduceEq, Int.reduceLT, Int.reduceLE, Nat.reduceLT, Nat.lt_irrefl, Nat.reduceBEq, tys0, tys1, tys2, tys3, tys4, tys5, tys6, tys7, tys8, tys9, tys10, tys11, tys12, tys13, tys14, tys15, tys16, tys17, tys18, tys19, tys20, tys21, tys22, tys23, Try.ntmps65, Try.results65, h] <;> exact Fin.eq (by simp [inB, h]) rfl
theorem compare_ok (a b : Int) : Ct Try.prog 49 [.int .i64 a, .int .i64 b] [] (.int .i64 (cmpI a b)) [] := by
  refine Ct.by_ hmix [] Try.func49 rfl ?_
  simp only [run0, run1, run2, run3, run4, run5, run6, run7, run8, run9, run10, run11, run12, run13, run14, run15, run16, run17, run18, run19, run20, run21, run22, reduceCtorEq, Nat.reduceEqDiff, Nat.reduceAdd, Nat.reduceSub, Nat.reduceLeDiff, indexAddrA, indexRefA, appendA, strA, Nat.reduceMul, Nat.zero_mul, Nat.reduceMod, Int.reduceEq, Int.reduceLT, Int.reduceLE, Nat.reduceLT, Nat.lt_irrefl, Nat.reduceBEq, tys0, tys1, tys2, tys3, tys4, tys5, tys6, tys7, tys8, tys9, tys10, tys11, tys12, tys13, tys14, tys15, tys16, tys17, tys18, tys19, tys20, tys21, tys22, tys23, Try.ntmps49, Try.results49]
  refine Wc.split (fun h => ?_) (fun h => ?_) <;> simp only [run0, run1, run2, run3, run4, run5, run6, run7, run8, run9, run10, run11, run12, run13, run14, run15, run16, run17, run18, run19, run20, run21, run22, reduceCtorEq, Nat.reduceEqDiff, Nat.reduceAdd, Nat.reduceSub, Nat.reduceLeDiff, indexAddrA, indexRefA, appendA, strA, Nat.reduceMul, Nat.zero_mul, Nat.reduceMod, Int.reduceEq, Int.reduceLT, Int.reduceLE, Nat.reduceLT, Nat.lt_irrefl, Nat.reduceBEq, tys0, tys1, tys2, tys3, tys4, tys5, tys6, tys7, tys8, tys9, tys10, tys11, tys12, tys13, tys14, tys15, tys16, tys17, tys18, tys19, tys20, tys21, tys22, tys23, Try.ntmps49, Try.results49, h]
  · simp at h; exact Fin.eq (by simp [cmpI]; omega) rfl
  · refine Wc.split (fun h2 => ?_) (fun h2 => ?_) <;> simp only [run0, run1, run2, run3, run4, run5, run6, run7, run8, run9, run10, run11, run12, run13, run14, run15, run16, run17, run18, run19, run20, run21, run22, reduceCtorEq, Nat.reduceEqDiff, Nat.reduceAdd, Nat.reduceSub, Nat.reduceLeDiff, indexAddrA, indexRefA, appendA, strA, Nat.reduceMul, Nat.zero_mul, Nat.reduceMod, Int.reduceEq, Int.reduceLT, Int.reduceLE, Nat.reduceLT, Nat.lt_irrefl, Nat.reduceBEq, tys0, tys1, tys2, tys3, tys4, tys5, tys6, tys7, tys8, tys9, tys10, tys11, tys12, tys13, tys14, tys15, tys16, tys17, tys18, tys19, tys20, tys21, tys22, tys23, Try.ntmps49, Try.results49, h2] <;> simp at h h2 <;> exact Fin.eq (by simp [cmpI]; omega) rfl
theorem l1Sign_ok (a : Int) : Ct Try.prog 44 [.int .i64 a] [] (.int .i64 (cmpI a 0)) [] := by
  refine Ct.by_ hmix [] Try.func44 rfl ?_
  simp only [run0, run1, run2, run3, run4, run5, run6, run7, run8, run9, run10, run11, run12, run13, run14, run15, run16, run17, run18, run19, run20, run21, run22, reduceCtorEq, Nat.reduceEqDiff, Nat.reduceAdd, Nat.reduceSub, Nat.reduceLeDiff, indexAddrA, indexRefA, appendA, strA, Nat.reduceMul, Nat.zero_mul, Nat.reduceMod, Int.reduceEq, Int.reduceLT, Int.reduceLE, Nat.reduceLT, Nat.lt_irrefl, Nat.reduceBEq, tys0, tys1, tys2, tys3, tys4, tys5, tys6, tys7, tys8, tys9, tys10, tys11, tys12, tys13, tys14, tys15, tys16, tys17, tys18, tys19, tys20, tys21, tys22, tys23, Try.ntmps44, Try.results44]
  refine Wc.split (fun h => ?_) (fun h => ?_) <;> simp only [run0, run1, run2, run3, run4, run5, run6, run7, run8, run9, run10, run11, run12, run13, run14, run15, run16, run17, run18, run19, run20, run21, run22, reduceCtorEq, Nat.reduceEqDiff, Nat.reduceAdd, Nat.reduceSub, Nat.reduceLeDiff, indexAddrA, indexRefA, appendA, strA, Nat.reduceMul, Nat.zero_mul, Nat.reduceMod, Int.reduceEq, Int.reduceLT, Int.reduceLE, Nat.reduceLT, Nat.lt_irrefl, Nat.reduceBEq, tys0, tys1, tys2, tys3, tys4, tys5, tys6, tys7, tys8, tys9, tys10, tys11, tys12, tys13, tys14, tys15, tys16, tys17, tys18, tys19, tys20, tys21, tys22, tys23, Try.ntmps44, Try.results44, h]
  · simp at h; exact Fin.eq (by simp [cmpI]; omega) rfl
  · refine Wc.split (fun h2 => ?_) (fun h2 => ?_) <;> simp only [run0, run1, run2, run3, run4, run5, run6, run7, run8, run9, run10, run11, run12, run13, run14, run15, run16, run17, run18, run19, run20, run21, run22, reduceCtorEq, Nat.reduceEqDiff, Nat.reduceAdd, Nat.reduceSub, Nat.reduceLeDiff, indexAddrA, indexRefA, appendA, strA, Nat.reduceMul, Nat.zero_mul, Nat.reduceMod, Int.reduceEq, Int.reduceLT, Int.reduceLE, Nat.reduceLT, Nat.lt_irrefl, Nat.reduceBEq, tys0, tys1, tys2, tys3, tys4, tys5, tys6, tys7, tys8, tys9, tys10, tys11, tys12, tys13, tys14, tys15, tys16, tys17, tys18, tys19, tys20, tys21, tys22, tys23, Try.ntmps44, Try.results44, h2] <;> simp at h h2 <;> exact Fin.eq (by simp [cmpI]; omega) rfl

theorem rng_app : ∀ {d r : Od}, rng (d.app r) → rng r
  | .nil, r, h => h
  | .cons e c d, r, h => rng_app (d := d) h.2.2.2
theorem cmpI_sub {c c' : Int} : cmpI (c - c') 0 = cmpI c c' := by unfold cmpI; omega

theorem odCmp_ok (a b : Od) (ha : a.sz ≤ 1048576) (hb : b.sz ≤ 1048576) (ra : rng a) (rb : rng b) : Ct Try.prog 66 [av a, av b] [] (.int .i64 (cmpT a b)) [] := by
  refine Ct.by_ hmix [] Try.func66 rfl ?_
  simp only [run0, run1, run2, run3, run4, run5, run6, run7, run8, run9, run10, run11, run12, run13, run14, run15, run16, run17, run18, run19, run20, run21, run22, reduceCtorEq, Nat.reduceEqDiff, Nat.reduceAdd, Nat.reduceSub, Nat.reduceLeDiff, indexAddrA, indexRefA, appendA, strA, Nat.reduceMul, Nat.zero_mul, Nat.reduceMod, Int.reduceEq, Int.reduceLT, Int.reduceLE, Nat.reduceLT, Nat.lt_irrefl, Nat.reduceBEq, tys0, tys1, tys2, tys3, tys4, tys5, tys6, tys7, tys8, tys9, tys10, tys11, tys12, tys13, tys14, tys15, tys16, tys17, tys18, tys19, tys20, tys21, tys22, tys23, Try.ntmps66, Try.results66, av, elems_length]
  refine AWp.loop_inv (ι := (Od × Od) × (Od × Od) × List AObj) (fun p => ⟨[.agg [.sl false (elems a)], .agg [.sl false (elems b)], .ptr 0 0, .ptr 1 0, .int .i64 0, .junk, .junk, .junk, .junk, .sl false (elems a), .int .i64 a.len, .int .i64 p.1.1.len, .junk, .junk, .junk, .junk, .junk, .junk, .junk, .junk, .junk, .junk, .junk, .junk, .junk, .junk, .junk, .junk, .junk, .junk, .junk, .junk, .junk, .junk, .junk, .junk, .junk, .junk, .junk, .junk, .junk, .junk, .junk, .junk, .junk, .junk, .junk, .junk, .junk, .junk, .junk, .junk, .junk, .junk, .junk, .junk, .junk, .junk, .junk, .junk], .box 50 [.sl false (elems a)] :: .box 50 [.sl false (elems b)] :: p.2.2⟩)
    (fun p => a = p.1.1.app p.1.2 ∧ b = p.2.1.1.app p.2.1.2 ∧ p.1.1.len = p.2.1.1.len ∧ cmpT p.1.2 p.2.1.2 = cmpT a b) (fun p => p.1.2.len) ((.nil, a), (.nil, b), []) ⟨rfl, rfl, rfl, rfl⟩ ⟨by simp only [len, Int.natCast_zero]; repeat constructor, rfl⟩ ?_
  rintro ⟨⟨d, r⟩, ⟨d', r'⟩, X⟩ ⟨h1, h2, h3, h4⟩
  refine W.sound hmix (E := []) ?_
  simp only at h1 h2 h3 h4
  cases r with
  | nil =>
    obtain ⟨e1, rfl⟩ := od_end h1
    simp only [run0, run1, run2, run3, run4, run5, run6, run7, run8, run9, run10, run11, run12, run13, run14, run15, run16, run17, run18, run19, run20, run21, run22, reduceCtorEq, Nat.reduceEqDiff, Nat.reduceAdd, Nat.reduceSub, Nat.reduceLeDiff, indexAddrA, indexRefA, appendA, strA, Nat.reduceMul, Nat.zero_mul, Nat.reduceMod, Int.reduceEq, Int.reduceLT, Int.reduceLE, Nat.reduceLT, Nat.lt_irrefl, Nat.reduceBEq, tys0, tys1, tys2, tys3, tys4, tys5, tys6, tys7, tys8, tys9, tys10, tys11, tys12, tys13, tys14, tys15, tys16, tys17, tys18, tys19, tys20, tys21, tys22, tys23, Try.ntmps66, Try.results66, elems_length, e1]
    cases r' with
    | nil =>
      obtain ⟨_, rfl⟩ := od_end h2
      have e2 : ¬ ((a.len : Int) < (b.len : Int)) := by omega
      simp only [run0, run1, run2, run3, run4, run5, run6, run7, run8, run9, run10, run11, run12, run13, run14, run15, run16, run17, run18, run19, run20, run21, run22, reduceCtorEq, Nat.reduceEqDiff, Nat.reduceAdd, Nat.reduceSub, Nat.reduceLeDiff, indexAddrA, indexRefA, appendA, strA, Nat.reduceMul, Nat.zero_mul, Nat.reduceMod, Int.reduceEq, Int.reduceLT, Int.reduceLE, Nat.reduceLT, Nat.lt_irrefl, Nat.reduceBEq, tys0, tys1, tys2, tys3, tys4, tys5, tys6, tys7, tys8, tys9, tys10, tys11, tys12, tys13, tys14, tys15, tys16, tys17, tys18, tys19, tys20, tys21, tys22, tys23, Try.ntmps66, Try.results66, elems_length, e2]
      exact Fin.eq (by rw [← h4]; rfl) rfl
    | cons e' c' r' =>
      have e2 := (od_step h2 hb).1
      rw [← h3] at e2
      simp only [run0, run1, run2, run3, run4, run5, run6, run7, run8, run9, run10, run11, run12, run13, run14, run15, run16, run17, run18, run19, run20, run21, run22, reduceCtorEq, Nat.reduceEqDiff, Nat.reduceAdd, Nat.reduceSub, Nat.reduceLeDiff, indexAddrA, indexRefA, appendA, strA, Nat.reduceMul, Nat.zero_mul, Nat.reduceMod, Int.reduceEq, Int.reduceLT, Int.reduceLE, Nat.reduceLT, Nat.lt_irrefl, Nat.reduceBEq, tys0, tys1, tys2, tys3, tys4, tys5, tys6, tys7, tys8, tys9, tys10, tys11, tys12, tys13, tys14, tys15, tys16, tys17, tys18, tys19, tys20, tys21, tys22, tys23, Try.ntmps66, Try.results66, elems_length, e2]
      exact Fin.eq (by rw [← h4]; rfl) rfl
  | cons e c r =>
    obtain ⟨e1, e2, e5, hlt, hn, _⟩ := od_step h1 ha
    rw [h1] at ra
    have ra := rng_app ra
    cases r' with
    | nil =>
      obtain ⟨_, rfl⟩ := od_end h2
      have e3 : ((d.len : Int) == (b.len : Int)) = true := by simp; omega
      simp only [run0, run1, run2, run3, run4, run5, run6, run7, run8, run9, run10, run11, run12, run13, run14, run15, run16, run17, run18, run19, run20, run21, run22, reduceCtorEq, Nat.reduceEqDiff, Nat.reduceAdd, Nat.reduceSub, Nat.reduceLeDiff, indexAddrA, indexRefA, appendA, strA, Nat.reduceMul, Nat.zero_mul, Nat.reduceMod, Int.reduceEq, Int.reduceLT, Int.reduceLE, Nat.reduceLT, Nat.lt_irrefl, Nat.reduceBEq, tys0, tys1, tys2, tys3, tys4, tys5, tys6, tys7, tys8, tys9, tys10, tys11, tys12, tys13, tys14, tys15, tys16, tys17, tys18, tys19, tys20, tys21, tys22, tys23, Try.ntmps66, Try.results66, elems_length, e1, e2, e3, Int.toNat_natCast, Int.natCast_nonneg]
      exact Fin.eq (by rw [← h4]; rfl) rfl
    | cons e' c' r' =>
      obtain ⟨f1, f2, f5, hlt', hn', _⟩ := od_step h2 hb
      rw [h2] at rb
      have rb := rng_app rb
      rw [← h3] at f1 f2
      have e3 : ((d.len : Int) == (b.len : Int)) = false := by simp; omega
      have hw : IntKind.i64.wrap (c - c') = c - c' := w64_id (by have := ra.1; have := rb.2.1; omega) (by have := ra.2.1; have := rb.1; omega)
      simp only [run0, run1, run2, run3, run4, run5, run6, run7, run8, run9, run10, run11, run12, run13, run14, run15, run16, run17, run18, run19, run20, run21, run22, reduceCtorEq, Nat.reduceEqDiff, Nat.reduceAdd, Nat.reduceSub, Nat.reduceLeDiff, indexAddrA, indexRefA, appendA, strA, Nat.reduceMul, Nat.zero_mul, Nat.reduceMod, Int.reduceEq, Int.reduceLT, Int.reduceLE, Nat.reduceLT, Nat.lt_irrefl, Nat.reduceBEq, tys0, tys1, tys2, tys3, tys4, tys5, tys6, tys7, tys8, tys9, tys10, tys11, tys12, tys13, tys14, tys15, tys16, tys17, tys18, tys19, tys20, tys21, tys22, tys23, Try.ntmps66, Try.results66, elems_length, e1, e2, e3, f2, Int.toNat_natCast, Int.natCast_nonneg]
      refine ⟨by kernel_rfl, ?_⟩
      refine RunL.callp rfl rfl ok_f66 (odCmp_ok e e' (by omega) (by omega) ra.2.2.1 rb.2.2.1) (by first | rfl | simp only [pureL, pureB, Bool.and_self, Bool.and_true, Bool.true_and, Od.elems_pure, Od.pay_pure, Od.av_pure]) rfl ?_
      simp only [run0, run1, run2, run3, run4, run5, run6, run7, run8, run9, run10, run11, run12, run13, run14, run15, run16, run17, run18, run19, run20, run21, run22, reduceCtorEq, Nat.reduceEqDiff, Nat.reduceAdd, Nat.reduceSub, Nat.reduceLeDiff, indexAddrA, indexRefA, appendA, strA, Nat.reduceMul, Nat.zero_mul, Nat.reduceMod, Int.reduceEq, Int.reduceLT, Int.reduceLE, Nat.reduceLT, Nat.lt_irrefl, Nat.reduceBEq, tys0, tys1, tys2, tys3, tys4, tys5, tys6, tys7, tys8, tys9, tys10, tys11, tys12, tys13, tys14, tys15, tys16, tys17, tys18, tys19, tys20, tys21, tys22, tys23, Try.ntmps66, Try.results66, elems_length, e1, e2, e3, f2, Int.toNat_natCast, Int.natCast_nonneg]
      rw [cmpT_cons] at h4
      by_cases q : cmpT e e' = 0
      · simp only [q, ne_eq, not_true_eq_false, if_false] at h4
        have q1 : (cmpT e e' != 0) = false := by simp [q]
        simp only [run0, run1, run2, run3, run4, run5, run6, run7, run8, run9, run10, run11, run12, run13, run14, run15, run16, run17, run18, run19, run20, run21, run22, reduceCtorEq, Nat.reduceEqDiff, Nat.reduceAdd, Nat.reduceSub, Nat.reduceLeDiff, indexAddrA, indexRefA, appendA, strA, Nat.reduceMul, Nat.zero_mul, Nat.reduceMod, Int.reduceEq, Int.reduceLT, Int.reduceLE, Nat.reduceLT, Nat.lt_irrefl, Nat.reduceBEq, tys0, tys1, tys2, tys3, tys4, tys5, tys6, tys7, tys8, tys9, tys10, tys11, tys12, tys13, tys14, tys15, tys16, tys17, tys18, tys19, tys20, tys21, tys22, tys23, Try.ntmps66, Try.results66, elems_length, q1, f2, Int.toNat_natCast, Int.natCast_nonneg]
        refine ⟨by kernel_rfl, ?_⟩
        by_cases qc : c = c'
        · subst qc
          simp only [ne_eq, not_true_eq_false, if_false] at h4
          simp only [run0, run1, run2, run3, run4, run5, run6, run7, run8, run9, run10, run11, run12, run13, run14, run15, run16, run17, run18, run19, run20, run21, run22, reduceCtorEq, Nat.reduceEqDiff, Nat.reduceAdd, Nat.reduceSub, Nat.reduceLeDiff, indexAddrA, indexRefA, appendA, strA, Nat.reduceMul, Nat.zero_mul, Nat.reduceMod, Int.reduceEq, Int.reduceLT, Int.reduceLE, Nat.reduceLT, Nat.lt_irrefl, Nat.reduceBEq, tys0, tys1, tys2, tys3, tys4, tys5, tys6, tys7, tys8, tys9, tys10, tys11, tys12, tys13, tys14, tys15, tys16, tys17, tys18, tys19, tys20, tys21, tys22, tys23, Try.ntmps66, Try.results66, bne_self_eq_false, e5]
          exact ⟨((d.app (cons e c nil), r), (d'.app (cons e' c nil), r'), _), ⟨hn.symm, hn'.symm, by simp only [len_app, len, h3], h4⟩, by simp [len], by repeat constructor, rfl⟩
        · simp only [qc, ne_eq, not_false_eq_true, if_true] at h4
          have q2 : (c != c') = true := by simp [qc]
          simp only [run0, run1, run2, run3, run4, run5, run6, run7, run8, run9, run10, run11, run12, run13, run14, run15, run16, run17, run18, run19, run20, run21, run22, reduceCtorEq, Nat.reduceEqDiff, Nat.reduceAdd, Nat.reduceSub, Nat.reduceLeDiff, indexAddrA, indexRefA, appendA, strA, Nat.reduceMul, Nat.zero_mul, Nat.reduceMod, Int.reduceEq, Int.reduceLT, Int.reduceLE, Nat.reduceLT, Nat.lt_irrefl, Nat.reduceBEq, tys0, tys1, tys2, tys3, tys4, tys5, tys6, tys7, tys8, tys9, tys10, tys11, tys12, tys13, tys14, tys15, tys16, tys17, tys18, tys19, tys20, tys21, tys22, tys23, Try.ntmps66, Try.results66, q2, f2, hw, Int.toNat_natCast, Int.natCast_nonneg]
          refine ⟨by kernel_rfl, ?_⟩
          refine RunL.callp rfl rfl ok_f44 (l1Sign_ok (c - c')) (by first | rfl | simp only [pureL, pureB, Bool.and_self, Bool.and_true, Bool.true_and, Od.elems_pure, Od.pay_pure, Od.av_pure]) rfl ?_
          simp only [run0, run1, run2, run3, run4, run5, run6, run7, run8, run9, run10, run11, run12, run13, run14, run15, run16, run17, run18, run19, run20, run21, run22, reduceCtorEq, Nat.reduceEqDiff, Nat.reduceAdd, Nat.reduceSub, Nat.reduceLeDiff, indexAddrA, indexRefA, appendA, strA, Nat.reduceMul, Nat.zero_mul, Nat.reduceMod, Int.reduceEq, Int.reduceLT, Int.reduceLE, Nat.reduceLT, Nat.lt_irrefl, Nat.reduceBEq, tys0, tys1, tys2, tys3, tys4, tys5, tys6, tys7, tys8, tys9, tys10, tys11, tys12, tys13, tys14, tys15, tys16, tys17, tys18, tys19, tys20, tys21, tys22, tys23, Try.ntmps66, Try.results66]
          exact Fin.eq (by rw [cmpI_sub, h4]) rfl
      · simp only [q, ne_eq, not_false_eq_true, if_true] at h4
        have q1 : (cmpT e e' != 0) = true := by simp [q]
        simp only [run0, run1, run2, run3, run4, run5, run6, run7, run8, run9, run10, run11, run12, run13, run14, run15, run16, run17, run18, run19, run20, run21, run22, reduceCtorEq, Nat.reduceEqDiff, Nat.reduceAdd, Nat.reduceSub, Nat.reduceLeDiff, indexAddrA, indexRefA, appendA, strA, Nat.reduceMul, Nat.zero_mul, Nat.reduceMod, Int.reduceEq, Int.reduceLT, Int.reduceLE, Nat.reduceLT, Nat.lt_irrefl, Nat.reduceBEq, tys0, tys1, tys2, tys3, tys4, tys5, tys6, tys7, tys8, tys9, tys10, tys11, tys12, tys13, tys14, tys15, tys16, tys17, tys18, tys19, tys20, tys21, tys22, tys23, Try.ntmps66, Try.results66, q1]
        exact Fin.eq (by rw [h4]) rfl
termination_by a.sz

end Go.Proofs.Ytminjhhabonjaaa
