/-
  Surreals: parts.
-/
import Derived.Test.YtfblibmibaiagaaS18
namespace Go.Proofs.Ytfblibmibaiagaa
open Go K Su
set_option linter.unusedSimpArgs false
set_option linter.unusedVariables false
set_option maxHeartbeats 1600000

/-- The infinite, the infinitesimal and the real part. -/
def hiT : Su → Su
  | .nil => .nil
  | .cons e c r => if 0 < cmpT e .nil then .cons e c (hiT r) else hiT r
def loT : Su → Su
  | .nil => .nil
  | .cons e c r => if cmpT e .nil < 0 then .cons e c (loT r) else loT r
def reT : Su → Int × Int → Int × Int
  | .nil, k => k
  | .cons e c r, k => reT r (if cmpT e .nil = 0 then c else k)
theorem hiT_app : ∀ d r : Su, hiT (d.app r) = (hiT d).app (hiT r)
  | .nil, r => rfl
  | .cons e c d, r => by
    simp only [hiT, app, hiT_app d r]
    split <;> rfl
theorem loT_app : ∀ d r : Su, loT (d.app r) = (loT d).app (loT r)
  | .nil, r => rfl
  | .cons e c d, r => by
    simp only [loT, app, loT_app d r]
    split <;> rfl
theorem reT_app : ∀ (d r : Su) (k : Int × Int), reT (d.app r) k = reT r (reT d k)
  | .nil, r, k => rfl
  | .cons e c d, r, k => by simp only [reT, app, reT_app d r]
theorem hiT_sz : ∀ a : Su, (hiT a).sz ≤ a.sz
  | .nil => Nat.le_refl _
  | .cons e c r => by
    have := hiT_sz r
    unfold hiT
    split <;> simp only [sz] <;> omega
theorem loT_sz : ∀ a : Su, (loT a).sz ≤ a.sz
  | .nil => Nat.le_refl _
  | .cons e c r => by
    have := loT_sz r
    unfold loT
    split <;> simp only [sz] <;> omega


theorem implParts_ok (a : Su) (ha : a.sz ≤ 1048576) (ra : rng a) : Ct Try.prog 65 [av a] [] (.tup [av (hiT a), fr (reT a (0, 1)).1 (reT a (0, 1)).2, av (loT a)]) [] := by
  have hla := len_le a
  refine Ct.by_ hmix [ 8000000, 5999999, 6000001, 6000002, 7000002, 7000003] Try.func65 rfl ?_
  simp only [run0, run1, run2, run3, run4, run5, run6, run7, run8, run9, run10, run11, run12, run13, run14, run15, run16, run17, run18, run19, run20, run21, run22, reduceCtorEq, Nat.reduceEqDiff, Nat.reduceAdd, Nat.reduceSub, Nat.reduceLeDiff, indexAddrA, indexRefA, appendA, strA, Nat.reduceMul, Nat.zero_mul, Nat.reduceMod, Int.reduceEq, Int.reduceLT, Int.reduceLE, Nat.reduceLT, Nat.lt_irrefl, Nat.reduceBEq, tys0, tys1, tys2, tys3, tys4, tys5, tys6, tys7, tys8, tys9, tys10, tys11, tys12, tys13, tys14, tys15, tys16, tys17, Try.ntmps65, Try.results65, av, elems_length]
  refine RunL.callp rfl rfl ok_f74 (whole_ok 0) (by first | rfl | simp only [pureL, pureB, Bool.and_self, Bool.and_true, Bool.true_and, Su.elems_pure, Su.pay_pure, Su.av_pure]) rfl ?_
  simp only [run0, run1, run2, run3, run4, run5, run6, run7, run8, run9, run10, run11, run12, run13, run14, run15, run16, run17, run18, run19, run20, run21, run22, reduceCtorEq, Nat.reduceEqDiff, Nat.reduceAdd, Nat.reduceSub, Nat.reduceLeDiff, indexAddrA, indexRefA, appendA, strA, Nat.reduceMul, Nat.zero_mul, Nat.reduceMod, Int.reduceEq, Int.reduceLT, Int.reduceLE, Nat.reduceLT, Nat.lt_irrefl, Nat.reduceBEq, tys0, tys1, tys2, tys3, tys4, tys5, tys6, tys7, tys8, tys9, tys10, tys11, tys12, tys13, tys14, tys15, tys16, tys17, Try.ntmps65, Try.results65, fr, elems_length]
  refine AWp.nilB 4 0 76 3 rfl rfl ?_
  refine AWp.nilB 6 0 76 3 rfl rfl ?_
  refine AWp.loop_inv (ι := Su × Su × List AObj) (fun p => ⟨[.agg [.sl false (elems a)], .ptr 0 0, .ptr 1 0, .ptr 2 0, .ptr 3 0, .ptr 4 0, .ptr 5 0, .ptr 6 0, .junk, .junk, .junk, .junk, .junk, .junk, .sl false (elems a), .int .i64 a.len, .int .i64 p.1.len, .junk, .junk, .junk, .junk, .junk, .junk, .junk, .junk, .junk, .junk, .junk, .junk, .junk, .junk, .junk, .junk, .junk, .junk, .junk, .junk, .junk, .junk, .junk, .junk, .junk, .junk, .junk, .junk, .junk],
      .box 26 [.sl false (elems a)] :: .box 26 [nilV] :: .box 29 [.int .i64 0, .int .i64 0] :: .box 26 [nilV] :: .box 26 [.ref 7 [] (hiT p.1).len (hiT p.1).len] :: .box 29 [.int .i64 (reT p.1 (0, 1)).1, .int .i64 (reT p.1 (0, 1)).2] :: .box 26 [.ref 8 [] (loT p.1).len (loT p.1).len] :: .vec 76 3 (hiT p.1).len (elems (hiT p.1)) :: .vec 76 3 (loT p.1).len (elems (loT p.1)) :: p.2.2⟩)
    (fun p => a = p.1.app p.2.1) (fun p => p.2.1.len) (.nil, a, []) rfl ⟨by simp only [len, Int.natCast_zero]; repeat constructor, rfl⟩ ?_
  rintro ⟨d, r, X⟩ h1
  simp only at h1
  refine W.sound hmix (E := [8000000, 5999999, 6000001, 6000002, 7000002, 7000003]) ?_
  have hdl : d.sz ≤ a.sz := by rw [h1, sz_app]; omega
  have hh := hiT_sz d
  have hl := loT_sz d
  have hh2 := len_le (hiT d)
  have hl2 := len_le (loT d)
  have f3 : (hiT d).len + 1 ≤ 137438953472 := by omega
  have f4 := elems_noOwn (hiT d)
  have f5 : (loT d).len + 1 ≤ 137438953472 := by omega
  have f6 := elems_noOwn (loT d)
  cases r with
  | nil =>
    obtain ⟨e1, rfl⟩ := od_end h1
    simp only [run0, run1, run2, run3, run4, run5, run6, run7, run8, run9, run10, run11, run12, run13, run14, run15, run16, run17, run18, run19, run20, run21, run22, reduceCtorEq, Nat.reduceEqDiff, Nat.reduceAdd, Nat.reduceSub, Nat.reduceLeDiff, indexAddrA, indexRefA, appendA, strA, Nat.reduceMul, Nat.zero_mul, Nat.reduceMod, Int.reduceEq, Int.reduceLT, Int.reduceLE, Nat.reduceLT, Nat.lt_irrefl, Nat.reduceBEq, tys0, tys1, tys2, tys3, tys4, tys5, tys6, tys7, tys8, tys9, tys10, tys11, tys12, tys13, tys14, tys15, tys16, tys17, Try.ntmps65, Try.results65, elems_length, e1]
    refine ⟨[0,1,2,3,4,5], by kernel_rfl, ?_⟩
    simp only [run0, run1, run2, run3, run4, run5, run6, run7, run8, run9, run10, run11, run12, run13, run14, run15, run16, run17, run18, run19, run20, run21, run22, reduceCtorEq, Nat.reduceEqDiff, Nat.reduceAdd, Nat.reduceSub, Nat.reduceLeDiff, indexAddrA, indexRefA, appendA, strA, Nat.reduceMul, Nat.zero_mul, Nat.reduceMod, Int.reduceEq, Int.reduceLT, Int.reduceLE, Nat.reduceLT, Nat.lt_irrefl, Nat.reduceBEq, tys0, tys1, tys2, tys3, tys4, tys5, tys6, tys7, tys8, tys9, tys10, tys11, tys12, tys13, tys14, tys15, tys16, tys17, Try.ntmps65, Try.results65]
    exact Fin.value (Vw.tup (.cons (Vw.agg (.cons (Vw_elems (T := 76) rfl rfl rfl) .nil)) (.cons (Vw.pur (.of rfl)) (.cons (Vw.agg (.cons (Vw_elems (T := 76) rfl rfl rfl) .nil)) .nil))))
  | cons e c r =>
    obtain ⟨e1, e2, e5, hlt, hn, _⟩ := od_step h1 ha
    rw [h1] at ra
    have ra := rng_app ra
    have hrg := cmpT_range e .nil
    have k1 : hiT (d.app (cons e c nil)) = if 0 < cmpT e .nil then (hiT d).app (cons e c nil) else hiT d := by
      rw [hiT_app]; simp only [hiT]; split
      · rfl
      · exact app_nil _
    have k2 : loT (d.app (cons e c nil)) = if cmpT e .nil < 0 then (loT d).app (cons e c nil) else loT d := by
      rw [loT_app]; simp only [loT]; split
      · rfl
      · exact app_nil _
    have k3 : reT (d.app (cons e c nil)) (0, 1) = if cmpT e .nil = 0 then c else reT d (0, 1) := by rw [reT_app]; simp only [reT]
    have hcm := Ct.weak (cmp_ok e .nil (by omega) (by simp [sz]) ra.2.1 trivial) fun γ vs => args_nil1
    simp only [nilV] at hcm
    simp only [run0, run1, run2, run3, run4, run5, run6, run7, run8, run9, run10, run11, run12, run13, run14, run15, run16, run17, run18, run19, run20, run21, run22, reduceCtorEq, Nat.reduceEqDiff, Nat.reduceAdd, Nat.reduceSub, Nat.reduceLeDiff, indexAddrA, indexRefA, appendA, strA, Nat.reduceMul, Nat.zero_mul, Nat.reduceMod, Int.reduceEq, Int.reduceLT, Int.reduceLE, Nat.reduceLT, Nat.lt_irrefl, Nat.reduceBEq, tys0, tys1, tys2, tys3, tys4, tys5, tys6, tys7, tys8, tys9, tys10, tys11, tys12, tys13, tys14, tys15, tys16, tys17, Try.ntmps65, Try.results65, elems_length, e1, e2, Int.toNat_natCast, Int.natCast_nonneg]
    refine RunL.callp rfl rfl ok_f60 (hcm) (by first | rfl | simp only [pureL, pureB, Bool.and_self, Bool.and_true, Bool.true_and, Su.elems_pure, Su.pay_pure, Su.av_pure]) rfl ?_
    rcases Int.lt_trichotomy (cmpT e .nil) 0 with q | q | q
    · have q1 : (cmpT e .nil == 1) = false := by simp; omega
      have q2 : (cmpT e .nil == 0) = false := by simp; omega
      rw [if_neg (by omega)] at k1
      rw [if_pos q] at k2
      rw [if_neg (by omega)] at k3
      simp only [run0, run1, run2, run3, run4, run5, run6, run7, run8, run9, run10, run11, run12, run13, run14, run15, run16, run17, run18, run19, run20, run21, run22, reduceCtorEq, Nat.reduceEqDiff, Nat.reduceAdd, Nat.reduceSub, Nat.reduceLeDiff, indexAddrA, indexRefA, appendA, strA, Nat.reduceMul, Nat.zero_mul, Nat.reduceMod, Int.reduceEq, Int.reduceLT, Int.reduceLE, Nat.reduceLT, Nat.lt_irrefl, Nat.reduceBEq, tys0, tys1, tys2, tys3, tys4, tys5, tys6, tys7, tys8, tys9, tys10, tys11, tys12, tys13, tys14, tys15, tys16, tys17, Try.ntmps65, Try.results65, q1, q2, f5, f6, e5, elems_length]
      exact ⟨(d.app (cons e c nil), r, X ++ [.box 76 [.sl false (elems e), .int .i64 c.1, .int .i64 c.2]]), hn.symm, by simp [len], by simp only [k1, k2, k3, len_app, len]; repeat constructor, by simp only [k1, k2, k3, len_app, len, elems_app, elems, pay, List.cons_append, Nat.zero_add]⟩
    · have q1 : (cmpT e .nil == 1) = false := by simp; omega
      have q2 : (cmpT e .nil == 0) = true := by simp; omega
      rw [if_neg (by omega)] at k1
      rw [if_neg (by omega)] at k2
      rw [if_pos q] at k3
      simp only [run0, run1, run2, run3, run4, run5, run6, run7, run8, run9, run10, run11, run12, run13, run14, run15, run16, run17, run18, run19, run20, run21, run22, reduceCtorEq, Nat.reduceEqDiff, Nat.reduceAdd, Nat.reduceSub, Nat.reduceLeDiff, indexAddrA, indexRefA, appendA, strA, Nat.reduceMul, Nat.zero_mul, Nat.reduceMod, Int.reduceEq, Int.reduceLT, Int.reduceLE, Nat.reduceLT, Nat.lt_irrefl, Nat.reduceBEq, tys0, tys1, tys2, tys3, tys4, tys5, tys6, tys7, tys8, tys9, tys10, tys11, tys12, tys13, tys14, tys15, tys16, tys17, Try.ntmps65, Try.results65, q1, q2, e5]
      exact ⟨(d.app (cons e c nil), r, X ++ [.box 76 [.sl false (elems e), .int .i64 c.1, .int .i64 c.2]]), hn.symm, by simp [len], by simp only [k1, k2, k3, len_app, len]; repeat constructor, by simp only [k1, k2, k3, len_app, len, elems_app, elems, pay, List.cons_append, Nat.zero_add]⟩
    · have q1 : (cmpT e .nil == 1) = true := by simp; omega
      rw [if_pos q] at k1
      rw [if_neg (by omega)] at k2
      rw [if_neg (by omega)] at k3
      simp only [run0, run1, run2, run3, run4, run5, run6, run7, run8, run9, run10, run11, run12, run13, run14, run15, run16, run17, run18, run19, run20, run21, run22, reduceCtorEq, Nat.reduceEqDiff, Nat.reduceAdd, Nat.reduceSub, Nat.reduceLeDiff, indexAddrA, indexRefA, appendA, strA, Nat.reduceMul, Nat.zero_mul, Nat.reduceMod, Int.reduceEq, Int.reduceLT, Int.reduceLE, Nat.reduceLT, Nat.lt_irrefl, Nat.reduceBEq, tys0, tys1, tys2, tys3, tys4, tys5, tys6, tys7, tys8, tys9, tys10, tys11, tys12, tys13, tys14, tys15, tys16, tys17, Try.ntmps65, Try.results65, q1, f3, f4, e5, elems_length]
      exact ⟨(d.app (cons e c nil), r, X ++ [.box 76 [.sl false (elems e), .int .i64 c.1, .int .i64 c.2]]), hn.symm, by simp [len], by simp only [k1, k2, k3, len_app, len]; repeat constructor, by simp only [k1, k2, k3, len_app, len, elems_app, elems, pay, List.cons_append, Nat.zero_add]⟩

theorem specParts_ok (a : Su) (ha : a.sz ≤ 1048576) (ra : rng a) : Ct Try.prog 63 [av a] [] (.tup [av (hiT a), fr (reT a (0, 1)).1 (reT a (0, 1)).2, av (loT a)]) [] := by
  have hla := len_le a
  refine Ct.by_ hmix [ 8000000, 5999999, 6000001, 6000002, 7000002, 7000003] Try.func63 rfl ?_
  simp only [run0, run1, run2, run3, run4, run5, run6, run7, run8, run9, run10, run11, run12, run13, run14, run15, run16, run17, run18, run19, run20, run21, run22, reduceCtorEq, Nat.reduceEqDiff, Nat.reduceAdd, Nat.reduceSub, Nat.reduceLeDiff, indexAddrA, indexRefA, appendA, strA, Nat.reduceMul, Nat.zero_mul, Nat.reduceMod, Int.reduceEq, Int.reduceLT, Int.reduceLE, Nat.reduceLT, Nat.lt_irrefl, Nat.reduceBEq, tys0, tys1, tys2, tys3, tys4, tys5, tys6, tys7, tys8, tys9, tys10, tys11, tys12, tys13, tys14, tys15, tys16, tys17, Try.ntmps63, Try.results63, av, elems_length]
  refine RunL.callp rfl rfl ok_f72 (shInt_ok 0) (by first | rfl | simp only [pureL, pureB, Bool.and_self, Bool.and_true, Bool.true_and, Su.elems_pure, Su.pay_pure, Su.av_pure]) rfl ?_
  simp only [run0, run1, run2, run3, run4, run5, run6, run7, run8, run9, run10, run11, run12, run13, run14, run15, run16, run17, run18, run19, run20, run21, run22, reduceCtorEq, Nat.reduceEqDiff, Nat.reduceAdd, Nat.reduceSub, Nat.reduceLeDiff, indexAddrA, indexRefA, appendA, strA, Nat.reduceMul, Nat.zero_mul, Nat.reduceMod, Int.reduceEq, Int.reduceLT, Int.reduceLE, Nat.reduceLT, Nat.lt_irrefl, Nat.reduceBEq, tys0, tys1, tys2, tys3, tys4, tys5, tys6, tys7, tys8, tys9, tys10, tys11, tys12, tys13, tys14, tys15, tys16, tys17, Try.ntmps63, Try.results63, fr, elems_length]
  refine AWp.nilB 4 0 76 3 rfl rfl ?_
  refine AWp.nilB 5 0 76 3 rfl rfl ?_
  refine AWp.loop_inv (ι := Su × Su × List AObj) (fun p => ⟨[.agg [.sl false (elems a)], .ptr 0 0, .ptr 1 0, .ptr 2 0, .ptr 3 0, .ptr 4 0, .ptr 5 0, .ptr 6 0, .junk, .junk, .junk, .junk, .junk, .sl false (elems a), .int .i64 a.len, .int .i64 p.1.len, .junk, .junk, .junk, .junk, .junk, .junk, .junk, .junk, .junk, .junk, .junk, .junk, .junk, .junk, .junk, .junk, .junk, .junk, .junk, .junk, .junk, .junk, .junk, .junk, .junk, .junk, .junk, .junk, .junk, .junk, .junk],
      .box 26 [.sl false (elems a)] :: .box 26 [nilV] :: .box 29 [.int .i64 0, .int .i64 0] :: .box 26 [nilV] :: .box 26 [.ref 7 [] (hiT p.1).len (hiT p.1).len] :: .box 26 [.ref 8 [] (loT p.1).len (loT p.1).len] :: .box 29 [.int .i64 (reT p.1 (0, 1)).1, .int .i64 (reT p.1 (0, 1)).2] :: .vec 76 3 (hiT p.1).len (elems (hiT p.1)) :: .vec 76 3 (loT p.1).len (elems (loT p.1)) :: p.2.2⟩)
    (fun p => a = p.1.app p.2.1) (fun p => p.2.1.len) (.nil, a, []) rfl ⟨by simp only [len, Int.natCast_zero]; repeat constructor, rfl⟩ ?_
  rintro ⟨d, r, X⟩ h1
  simp only at h1
  refine W.sound hmix (E := [8000000, 5999999, 6000001, 6000002, 7000002, 7000003]) ?_
  have hdl : d.sz ≤ a.sz := by rw [h1, sz_app]; omega
  have hh := hiT_sz d
  have hl := loT_sz d
  have hh2 := len_le (hiT d)
  have hl2 := len_le (loT d)
  have f3 : (hiT d).len + 1 ≤ 137438953472 := by omega
  have f4 := elems_noOwn (hiT d)
  have f5 : (loT d).len + 1 ≤ 137438953472 := by omega
  have f6 := elems_noOwn (loT d)
  cases r with
  | nil =>
    obtain ⟨e1, rfl⟩ := od_end h1
    simp only [run0, run1, run2, run3, run4, run5, run6, run7, run8, run9, run10, run11, run12, run13, run14, run15, run16, run17, run18, run19, run20, run21, run22, reduceCtorEq, Nat.reduceEqDiff, Nat.reduceAdd, Nat.reduceSub, Nat.reduceLeDiff, indexAddrA, indexRefA, appendA, strA, Nat.reduceMul, Nat.zero_mul, Nat.reduceMod, Int.reduceEq, Int.reduceLT, Int.reduceLE, Nat.reduceLT, Nat.lt_irrefl, Nat.reduceBEq, tys0, tys1, tys2, tys3, tys4, tys5, tys6, tys7, tys8, tys9, tys10, tys11, tys12, tys13, tys14, tys15, tys16, tys17, Try.ntmps63, Try.results63, elems_length, e1]
    refine ⟨[0,1,2,3,4,5], by kernel_rfl, ?_⟩
    simp only [run0, run1, run2, run3, run4, run5, run6, run7, run8, run9, run10, run11, run12, run13, run14, run15, run16, run17, run18, run19, run20, run21, run22, reduceCtorEq, Nat.reduceEqDiff, Nat.reduceAdd, Nat.reduceSub, Nat.reduceLeDiff, indexAddrA, indexRefA, appendA, strA, Nat.reduceMul, Nat.zero_mul, Nat.reduceMod, Int.reduceEq, Int.reduceLT, Int.reduceLE, Nat.reduceLT, Nat.lt_irrefl, Nat.reduceBEq, tys0, tys1, tys2, tys3, tys4, tys5, tys6, tys7, tys8, tys9, tys10, tys11, tys12, tys13, tys14, tys15, tys16, tys17, Try.ntmps63, Try.results63]
    exact Fin.value (Vw.tup (.cons (Vw.agg (.cons (Vw_elems (T := 76) rfl rfl rfl) .nil)) (.cons (Vw.pur (.of rfl)) (.cons (Vw.agg (.cons (Vw_elems (T := 76) rfl rfl rfl) .nil)) .nil))))
  | cons e c r =>
    obtain ⟨e1, e2, e5, hlt, hn, _⟩ := od_step h1 ha
    rw [h1] at ra
    have ra := rng_app ra
    have hrg := cmpT_range e .nil
    have k1 : hiT (d.app (cons e c nil)) = if 0 < cmpT e .nil then (hiT d).app (cons e c nil) else hiT d := by
      rw [hiT_app]; simp only [hiT]; split
      · rfl
      · exact app_nil _
    have k2 : loT (d.app (cons e c nil)) = if cmpT e .nil < 0 then (loT d).app (cons e c nil) else loT d := by
      rw [loT_app]; simp only [loT]; split
      · rfl
      · exact app_nil _
    have k3 : reT (d.app (cons e c nil)) (0, 1) = if cmpT e .nil = 0 then c else reT d (0, 1) := by rw [reT_app]; simp only [reT]
    have hsg : Ct Try.prog 91 [.sl false (elems e)] [] (.int .i64 (cmpT e .nil)) [] := by
      have h := suSign_ok e
      cases e <;> exact h
    simp only [run0, run1, run2, run3, run4, run5, run6, run7, run8, run9, run10, run11, run12, run13, run14, run15, run16, run17, run18, run19, run20, run21, run22, reduceCtorEq, Nat.reduceEqDiff, Nat.reduceAdd, Nat.reduceSub, Nat.reduceLeDiff, indexAddrA, indexRefA, appendA, strA, Nat.reduceMul, Nat.zero_mul, Nat.reduceMod, Int.reduceEq, Int.reduceLT, Int.reduceLE, Nat.reduceLT, Nat.lt_irrefl, Nat.reduceBEq, tys0, tys1, tys2, tys3, tys4, tys5, tys6, tys7, tys8, tys9, tys10, tys11, tys12, tys13, tys14, tys15, tys16, tys17, Try.ntmps63, Try.results63, elems_length, e1, e2, Int.toNat_natCast, Int.natCast_nonneg]
    refine RunL.callp rfl rfl ok_f91 (hsg) (by first | rfl | simp only [pureL, pureB, Bool.and_self, Bool.and_true, Bool.true_and, Su.elems_pure, Su.pay_pure, Su.av_pure]) rfl ?_
    rcases Int.lt_trichotomy (cmpT e .nil) 0 with q | q | q
    · have q1 : ¬ (0 < cmpT e .nil) := by omega
      rw [if_neg (by omega)] at k1
      rw [if_pos q] at k2
      rw [if_neg (by omega)] at k3
      simp only [run0, run1, run2, run3, run4, run5, run6, run7, run8, run9, run10, run11, run12, run13, run14, run15, run16, run17, run18, run19, run20, run21, run22, reduceCtorEq, Nat.reduceEqDiff, Nat.reduceAdd, Nat.reduceSub, Nat.reduceLeDiff, indexAddrA, indexRefA, appendA, strA, Nat.reduceMul, Nat.zero_mul, Nat.reduceMod, Int.reduceEq, Int.reduceLT, Int.reduceLE, Nat.reduceLT, Nat.lt_irrefl, Nat.reduceBEq, tys0, tys1, tys2, tys3, tys4, tys5, tys6, tys7, tys8, tys9, tys10, tys11, tys12, tys13, tys14, tys15, tys16, tys17, Try.ntmps63, Try.results63, q1, q, f5, f6, e5, elems_length]
      exact ⟨(d.app (cons e c nil), r, X ++ [.box 76 [.sl false (elems e), .int .i64 c.1, .int .i64 c.2]]), hn.symm, by simp [len], by simp only [k1, k2, k3, len_app, len]; repeat constructor, by simp only [k1, k2, k3, len_app, len, elems_app, elems, pay, List.cons_append, Nat.zero_add]⟩
    · have q1 : ¬ (0 < cmpT e .nil) := by omega
      have q2 : ¬ (cmpT e .nil < 0) := by omega
      rw [if_neg (by omega)] at k1
      rw [if_neg (by omega)] at k2
      rw [if_pos q] at k3
      simp only [run0, run1, run2, run3, run4, run5, run6, run7, run8, run9, run10, run11, run12, run13, run14, run15, run16, run17, run18, run19, run20, run21, run22, reduceCtorEq, Nat.reduceEqDiff, Nat.reduceAdd, Nat.reduceSub, Nat.reduceLeDiff, indexAddrA, indexRefA, appendA, strA, Nat.reduceMul, Nat.zero_mul, Nat.reduceMod, Int.reduceEq, Int.reduceLT, Int.reduceLE, Nat.reduceLT, Nat.lt_irrefl, Nat.reduceBEq, tys0, tys1, tys2, tys3, tys4, tys5, tys6, tys7, tys8, tys9, tys10, tys11, tys12, tys13, tys14, tys15, tys16, tys17, Try.ntmps63, Try.results63, q1, q2, e5]
      exact ⟨(d.app (cons e c nil), r, X ++ [.box 76 [.sl false (elems e), .int .i64 c.1, .int .i64 c.2]]), hn.symm, by simp [len], by simp only [k1, k2, k3, len_app, len]; repeat constructor, by simp only [k1, k2, k3, len_app, len, elems_app, elems, pay, List.cons_append, Nat.zero_add]⟩
    · rw [if_pos q] at k1
      rw [if_neg (by omega)] at k2
      rw [if_neg (by omega)] at k3
      simp only [run0, run1, run2, run3, run4, run5, run6, run7, run8, run9, run10, run11, run12, run13, run14, run15, run16, run17, run18, run19, run20, run21, run22, reduceCtorEq, Nat.reduceEqDiff, Nat.reduceAdd, Nat.reduceSub, Nat.reduceLeDiff, indexAddrA, indexRefA, appendA, strA, Nat.reduceMul, Nat.zero_mul, Nat.reduceMod, Int.reduceEq, Int.reduceLT, Int.reduceLE, Nat.reduceLT, Nat.lt_irrefl, Nat.reduceBEq, tys0, tys1, tys2, tys3, tys4, tys5, tys6, tys7, tys8, tys9, tys10, tys11, tys12, tys13, tys14, tys15, tys16, tys17, Try.ntmps63, Try.results63, q, f3, f4, e5, elems_length]
      exact ⟨(d.app (cons e c nil), r, X ++ [.box 76 [.sl false (elems e), .int .i64 c.1, .int .i64 c.2]]), hn.symm, by simp [len], by simp only [k1, k2, k3, len_app, len]; repeat constructor, by simp only [k1, k2, k3, len_app, len, elems_app, elems, pay, List.cons_append, Nat.zero_add]⟩


end Go.Proofs.Ytfblibmibaiagaa
