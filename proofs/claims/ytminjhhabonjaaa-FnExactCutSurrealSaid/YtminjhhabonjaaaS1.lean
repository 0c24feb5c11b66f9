/-
  Surreals: the sizes that the laws count.
-/
import Derived.Test.YtminjhhabonjaaaSO1
namespace Go.Proofs.Ytminjhhabonjaaa
open Go K Su
set_option linter.unusedSimpArgs false
set_option linter.unusedVariables false
set_option maxHeartbeats 400000

/-- All lists are as long as a list may be. -/
def fit : Su → Prop
  | .nil => True
  | .cons e c r => r.len + 1 ≤ maxLen ∧ fit e ∧ fit r
theorem fit_len : ∀ {a : Su}, fit a → a.len ≤ maxLen
  | .nil, _ => by simp [len]
  | .cons e c r, h => h.1
theorem fit_app : ∀ {d r : Su}, fit (d.app r) → fit r
  | .nil, r, h => h
  | .cons e c d, r, h => fit_app (d := d) h.2.2
theorem maxLen_eq : maxLen = 9223372036854775807 := by decide

theorem szSurreal_of {a : Su} {l r : Int} (hr : r < 0 → r = -1) (h : Ct Try.prog 23 [.sl false (elems a), .int .i64 l] [] (.int .i64 r) []) :
    Ct Try.prog 10 [.agg [.sl false (elems a)], .int .i64 l] [] (.int .i64 r) [] := by
  refine Ct.by_ hmix [] Try.func10 rfl ?_
  simp only [run0, run1, run2, run3, run4, run5, run6, run7, run8, run9, run10, run11, run12, run13, run14, run15, run16, run17, run18, run19, run20, run21, run22, reduceCtorEq, Nat.reduceEqDiff, Nat.reduceAdd, Nat.reduceSub, Nat.reduceLeDiff, indexAddrA, indexRefA, appendA, strA, Nat.reduceMul, Nat.zero_mul, Nat.reduceMod, Int.reduceEq, Int.reduceLT, Int.reduceLE, Nat.reduceLT, Nat.lt_irrefl, Nat.reduceBEq, tys0, tys1, tys2, tys3, tys4, tys5, tys6, tys7, tys8, tys9, tys10, tys11, tys12, tys13, tys14, tys15, tys16, tys17, tys18, tys19, tys20, tys21, tys22, tys23, Try.ntmps10, Try.results10]
  refine RunL.callp rfl rfl ok_f23 (h) (by first | rfl | simp only [pureL, pureB, Bool.and_self, Bool.and_true, Bool.true_and, Su.elems_pure, Su.pay_pure, Su.av_pure]) rfl ?_
  simp only [run0, run1, run2, run3, run4, run5, run6, run7, run8, run9, run10, run11, run12, run13, run14, run15, run16, run17, run18, run19, run20, run21, run22, reduceCtorEq, Nat.reduceEqDiff, Nat.reduceAdd, Nat.reduceSub, Nat.reduceLeDiff, indexAddrA, indexRefA, appendA, strA, Nat.reduceMul, Nat.zero_mul, Nat.reduceMod, Int.reduceEq, Int.reduceLT, Int.reduceLE, Nat.reduceLT, Nat.lt_irrefl, Nat.reduceBEq, tys0, tys1, tys2, tys3, tys4, tys5, tys6, tys7, tys8, tys9, tys10, tys11, tys12, tys13, tys14, tys15, tys16, tys17, tys18, tys19, tys20, tys21, tys22, tys23, Try.ntmps10, Try.results10]
  refine Wc.split (fun h1 => ?_) (fun h1 => ?_) <;> simp only [run0, run1, run2, run3, run4, run5, run6, run7, run8, run9, run10, run11, run12, run13, run14, run15, run16, run17, run18, run19, run20, run21, run22, reduceCtorEq, Nat.reduceEqDiff, Nat.reduceAdd, Nat.reduceSub, Nat.reduceLeDiff, indexAddrA, indexRefA, appendA, strA, Nat.reduceMul, Nat.zero_mul, Nat.reduceMod, Int.reduceEq, Int.reduceLT, Int.reduceLE, Nat.reduceLT, Nat.lt_irrefl, Nat.reduceBEq, tys0, tys1, tys2, tys3, tys4, tys5, tys6, tys7, tys8, tys9, tys10, tys11, tys12, tys13, tys14, tys15, tys16, tys17, tys18, tys19, tys20, tys21, tys22, tys23, Try.ntmps10, Try.results10, h1] <;> exact Fin.eq (by simp at h1; first | rfl | (rw [hr h1])) rfl
theorem szSurrealTerm_of {a : Su} {c : Int × Int} {l r : Int} (hr : r < 0 → r = -1) (h : Ct Try.prog 23 [.sl false (elems a), .int .i64 l] [] (.int .i64 r) []) :
    Ct Try.prog 41 [.agg (.sl false (elems a) :: pay c), .int .i64 l] [] (.int .i64 r) [] := by
  refine Ct.by_ hmix [] Try.func41 rfl ?_
  simp only [run0, run1, run2, run3, run4, run5, run6, run7, run8, run9, run10, run11, run12, run13, run14, run15, run16, run17, run18, run19, run20, run21, run22, reduceCtorEq, Nat.reduceEqDiff, Nat.reduceAdd, Nat.reduceSub, Nat.reduceLeDiff, indexAddrA, indexRefA, appendA, strA, Nat.reduceMul, Nat.zero_mul, Nat.reduceMod, Int.reduceEq, Int.reduceLT, Int.reduceLE, Nat.reduceLT, Nat.lt_irrefl, Nat.reduceBEq, tys0, tys1, tys2, tys3, tys4, tys5, tys6, tys7, tys8, tys9, tys10, tys11, tys12, tys13, tys14, tys15, tys16, tys17, tys18, tys19, tys20, tys21, tys22, tys23, Try.ntmps41, Try.results41, pay]
  refine RunL.callp rfl rfl ok_f10 (szSurreal_of hr h) (by first | rfl | simp only [pureL, pureB, Bool.and_self, Bool.and_true, Bool.true_and, Su.elems_pure, Su.pay_pure, Su.av_pure]) rfl ?_
  simp only [run0, run1, run2, run3, run4, run5, run6, run7, run8, run9, run10, run11, run12, run13, run14, run15, run16, run17, run18, run19, run20, run21, run22, reduceCtorEq, Nat.reduceEqDiff, Nat.reduceAdd, Nat.reduceSub, Nat.reduceLeDiff, indexAddrA, indexRefA, appendA, strA, Nat.reduceMul, Nat.zero_mul, Nat.reduceMod, Int.reduceEq, Int.reduceLT, Int.reduceLE, Nat.reduceLT, Nat.lt_irrefl, Nat.reduceBEq, tys0, tys1, tys2, tys3, tys4, tys5, tys6, tys7, tys8, tys9, tys10, tys11, tys12, tys13, tys14, tys15, tys16, tys17, tys18, tys19, tys20, tys21, tys22, tys23, Try.ntmps41, Try.results41]
  refine Wc.split (fun h1 => ?_) (fun h1 => ?_) <;> simp only [run0, run1, run2, run3, run4, run5, run6, run7, run8, run9, run10, run11, run12, run13, run14, run15, run16, run17, run18, run19, run20, run21, run22, reduceCtorEq, Nat.reduceEqDiff, Nat.reduceAdd, Nat.reduceSub, Nat.reduceLeDiff, indexAddrA, indexRefA, appendA, strA, Nat.reduceMul, Nat.zero_mul, Nat.reduceMod, Int.reduceEq, Int.reduceLT, Int.reduceLE, Nat.reduceLT, Nat.lt_irrefl, Nat.reduceBEq, tys0, tys1, tys2, tys3, tys4, tys5, tys6, tys7, tys8, tys9, tys10, tys11, tys12, tys13, tys14, tys15, tys16, tys17, tys18, tys19, tys20, tys21, tys22, tys23, Try.ntmps41, Try.results41, h1] <;> exact Fin.eq (by simp at h1; first | rfl | (rw [hr h1])) rfl

def szR (n : Nat) (l : Int) : Int := if (n : Int) ≤ l then l - n else -1
theorem szR_spec (n : Nat) (l : Int) : ((n : Int) ≤ l ∧ szR n l = l - n) ∨ (l < n ∧ szR n l = -1) := by
  unfold szR
  by_cases h : (n : Int) ≤ l
  · exact .inl ⟨h, by rw [if_pos h]⟩
  · exact .inr ⟨by omega, by rw [if_neg h]⟩
theorem szR_neg {n : Nat} {l : Int} (h : szR n l < 0) : szR n l = -1 := by
  unfold szR at *; split at h <;> simp_all <;> omega

theorem szTermS_ok (a : Su) (l : Int) (hf : fit a) (h0 : 0 ≤ l) (h1 : l ≤ 1048576) : Ct Try.prog 23 [.sl false (elems a), .int .i64 l] [] (.int .i64 (szR a.sz l)) [] := by
  have hl := fit_len hf
  rw [maxLen_eq] at hl
  refine Ct.by_ hmix [] Try.func23 rfl ?_
  have hw : IntKind.i64.wrap (l - (a.len : Int)) = l - a.len := wr_id (by omega) (by omega)
  simp only [run0, run1, run2, run3, run4, run5, run6, run7, run8, run9, run10, run11, run12, run13, run14, run15, run16, run17, run18, run19, run20, run21, run22, reduceCtorEq, Nat.reduceEqDiff, Nat.reduceAdd, Nat.reduceSub, Nat.reduceLeDiff, indexAddrA, indexRefA, appendA, strA, Nat.reduceMul, Nat.zero_mul, Nat.reduceMod, Int.reduceEq, Int.reduceLT, Int.reduceLE, Nat.reduceLT, Nat.lt_irrefl, Nat.reduceBEq, tys0, tys1, tys2, tys3, tys4, tys5, tys6, tys7, tys8, tys9, tys10, tys11, tys12, tys13, tys14, tys15, tys16, tys17, tys18, tys19, tys20, tys21, tys22, tys23, Try.ntmps23, Try.results23, elems_length, hw]
  refine Wc.split (fun hneg => ?_) (fun hneg => ?_) <;> simp only [run0, run1, run2, run3, run4, run5, run6, run7, run8, run9, run10, run11, run12, run13, run14, run15, run16, run17, run18, run19, run20, run21, run22, reduceCtorEq, Nat.reduceEqDiff, Nat.reduceAdd, Nat.reduceSub, Nat.reduceLeDiff, indexAddrA, indexRefA, appendA, strA, Nat.reduceMul, Nat.zero_mul, Nat.reduceMod, Int.reduceEq, Int.reduceLT, Int.reduceLE, Nat.reduceLT, Nat.lt_irrefl, Nat.reduceBEq, tys0, tys1, tys2, tys3, tys4, tys5, tys6, tys7, tys8, tys9, tys10, tys11, tys12, tys13, tys14, tys15, tys16, tys17, tys18, tys19, tys20, tys21, tys22, tys23, Try.ntmps23, Try.results23, hneg]
  · simp at hneg
    have := len_le a
    exact Fin.eq (by simp [szR]; omega) rfl
  · simp at hneg
    refine AWp.loop_inv (ι := Su × Su × Int) (fun p => ⟨[.sl false (elems a), .int .i64 p.2.2, .junk, .junk, .int .i64 0, .int .i64 p.1.len, .junk, .junk, .junk, .junk, .junk, .junk, .junk, .junk, .junk, .junk, .junk, .junk, .junk, .junk, .junk, .junk, .junk, .junk, .junk, .junk, .junk], []⟩)
      (fun p => a = p.1.app p.2.1 ∧ 0 ≤ p.2.2 ∧ p.2.2 ≤ 1048576 ∧ szR (p.2.1.sz - p.2.1.len) p.2.2 = szR a.sz l) (fun p => p.2.1.len) (.nil, a, l - a.len)
      ⟨rfl, by simpa using hneg, by simp; omega, by simp [szR]; have := len_le a; split <;> split <;> omega⟩ ⟨by repeat constructor, rfl⟩ ?_
    rintro ⟨d, r, l'⟩ ⟨ha, h2, h3, h4⟩
    refine W.sound hmix (E := []) ?_
    simp only at ha h2 h3 h4
    have hda : d.len + r.len = a.len := by rw [ha, len_app]
    cases r with
    | nil =>
      have e1 : ¬ ((d.len : Int) < (a.len : Int)) := by simp [len] at hda; omega
      simp only [run0, run1, run2, run3, run4, run5, run6, run7, run8, run9, run10, run11, run12, run13, run14, run15, run16, run17, run18, run19, run20, run21, run22, reduceCtorEq, Nat.reduceEqDiff, Nat.reduceAdd, Nat.reduceSub, Nat.reduceLeDiff, indexAddrA, indexRefA, appendA, strA, Nat.reduceMul, Nat.zero_mul, Nat.reduceMod, Int.reduceEq, Int.reduceLT, Int.reduceLE, Nat.reduceLT, Nat.lt_irrefl, Nat.reduceBEq, tys0, tys1, tys2, tys3, tys4, tys5, tys6, tys7, tys8, tys9, tys10, tys11, tys12, tys13, tys14, tys15, tys16, tys17, tys18, tys19, tys20, tys21, tys22, tys23, Try.ntmps23, Try.results23, elems_length, e1]
      refine Fin.eq ?_ rfl
      rw [← h4]
      simp [szR, sz, len]; omega
    | cons e c r =>
      simp only [len] at hda
      have e1 : (d.len : Int) < (a.len : Int) := by omega
      have e2 : (elems a)[d.len]? = some (.agg (.sl false (elems e) :: pay c)) := by rw [ha]; exact elems_get d e c r
      have hfe : fit e := by rw [ha] at hf; exact (fit_app hf).2.1
      have hlt : e.sz < a.sz := by rw [ha, sz_app]; simp only [sz]; omega
      have hlr := len_le r
      have e5 : IntKind.i64.wrap ((d.len : Int) + 1) = ((d.app (cons e c nil)).len : Int) := by
        rw [wr_id (by omega) (by omega), len_app]; simp [len]
      have f1 : szR e.sz l' < 0 → szR a.sz l = -1 := by
        intro h6
        rw [← h4]
        have s1 := szR_spec e.sz l'
        have s2 := szR_spec ((e.cons c r).sz - (e.cons c r).len) l'
        simp only [sz, len] at s2 ⊢
        omega
      have f2 : 0 ≤ szR e.sz l' → szR e.sz l' ≤ 1048576 ∧ szR (r.sz - r.len) (szR e.sz l') = szR a.sz l := by
        intro h6
        rw [← h4]
        have s1 := szR_spec e.sz l'
        have s2 := szR_spec ((e.cons c r).sz - (e.cons c r).len) l'
        have s3 := szR_spec (r.sz - r.len) (szR e.sz l')
        simp only [sz, len] at s2 ⊢
        omega
      simp only [run0, run1, run2, run3, run4, run5, run6, run7, run8, run9, run10, run11, run12, run13, run14, run15, run16, run17, run18, run19, run20, run21, run22, reduceCtorEq, Nat.reduceEqDiff, Nat.reduceAdd, Nat.reduceSub, Nat.reduceLeDiff, indexAddrA, indexRefA, appendA, strA, Nat.reduceMul, Nat.zero_mul, Nat.reduceMod, Int.reduceEq, Int.reduceLT, Int.reduceLE, Nat.reduceLT, Nat.lt_irrefl, Nat.reduceBEq, tys0, tys1, tys2, tys3, tys4, tys5, tys6, tys7, tys8, tys9, tys10, tys11, tys12, tys13, tys14, tys15, tys16, tys17, tys18, tys19, tys20, tys21, tys22, tys23, Try.ntmps23, Try.results23, elems_length, e1, e2, Int.toNat_natCast, Int.natCast_nonneg, pay]
      refine RunL.callp rfl rfl ok_f41 (szSurrealTerm_of (c := c) szR_neg (szTermS_ok e l' hfe h2 h3)) (by first | rfl | simp only [pureL, pureB, Bool.and_self, Bool.and_true, Bool.true_and, Su.elems_pure, Su.pay_pure, Su.av_pure]) rfl ?_
      simp only [run0, run1, run2, run3, run4, run5, run6, run7, run8, run9, run10, run11, run12, run13, run14, run15, run16, run17, run18, run19, run20, run21, run22, reduceCtorEq, Nat.reduceEqDiff, Nat.reduceAdd, Nat.reduceSub, Nat.reduceLeDiff, indexAddrA, indexRefA, appendA, strA, Nat.reduceMul, Nat.zero_mul, Nat.reduceMod, Int.reduceEq, Int.reduceLT, Int.reduceLE, Nat.reduceLT, Nat.lt_irrefl, Nat.reduceBEq, tys0, tys1, tys2, tys3, tys4, tys5, tys6, tys7, tys8, tys9, tys10, tys11, tys12, tys13, tys14, tys15, tys16, tys17, tys18, tys19, tys20, tys21, tys22, tys23, Try.ntmps23, Try.results23]
      refine Wc.split (fun h6 => ?_) (fun h6 => ?_) <;> simp only [run0, run1, run2, run3, run4, run5, run6, run7, run8, run9, run10, run11, run12, run13, run14, run15, run16, run17, run18, run19, run20, run21, run22, reduceCtorEq, Nat.reduceEqDiff, Nat.reduceAdd, Nat.reduceSub, Nat.reduceLeDiff, indexAddrA, indexRefA, appendA, strA, Nat.reduceMul, Nat.zero_mul, Nat.reduceMod, Int.reduceEq, Int.reduceLT, Int.reduceLE, Nat.reduceLT, Nat.lt_irrefl, Nat.reduceBEq, tys0, tys1, tys2, tys3, tys4, tys5, tys6, tys7, tys8, tys9, tys10, tys11, tys12, tys13, tys14, tys15, tys16, tys17, tys18, tys19, tys20, tys21, tys22, tys23, Try.ntmps23, Try.results23, h6, e5] <;> simp at h6
      · exact Fin.eq (by rw [f1 h6]) rfl
      · exact ⟨(d.app (cons e c nil), r, szR e.sz l'), ⟨by rw [app_assoc]; exact ha, h6, (f2 h6).1, (f2 h6).2⟩, by simp [len], by repeat constructor⟩
termination_by a.sz

end Go.Proofs.Ytminjhhabonjaaa
