/-
  Ordinals: nodes: the law.
-/
import Derived.Test.YtminjhhabonjaaaG10
import Derived.Test.YtminjhhabonjaaaO2
namespace Go.Proofs.Ytminjhhabonjaaa
open Go K Od
set_option linter.unusedSimpArgs false
set_option linter.unusedVariables false
set_option maxHeartbeats 400000

/-! ### nodes -/
theorem odSize_ok (a : Od) (hs : a.sz ≤ 1048576) : Ct Try.prog 55 [av a] [] (.int .i64 (1 + 2 * a.sz)) [] := by
  refine Ct.by_ hmix [] Try.func55 rfl ?_
  simp only [run0, run1, run2, run3, run4, run5, run6, run7, run8, run9, run10, run11, run12, run13, run14, run15, run16, run17, run18, run19, run20, run21, run22, reduceCtorEq, Nat.reduceEqDiff, Nat.reduceAdd, Nat.reduceSub, Nat.reduceLeDiff, indexAddrA, indexRefA, appendA, strA, Nat.reduceMul, Nat.zero_mul, Nat.reduceMod, Int.reduceEq, Int.reduceLT, Int.reduceLE, Nat.reduceLT, Nat.lt_irrefl, Nat.reduceBEq, tys0, tys1, tys2, tys3, tys4, tys5, tys6, tys7, tys8, tys9, tys10, tys11, tys12, tys13, tys14, tys15, tys16, tys17, tys18, tys19, tys20, tys21, tys22, tys23, Try.ntmps55, Try.results55, av, elems_length]
  refine AWp.loop_inv (ι := Od × Od × List AObj) (fun p => ⟨[.agg [.sl false (elems a)], .ptr 0 0, .int .i64 0, .int .i64 (1 + 2 * p.1.sz), .junk, .junk, .junk, .sl false (elems a), .int .i64 a.len, .int .i64 p.1.len, .junk, .junk, .junk, .junk, .junk, .junk, .junk, .junk, .junk, .junk, .junk], .box 50 [.sl false (elems a)] :: p.2.2⟩)
    (fun p => a = p.1.app p.2.1) (fun p => p.2.1.len) (.nil, a, []) rfl ⟨by simp only [len, sz, Int.natCast_zero, Int.mul_zero, Int.add_zero]; repeat constructor, rfl⟩ ?_
  rintro ⟨d, r, X⟩ ha
  refine W.sound hmix (E := []) ?_
  simp only at ha
  cases r with
  | nil =>
    obtain ⟨e1, rfl⟩ := od_end ha
    simp only [run0, run1, run2, run3, run4, run5, run6, run7, run8, run9, run10, run11, run12, run13, run14, run15, run16, run17, run18, run19, run20, run21, run22, reduceCtorEq, Nat.reduceEqDiff, Nat.reduceAdd, Nat.reduceSub, Nat.reduceLeDiff, indexAddrA, indexRefA, appendA, strA, Nat.reduceMul, Nat.zero_mul, Nat.reduceMod, Int.reduceEq, Int.reduceLT, Int.reduceLE, Nat.reduceLT, Nat.lt_irrefl, Nat.reduceBEq, tys0, tys1, tys2, tys3, tys4, tys5, tys6, tys7, tys8, tys9, tys10, tys11, tys12, tys13, tys14, tys15, tys16, tys17, tys18, tys19, tys20, tys21, tys22, tys23, Try.ntmps55, Try.results55, elems_length, e1]
    exact Fin.eq rfl rfl
  | cons e c r =>
    obtain ⟨e1, e2, e5, hlt, hnx, _⟩ := od_step ha hs
    have hsz : a.sz = d.sz + (e.sz + r.sz + 1) := by rw [ha, sz_app]; rfl
    have w1 : IntKind.i64.wrap (1 + (1 + 2 * (e.sz : Int))) = 1 + (1 + 2 * (e.sz : Int)) := w64_id (by omega) (by omega)
    have w2 : IntKind.i64.wrap (1 + 2 * (d.sz : Int) + (1 + (1 + 2 * (e.sz : Int)))) = 1 + 2 * ((d.app (cons e c nil)).sz : Int) := by
      rw [w64_id (by omega) (by omega), sz_app]; simp only [sz]; omega
    simp only [run0, run1, run2, run3, run4, run5, run6, run7, run8, run9, run10, run11, run12, run13, run14, run15, run16, run17, run18, run19, run20, run21, run22, reduceCtorEq, Nat.reduceEqDiff, Nat.reduceAdd, Nat.reduceSub, Nat.reduceLeDiff, indexAddrA, indexRefA, appendA, strA, Nat.reduceMul, Nat.zero_mul, Nat.reduceMod, Int.reduceEq, Int.reduceLT, Int.reduceLE, Nat.reduceLT, Nat.lt_irrefl, Nat.reduceBEq, tys0, tys1, tys2, tys3, tys4, tys5, tys6, tys7, tys8, tys9, tys10, tys11, tys12, tys13, tys14, tys15, tys16, tys17, tys18, tys19, tys20, tys21, tys22, tys23, Try.ntmps55, Try.results55, elems_length, e1, e2, Int.toNat_natCast, Int.natCast_nonneg]
    refine RunL.callp rfl rfl ok_f55 (odSize_ok e (by omega)) (by first | rfl | simp only [pureL, pureB, Bool.and_self, Bool.and_true, Bool.true_and, Od.elems_pure, Od.pay_pure, Od.av_pure]) rfl ?_
    simp only [run0, run1, run2, run3, run4, run5, run6, run7, run8, run9, run10, run11, run12, run13, run14, run15, run16, run17, run18, run19, run20, run21, run22, reduceCtorEq, Nat.reduceEqDiff, Nat.reduceAdd, Nat.reduceSub, Nat.reduceLeDiff, indexAddrA, indexRefA, appendA, strA, Nat.reduceMul, Nat.zero_mul, Nat.reduceMod, Int.reduceEq, Int.reduceLT, Int.reduceLE, Nat.reduceLT, Nat.lt_irrefl, Nat.reduceBEq, tys0, tys1, tys2, tys3, tys4, tys5, tys6, tys7, tys8, tys9, tys10, tys11, tys12, tys13, tys14, tys15, tys16, tys17, tys18, tys19, tys20, tys21, tys22, tys23, Try.ntmps55, Try.results55, w1, w2, e5]
    exact ⟨(d.app (cons e c nil), r, _), hnx.symm, by simp [len], by repeat constructor, rfl⟩
termination_by a.sz

end Go.Proofs.Ytminjhhabonjaaa
