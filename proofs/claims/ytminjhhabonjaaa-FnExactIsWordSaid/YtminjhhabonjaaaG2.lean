/-
  Ordinals: the laws' copies.
-/
import Derived.Test.YtminjhhabonjaaaG1
namespace Go.Proofs.Ytminjhhabonjaaa
open Go K Od
set_option linter.unusedSimpArgs false
set_option linter.unusedVariables false
set_option maxHeartbeats 400000

/-- Rows of a call's own, that are the tree 'a'. -/
def Own (M : List AObj) (a : Od) (x : AV) : Prop := ∃ S, OwnR M 99 2 a x S ∧ S.Nodup ∧ M.all okSO = true

theorem nodup_add {S : List Nat} (k : Nat) (h : S.Nodup) : (S.map (· + k)).Nodup := by
  unfold List.Nodup at *
  rw [List.pairwise_map]
  exact h.imp fun h1 h2 => h1 (by omega)

theorem toOrdinal_of {a : Od} (h : ∃ x M, Ct Try.prog 67 [.sl false (elems a)] [] x M ∧ Own M a x) :
    ∃ x M, Ct Try.prog 56 [.agg [.sl false (elems a)]] [] (.agg [x]) M ∧ Own M a x := by
  obtain ⟨x, M, hc, S, ho, hn, hM⟩ := h
  rcases ho.shape with rfl | ⟨id, g, n, rfl⟩
  · refine ⟨nilV, ?_⟩
    apply ex1
    · apply Ct.by_ hmix [] Try.func56 rfl
      simp only [run0, run1, run2, run3, run4, run5, run6, run7, run8, run9, run10, run11, run12, run13, run14, run15, run16, run17, run18, run19, run20, run21, run22, reduceCtorEq, Nat.reduceEqDiff, Nat.reduceAdd, Nat.reduceSub, Nat.reduceLeDiff, indexAddrA, indexRefA, appendA, strA, Nat.reduceMul, Nat.zero_mul, Nat.reduceMod, Int.reduceEq, Int.reduceLT, Int.reduceLE, Nat.reduceLT, Nat.lt_irrefl, Nat.reduceBEq, tys0, tys1, tys2, tys3, tys4, tys5, tys6, tys7, tys8, tys9, tys10, tys11, tys12, tys13, tys14, tys15, tys16, tys17, tys18, tys19, tys20, tys21, tys22, tys23, Try.ntmps56, Try.results56]
      refine RunL.callgp rfl rfl ok_f67 rfl hc (by simp only [pureL, pureB, elems_pure, Bool.and_self]) rfl ?_
      simp only [run0, run1, run2, run3, run4, run5, run6, run7, run8, run9, run10, run11, run12, run13, run14, run15, run16, run17, run18, run19, run20, run21, run22, reduceCtorEq, Nat.reduceEqDiff, Nat.reduceAdd, Nat.reduceSub, Nat.reduceLeDiff, indexAddrA, indexRefA, appendA, strA, Nat.reduceMul, Nat.zero_mul, Nat.reduceMod, Int.reduceEq, Int.reduceLT, Int.reduceLE, Nat.reduceLT, Nat.lt_irrefl, Nat.reduceBEq, tys0, tys1, tys2, tys3, tys4, tys5, tys6, tys7, tys8, tys9, tys10, tys11, tys12, tys13, tys14, tys15, tys16, tys17, tys18, tys19, tys20, tys21, tys22, tys23, Try.ntmps56, Try.results56, nilV, shA, shL]
      exact Fin.keep (S.map (· + 3)) rfl rfl
    · exact ⟨S.map (· + 3), (OwnR.sh (k := 3) (fun id => by simp) ho).keep fun _ h => h, nodup_add 3 hn, keepS_okSO _ _⟩
  · refine ⟨.ref (id + 3) [] g n, ?_⟩
    apply ex1
    · apply Ct.by_ hmix [] Try.func56 rfl
      simp only [run0, run1, run2, run3, run4, run5, run6, run7, run8, run9, run10, run11, run12, run13, run14, run15, run16, run17, run18, run19, run20, run21, run22, reduceCtorEq, Nat.reduceEqDiff, Nat.reduceAdd, Nat.reduceSub, Nat.reduceLeDiff, indexAddrA, indexRefA, appendA, strA, Nat.reduceMul, Nat.zero_mul, Nat.reduceMod, Int.reduceEq, Int.reduceLT, Int.reduceLE, Nat.reduceLT, Nat.lt_irrefl, Nat.reduceBEq, tys0, tys1, tys2, tys3, tys4, tys5, tys6, tys7, tys8, tys9, tys10, tys11, tys12, tys13, tys14, tys15, tys16, tys17, tys18, tys19, tys20, tys21, tys22, tys23, Try.ntmps56, Try.results56]
      refine RunL.callgp rfl rfl ok_f67 rfl hc (by simp only [pureL, pureB, elems_pure, Bool.and_self]) rfl ?_
      simp only [run0, run1, run2, run3, run4, run5, run6, run7, run8, run9, run10, run11, run12, run13, run14, run15, run16, run17, run18, run19, run20, run21, run22, reduceCtorEq, Nat.reduceEqDiff, Nat.reduceAdd, Nat.reduceSub, Nat.reduceLeDiff, indexAddrA, indexRefA, appendA, strA, Nat.reduceMul, Nat.zero_mul, Nat.reduceMod, Int.reduceEq, Int.reduceLT, Int.reduceLE, Nat.reduceLT, Nat.lt_irrefl, Nat.reduceBEq, tys0, tys1, tys2, tys3, tys4, tys5, tys6, tys7, tys8, tys9, tys10, tys11, tys12, tys13, tys14, tys15, tys16, tys17, tys18, tys19, tys20, tys21, tys22, tys23, Try.ntmps56, Try.results56, shA, shL]
      exact Fin.keep (S.map (· + 3)) rfl rfl
    · exact ⟨S.map (· + 3), (OwnR.sh (k := 3) (fun id => by simp) ho).keep fun _ h => h, nodup_add 3 hn, keepS_okSO _ _⟩

theorem toOrdinalTerm_of {a : Od} {c : Int} (h : ∃ x M, Ct Try.prog 67 [.sl false (elems a)] [] x M ∧ Own M a x) :
    ∃ x M, Ct Try.prog 74 [.agg (.sl false (elems a) :: pay c)] [] (.agg (x :: pay c)) M ∧ Own M a x := by
  obtain ⟨x, M, hc, S, ho, hn, hM⟩ := toOrdinal_of h
  rcases ho.shape with rfl | ⟨id, g, n, rfl⟩
  · refine ⟨nilV, ?_⟩
    apply ex1
    · apply Ct.by_ hmix [] Try.func74 rfl
      simp only [run0, run1, run2, run3, run4, run5, run6, run7, run8, run9, run10, run11, run12, run13, run14, run15, run16, run17, run18, run19, run20, run21, run22, reduceCtorEq, Nat.reduceEqDiff, Nat.reduceAdd, Nat.reduceSub, Nat.reduceLeDiff, indexAddrA, indexRefA, appendA, strA, Nat.reduceMul, Nat.zero_mul, Nat.reduceMod, Int.reduceEq, Int.reduceLT, Int.reduceLE, Nat.reduceLT, Nat.lt_irrefl, Nat.reduceBEq, tys0, tys1, tys2, tys3, tys4, tys5, tys6, tys7, tys8, tys9, tys10, tys11, tys12, tys13, tys14, tys15, tys16, tys17, tys18, tys19, tys20, tys21, tys22, tys23, Try.ntmps74, Try.results74, pay]
      refine RunL.callgp rfl rfl ok_f56 rfl hc (by simp only [pureL, pureB, elems_pure, Bool.and_self]) rfl ?_
      simp only [run0, run1, run2, run3, run4, run5, run6, run7, run8, run9, run10, run11, run12, run13, run14, run15, run16, run17, run18, run19, run20, run21, run22, reduceCtorEq, Nat.reduceEqDiff, Nat.reduceAdd, Nat.reduceSub, Nat.reduceLeDiff, indexAddrA, indexRefA, appendA, strA, Nat.reduceMul, Nat.zero_mul, Nat.reduceMod, Int.reduceEq, Int.reduceLT, Int.reduceLE, Nat.reduceLT, Nat.lt_irrefl, Nat.reduceBEq, tys0, tys1, tys2, tys3, tys4, tys5, tys6, tys7, tys8, tys9, tys10, tys11, tys12, tys13, tys14, tys15, tys16, tys17, tys18, tys19, tys20, tys21, tys22, tys23, Try.ntmps74, Try.results74, nilV, shA, shL]
      exact Fin.keep (S.map (· + 3)) rfl rfl
    · exact ⟨S.map (· + 3), (OwnR.sh (k := 3) (fun id => by simp) ho).keep fun _ h => h, nodup_add 3 hn, keepS_okSO _ _⟩
  · refine ⟨.ref (id + 3) [] g n, ?_⟩
    apply ex1
    · apply Ct.by_ hmix [] Try.func74 rfl
      simp only [run0, run1, run2, run3, run4, run5, run6, run7, run8, run9, run10, run11, run12, run13, run14, run15, run16, run17, run18, run19, run20, run21, run22, reduceCtorEq, Nat.reduceEqDiff, Nat.reduceAdd, Nat.reduceSub, Nat.reduceLeDiff, indexAddrA, indexRefA, appendA, strA, Nat.reduceMul, Nat.zero_mul, Nat.reduceMod, Int.reduceEq, Int.reduceLT, Int.reduceLE, Nat.reduceLT, Nat.lt_irrefl, Nat.reduceBEq, tys0, tys1, tys2, tys3, tys4, tys5, tys6, tys7, tys8, tys9, tys10, tys11, tys12, tys13, tys14, tys15, tys16, tys17, tys18, tys19, tys20, tys21, tys22, tys23, Try.ntmps74, Try.results74, pay]
      refine RunL.callgp rfl rfl ok_f56 rfl hc (by simp only [pureL, pureB, elems_pure, Bool.and_self]) rfl ?_
      simp only [run0, run1, run2, run3, run4, run5, run6, run7, run8, run9, run10, run11, run12, run13, run14, run15, run16, run17, run18, run19, run20, run21, run22, reduceCtorEq, Nat.reduceEqDiff, Nat.reduceAdd, Nat.reduceSub, Nat.reduceLeDiff, indexAddrA, indexRefA, appendA, strA, Nat.reduceMul, Nat.zero_mul, Nat.reduceMod, Int.reduceEq, Int.reduceLT, Int.reduceLE, Nat.reduceLT, Nat.lt_irrefl, Nat.reduceBEq, tys0, tys1, tys2, tys3, tys4, tys5, tys6, tys7, tys8, tys9, tys10, tys11, tys12, tys13, tys14, tys15, tys16, tys17, tys18, tys19, tys20, tys21, tys22, tys23, Try.ntmps74, Try.results74, shA, shL]
      exact Fin.keep (S.map (· + 3)) rfl rfl
    · exact ⟨S.map (· + 3), (OwnR.sh (k := 3) (fun id => by simp) ho).keep fun _ h => h, nodup_add 3 hn, keepS_okSO _ _⟩

end Go.Proofs.Ytminjhhabonjaaa
