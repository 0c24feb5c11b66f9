/-
  Words of runs: which are right: the law.
-/
import Derived.Test.YtminjhhabonjaaaEW1
namespace Go.Proofs.Ytminjhhabonjaaa
open Go K Od
set_option linter.unusedSimpArgs false
set_option linter.unusedVariables false
set_option maxHeartbeats 1600000
set_option maxRecDepth 8000

/-- Letters of one kind behind each other stand in one run. -/
def goodR : Option Bool → List En → Bool
  | _, [] => true
  | p, e :: r => goodT e.2 && !(isZ e.2) && (p != some e.1) && goodR (some e.1) r
def nod : List En → Nat
  | [] => 0
  | e :: r => 2 + 2 * e.2.sz + nod r
theorem nod_app : ∀ d r : List En, nod (d ++ r) = nod d + nod r
  | [], r => by simp [nod]
  | e :: d, r => by simp only [List.cons_append, nod, nod_app d r]; omega
theorem nod_lsz : ∀ d : List En, nod d = 2 * d.length + 2 * lsz d
  | [] => rfl
  | e :: d => by simp only [nod, nod_lsz d, List.length_cons, lsz, esz]; omega
def wordB (es : List En) : Bool := goodR none es && decide (1 + nod es ≤ 60)
def AheadN (d : List En) : Option En → Prop
  | none => d = []
  | some e => ∃ d0, d = d0 ++ [e]
theorem wr_n {x : Int} (h1 : -9223372036854775808 ≤ x) (h2 : x < 9223372036854775808) : IntKind.i64.wrap x = x := w64_id h1 (by omega)

theorem implWord_ok (es : List En) (hl : es.length ≤ 1048576) (hs : ∀ e ∈ es, e.2.sz ≤ 1048576) : Ct Try.prog 8 [.agg [.sl false (es.map enE)]] [] (.bool (wordB es)) [] := by
  refine Ct.by_ hmix [] Try.func8 rfl ?_
  simp only [run0, run1, run2, run3, run4, run5, run6, run7, run8, run9, run10, run11, run12, run13, run14, run15, run16, run17, run18, run19, run20, run21, run22, reduceCtorEq, Nat.reduceEqDiff, Nat.reduceAdd, Nat.reduceSub, Nat.reduceLeDiff, indexAddrA, indexRefA, appendA, strA, Nat.reduceMul, Nat.zero_mul, Nat.reduceMod, Int.reduceEq, Int.reduceLT, Int.reduceLE, Nat.reduceLT, Nat.lt_irrefl, Nat.reduceBEq, tys0, tys1, tys2, tys3, tys4, tys5, tys6, tys7, tys8, tys9, tys10, tys11, tys12, tys13, tys14, tys15, tys16, tys17, tys18, tys19, tys20, tys21, tys22, tys23, Try.ntmps8, Try.results8]
  refine AWp.loop_inv (ι := List En × List En × Option En × List AObj) (fun p => ⟨[.agg [.sl false (es.map enE)], .ptr 0 0, .bool false, .int .i64 (1 + nod p.1), .junk, .junk, .junk, .junk, .junk, .sl false (es.map enE), .int .i64 es.length, .int .i64 p.1.length, .junk, .junk, .junk, .junk, .junk, .junk, .junk, .junk, .junk, .junk, .junk, .junk, .junk, .junk, .junk, .junk, .junk, .junk, .junk, .junk, .junk, .junk, .junk, .junk, .junk, .junk, .junk, .junk, .junk, .junk, .junk, .junk, .junk, .junk, .junk, .junk, .junk, .junk, .junk, .junk, .junk, .junk], .box 29 [.sl false (es.map enE)] :: p.2.2.2⟩)
    (fun p => es = p.1 ++ p.2.1 ∧ AheadN p.1 p.2.2.1 ∧ goodR (p.2.2.1.map (·.1)) p.2.1 = goodR none es ∧ 1 + nod p.1 ≤ 60) (fun p => p.2.1.length) ([], es, none, []) ⟨rfl, rfl, rfl, by simp [nod]⟩ ⟨by simp only [List.length_nil, Int.natCast_zero, nod, Int.add_zero]; repeat constructor, rfl⟩ ?_
  rintro ⟨d, r, P, X⟩ ⟨ha, hA, h2, h3⟩
  refine W.sound hmix (E := []) ?_
  simp only at ha hA h2 h3
  have hda : d.length + r.length = es.length := by rw [ha, List.length_append]
  cases r with
  | nil =>
    have e1 : ¬ ((d.length : Int) < (es.length : Int)) := by simp at hda; omega
    simp only [run0, run1, run2, run3, run4, run5, run6, run7, run8, run9, run10, run11, run12, run13, run14, run15, run16, run17, run18, run19, run20, run21, run22, reduceCtorEq, Nat.reduceEqDiff, Nat.reduceAdd, Nat.reduceSub, Nat.reduceLeDiff, indexAddrA, indexRefA, appendA, strA, Nat.reduceMul, Nat.zero_mul, Nat.reduceMod, Int.reduceEq, Int.reduceLT, Int.reduceLE, Nat.reduceLT, Nat.lt_irrefl, Nat.reduceBEq, tys0, tys1, tys2, tys3, tys4, tys5, tys6, tys7, tys8, tys9, tys10, tys11, tys12, tys13, tys14, tys15, tys16, tys17, tys18, tys19, tys20, tys21, tys22, tys23, Try.ntmps8, Try.results8, e1]
    refine Fin.eq ?_ rfl
    simp only [goodR] at h2
    rw [List.append_nil] at ha
    rw [ha]
    rw [ha] at h2
    simp only [wordB, ← h2, Bool.true_and, h3, decide_true]
  | cons e r =>
    simp only [List.length_cons] at hda
    have e1 : (d.length : Int) < (es.length : Int) := by omega
    have e2 : (es.map enE)[d.length]? = some (.agg [.bool e.1, .sl false (elems e.2)]) := by rw [ha]; exact enE_get d r e
    have e5 : IntKind.i64.wrap ((d.length : Int) + 1) = ((d ++ [e]).length : Int) := by rw [wr_n (by omega) (by omega)]; simp
    have g2 := hs e (by rw [ha]; simp)
    have hg := implNodes_ok e.2 g2
    have hzz := isZero_ok e.2
    simp only [av] at hg hzz
    have no : goodR none es = false → wordB es = false := fun h => by simp [wordB, h]
    have hne : nod es = nod d + (2 + 2 * e.2.sz + nod r) := by rw [ha, nod_app]; rfl
    simp only [goodR] at h2
    simp only [run0, run1, run2, run3, run4, run5, run6, run7, run8, run9, run10, run11, run12, run13, run14, run15, run16, run17, run18, run19, run20, run21, run22, reduceCtorEq, Nat.reduceEqDiff, Nat.reduceAdd, Nat.reduceSub, Nat.reduceLeDiff, indexAddrA, indexRefA, appendA, strA, Nat.reduceMul, Nat.zero_mul, Nat.reduceMod, Int.reduceEq, Int.reduceLT, Int.reduceLE, Nat.reduceLT, Nat.lt_irrefl, Nat.reduceBEq, tys0, tys1, tys2, tys3, tys4, tys5, tys6, tys7, tys8, tys9, tys10, tys11, tys12, tys13, tys14, tys15, tys16, tys17, tys18, tys19, tys20, tys21, tys22, tys23, Try.ntmps8, Try.results8, e1, e2, Int.toNat_natCast, Int.natCast_nonneg]
    refine RunL.callp rfl rfl ok_f20 (hg) (by first | rfl | simp only [pureL, pureB, Bool.and_self, Bool.and_true, Bool.true_and, Od.elems_pure, Od.pay_pure, Od.av_pure]) rfl ?_
    cases c1 : goodT e.2
    · have w1 : IntKind.i64.wrap ((0 : Int) + 1) = 1 := rfl
      have w2 : IntKind.i64.wrap (1 + (nod d : Int) + 1) = 1 + (nod d : Int) + 1 := wr_n (by omega) (by omega)
      simp only [run0, run1, run2, run3, run4, run5, run6, run7, run8, run9, run10, run11, run12, run13, run14, run15, run16, run17, run18, run19, run20, run21, run22, reduceCtorEq, Nat.reduceEqDiff, Nat.reduceAdd, Nat.reduceSub, Nat.reduceLeDiff, indexAddrA, indexRefA, appendA, strA, Nat.reduceMul, Nat.zero_mul, Nat.reduceMod, Int.reduceEq, Int.reduceLT, Int.reduceLE, Nat.reduceLT, Nat.lt_irrefl, Nat.reduceBEq, tys0, tys1, tys2, tys3, tys4, tys5, tys6, tys7, tys8, tys9, tys10, tys11, tys12, tys13, tys14, tys15, tys16, tys17, tys18, tys19, tys20, tys21, tys22, tys23, Try.ntmps8, Try.results8, c1, w1, w2]
      refine ⟨by kernel_rfl, ?_⟩
      exact Fin.eq (by rw [no (by rw [← h2, c1]; rfl)]) rfl
    have w1 : IntKind.i64.wrap (1 + 2 * (e.2.sz : Int) + 1) = 1 + 2 * (e.2.sz : Int) + 1 := wr_n (by omega) (by omega)
    have w2 : IntKind.i64.wrap (1 + (nod d : Int) + (1 + 2 * (e.2.sz : Int) + 1)) = 1 + (nod (d ++ [e]) : Int) := by
      rw [wr_n (by omega) (by omega), nod_app]; simp only [nod]; omega
    by_cases c4 : (60 : Int) < 1 + (nod (d ++ [e]) : Int)
    · simp only [run0, run1, run2, run3, run4, run5, run6, run7, run8, run9, run10, run11, run12, run13, run14, run15, run16, run17, run18, run19, run20, run21, run22, reduceCtorEq, Nat.reduceEqDiff, Nat.reduceAdd, Nat.reduceSub, Nat.reduceLeDiff, indexAddrA, indexRefA, appendA, strA, Nat.reduceMul, Nat.zero_mul, Nat.reduceMod, Int.reduceEq, Int.reduceLT, Int.reduceLE, Nat.reduceLT, Nat.lt_irrefl, Nat.reduceBEq, tys0, tys1, tys2, tys3, tys4, tys5, tys6, tys7, tys8, tys9, tys10, tys11, tys12, tys13, tys14, tys15, tys16, tys17, tys18, tys19, tys20, tys21, tys22, tys23, Try.ntmps8, Try.results8, c1, w1, w2, c4]
      refine ⟨by kernel_rfl, ?_⟩
      refine Fin.eq ?_ rfl
      have : ¬ (1 + nod es ≤ 60) := by rw [nod_app] at c4; simp only [nod] at c4; omega
      simp [wordB, this]
    simp only [run0, run1, run2, run3, run4, run5, run6, run7, run8, run9, run10, run11, run12, run13, run14, run15, run16, run17, run18, run19, run20, run21, run22, reduceCtorEq, Nat.reduceEqDiff, Nat.reduceAdd, Nat.reduceSub, Nat.reduceLeDiff, indexAddrA, indexRefA, appendA, strA, Nat.reduceMul, Nat.zero_mul, Nat.reduceMod, Int.reduceEq, Int.reduceLT, Int.reduceLE, Nat.reduceLT, Nat.lt_irrefl, Nat.reduceBEq, tys0, tys1, tys2, tys3, tys4, tys5, tys6, tys7, tys8, tys9, tys10, tys11, tys12, tys13, tys14, tys15, tys16, tys17, tys18, tys19, tys20, tys21, tys22, tys23, Try.ntmps8, Try.results8, c1, w1, w2, c4]
    refine ⟨by kernel_rfl, ?_⟩
    refine RunL.callp rfl rfl ok_f21 (hzz) (by first | rfl | simp only [pureL, pureB, Bool.and_self, Bool.and_true, Bool.true_and, Od.elems_pure, Od.pay_pure, Od.av_pure]) rfl ?_
    cases c2 : isZ e.2
    case true =>
      simp only [run0, run1, run2, run3, run4, run5, run6, run7, run8, run9, run10, run11, run12, run13, run14, run15, run16, run17, run18, run19, run20, run21, run22, reduceCtorEq, Nat.reduceEqDiff, Nat.reduceAdd, Nat.reduceSub, Nat.reduceLeDiff, indexAddrA, indexRefA, appendA, strA, Nat.reduceMul, Nat.zero_mul, Nat.reduceMod, Int.reduceEq, Int.reduceLT, Int.reduceLE, Nat.reduceLT, Nat.lt_irrefl, Nat.reduceBEq, tys0, tys1, tys2, tys3, tys4, tys5, tys6, tys7, tys8, tys9, tys10, tys11, tys12, tys13, tys14, tys15, tys16, tys17, tys18, tys19, tys20, tys21, tys22, tys23, Try.ntmps8, Try.results8, c2]
      exact Fin.eq (by rw [no (by rw [← h2, c1, c2]; rfl)]) rfl
    rw [c1, c2] at h2
    simp only [Bool.true_and, Bool.not_false] at h2
    have h3' : 1 + nod (d ++ [e]) ≤ 60 := by omega
    cases P with
    | none =>
      simp only [AheadN] at hA
      subst hA
      simp only [Option.map_none, Bool.true_and, show ((none : Option Bool) != some e.1) = true from rfl] at h2
      simp only [run0, run1, run2, run3, run4, run5, run6, run7, run8, run9, run10, run11, run12, run13, run14, run15, run16, run17, run18, run19, run20, run21, run22, reduceCtorEq, Nat.reduceEqDiff, Nat.reduceAdd, Nat.reduceSub, Nat.reduceLeDiff, indexAddrA, indexRefA, appendA, strA, Nat.reduceMul, Nat.zero_mul, Nat.reduceMod, Int.reduceEq, Int.reduceLT, Int.reduceLE, Nat.reduceLT, Nat.lt_irrefl, Nat.reduceBEq, tys0, tys1, tys2, tys3, tys4, tys5, tys6, tys7, tys8, tys9, tys10, tys11, tys12, tys13, tys14, tys15, tys16, tys17, tys18, tys19, tys20, tys21, tys22, tys23, Try.ntmps8, Try.results8, c2, e5, List.length_nil, Int.natCast_zero, Int.lt_irrefl]
      exact ⟨([e], r, some e, _), ⟨ha, ⟨[], rfl⟩, h2, h3'⟩, by simp, by simp only [List.length_append, List.length_cons, List.length_nil, List.nil_append]; repeat constructor, rfl⟩
    | some q =>
      obtain ⟨d0, hd⟩ := hA
      have hdl : d.length = d0.length + 1 := by rw [hd]; simp
      have e6 : (0 : Int) < (d.length : Int) := by omega
      have e7 : IntKind.i64.wrap ((d.length : Int) - 1) = (d0.length : Int) := by rw [wr_n (by omega) (by omega)]; omega
      have e8 : (es.map enE)[d0.length]? = some (.agg [.bool q.1, .sl false (elems q.2)]) := by
        rw [ha, hd, List.append_assoc]; exact enE_get d0 (e :: r) q
      have e9 : (d0.length : Int) < (es.length : Int) := by omega
      simp only [Option.map_some] at h2
      have hq : (some q.1 != some e.1) = !(q.1 == e.1) := by cases q.1 <;> cases e.1 <;> rfl
      rw [hq] at h2
      cases c3 : (q.1 == e.1)
      · rw [c3] at h2
        simp only [Bool.true_and, Bool.not_false] at h2
        simp only [run0, run1, run2, run3, run4, run5, run6, run7, run8, run9, run10, run11, run12, run13, run14, run15, run16, run17, run18, run19, run20, run21, run22, reduceCtorEq, Nat.reduceEqDiff, Nat.reduceAdd, Nat.reduceSub, Nat.reduceLeDiff, indexAddrA, indexRefA, appendA, strA, Nat.reduceMul, Nat.zero_mul, Nat.reduceMod, Int.reduceEq, Int.reduceLT, Int.reduceLE, Nat.reduceLT, Nat.lt_irrefl, Nat.reduceBEq, tys0, tys1, tys2, tys3, tys4, tys5, tys6, tys7, tys8, tys9, tys10, tys11, tys12, tys13, tys14, tys15, tys16, tys17, tys18, tys19, tys20, tys21, tys22, tys23, Try.ntmps8, Try.results8, c2, c3, e5, e6, e7, e8, e9, Int.toNat_natCast, Int.natCast_nonneg]
        exact ⟨(d ++ [e], r, some e, _), ⟨by simp [ha], ⟨d, rfl⟩, h2, h3'⟩, by simp, by simp only [List.length_append, List.length_cons, List.length_nil]; repeat constructor, rfl⟩
      · simp only [run0, run1, run2, run3, run4, run5, run6, run7, run8, run9, run10, run11, run12, run13, run14, run15, run16, run17, run18, run19, run20, run21, run22, reduceCtorEq, Nat.reduceEqDiff, Nat.reduceAdd, Nat.reduceSub, Nat.reduceLeDiff, indexAddrA, indexRefA, appendA, strA, Nat.reduceMul, Nat.zero_mul, Nat.reduceMod, Int.reduceEq, Int.reduceLT, Int.reduceLE, Nat.reduceLT, Nat.lt_irrefl, Nat.reduceBEq, tys0, tys1, tys2, tys3, tys4, tys5, tys6, tys7, tys8, tys9, tys10, tys11, tys12, tys13, tys14, tys15, tys16, tys17, tys18, tys19, tys20, tys21, tys22, tys23, Try.ntmps8, Try.results8, c2, c3, e6, e7, e8, e9, Int.toNat_natCast, Int.natCast_nonneg]
        exact Fin.eq (by rw [no (by rw [← h2, c3]; rfl)]) rfl

theorem specSize_ok (es : List En) (hl : es.length ≤ 1048576) (hs : ∀ e ∈ es, e.2.sz ≤ 1048576) (hz : lsz es ≤ 1048576) : Ct Try.prog 37 [.agg [.sl false (es.map enE)]] [] (.int .i64 (1 + nod es)) [] := by
  refine Ct.by_ hmix [] Try.func37 rfl ?_
  simp only [run0, run1, run2, run3, run4, run5, run6, run7, run8, run9, run10, run11, run12, run13, run14, run15, run16, run17, run18, run19, run20, run21, run22, reduceCtorEq, Nat.reduceEqDiff, Nat.reduceAdd, Nat.reduceSub, Nat.reduceLeDiff, indexAddrA, indexRefA, appendA, strA, Nat.reduceMul, Nat.zero_mul, Nat.reduceMod, Int.reduceEq, Int.reduceLT, Int.reduceLE, Nat.reduceLT, Nat.lt_irrefl, Nat.reduceBEq, tys0, tys1, tys2, tys3, tys4, tys5, tys6, tys7, tys8, tys9, tys10, tys11, tys12, tys13, tys14, tys15, tys16, tys17, tys18, tys19, tys20, tys21, tys22, tys23, Try.ntmps37, Try.results37]
  refine AWp.loop_inv (ι := List En × List En × List AObj) (fun p => ⟨[.agg [.sl false (es.map enE)], .ptr 0 0, .int .i64 0, .int .i64 (1 + nod p.1), .junk, .junk, .junk, .sl false (es.map enE), .int .i64 es.length, .int .i64 p.1.length, .junk, .junk, .junk, .junk, .junk, .junk, .junk, .junk, .junk, .junk, .junk], .box 29 [.sl false (es.map enE)] :: p.2.2⟩)
    (fun p => es = p.1 ++ p.2.1) (fun p => p.2.1.length) ([], es, []) rfl ⟨by simp only [List.length_nil, Int.natCast_zero, nod, Int.add_zero]; repeat constructor, rfl⟩ ?_
  rintro ⟨d, r, X⟩ ha
  refine W.sound hmix (E := []) ?_
  simp only at ha
  have hda : d.length + r.length = es.length := by rw [ha, List.length_append]
  cases r with
  | nil =>
    have e1 : ¬ ((d.length : Int) < (es.length : Int)) := by simp at hda; omega
    simp only [run0, run1, run2, run3, run4, run5, run6, run7, run8, run9, run10, run11, run12, run13, run14, run15, run16, run17, run18, run19, run20, run21, run22, reduceCtorEq, Nat.reduceEqDiff, Nat.reduceAdd, Nat.reduceSub, Nat.reduceLeDiff, indexAddrA, indexRefA, appendA, strA, Nat.reduceMul, Nat.zero_mul, Nat.reduceMod, Int.reduceEq, Int.reduceLT, Int.reduceLE, Nat.reduceLT, Nat.lt_irrefl, Nat.reduceBEq, tys0, tys1, tys2, tys3, tys4, tys5, tys6, tys7, tys8, tys9, tys10, tys11, tys12, tys13, tys14, tys15, tys16, tys17, tys18, tys19, tys20, tys21, tys22, tys23, Try.ntmps37, Try.results37, e1]
    rw [List.append_nil] at ha
    exact Fin.eq (by rw [ha]) rfl
  | cons e r =>
    simp only [List.length_cons] at hda
    have e1 : (d.length : Int) < (es.length : Int) := by omega
    have e2 : (es.map enE)[d.length]? = some (.agg [.bool e.1, .sl false (elems e.2)]) := by rw [ha]; exact enE_get d r e
    have e5 : IntKind.i64.wrap ((d.length : Int) + 1) = ((d ++ [e]).length : Int) := by rw [wr_n (by omega) (by omega)]; simp
    have g2 := hs e (by rw [ha]; simp)
    have hg := odSize_ok e.2 g2
    simp only [av] at hg
    have hn := nod_lsz d
    have hld : lsz d ≤ 1048576 := by rw [ha, lsz_app] at hz; omega
    have w1 : IntKind.i64.wrap (1 + (1 + 2 * (e.2.sz : Int))) = 1 + (1 + 2 * (e.2.sz : Int)) := wr_n (by omega) (by omega)
    have w2 : IntKind.i64.wrap (1 + (nod d : Int) + (1 + (1 + 2 * (e.2.sz : Int)))) = 1 + (nod (d ++ [e]) : Int) := by
      rw [wr_n (by omega) (by omega), nod_app]; simp only [nod]; omega
    simp only [run0, run1, run2, run3, run4, run5, run6, run7, run8, run9, run10, run11, run12, run13, run14, run15, run16, run17, run18, run19, run20, run21, run22, reduceCtorEq, Nat.reduceEqDiff, Nat.reduceAdd, Nat.reduceSub, Nat.reduceLeDiff, indexAddrA, indexRefA, appendA, strA, Nat.reduceMul, Nat.zero_mul, Nat.reduceMod, Int.reduceEq, Int.reduceLT, Int.reduceLE, Nat.reduceLT, Nat.lt_irrefl, Nat.reduceBEq, tys0, tys1, tys2, tys3, tys4, tys5, tys6, tys7, tys8, tys9, tys10, tys11, tys12, tys13, tys14, tys15, tys16, tys17, tys18, tys19, tys20, tys21, tys22, tys23, Try.ntmps37, Try.results37, e1, e2, Int.toNat_natCast, Int.natCast_nonneg]
    refine RunL.callp rfl rfl ok_f55 (hg) (by first | rfl | simp only [pureL, pureB, Bool.and_self, Bool.and_true, Bool.true_and, Od.elems_pure, Od.pay_pure, Od.av_pure]) rfl ?_
    simp only [run0, run1, run2, run3, run4, run5, run6, run7, run8, run9, run10, run11, run12, run13, run14, run15, run16, run17, run18, run19, run20, run21, run22, reduceCtorEq, Nat.reduceEqDiff, Nat.reduceAdd, Nat.reduceSub, Nat.reduceLeDiff, indexAddrA, indexRefA, appendA, strA, Nat.reduceMul, Nat.zero_mul, Nat.reduceMod, Int.reduceEq, Int.reduceLT, Int.reduceLE, Nat.reduceLT, Nat.lt_irrefl, Nat.reduceBEq, tys0, tys1, tys2, tys3, tys4, tys5, tys6, tys7, tys8, tys9, tys10, tys11, tys12, tys13, tys14, tys15, tys16, tys17, tys18, tys19, tys20, tys21, tys22, tys23, Try.ntmps37, Try.results37, w1, w2, e5]
    exact ⟨(d ++ [e], r, _), by simp [ha], by simp, by simp only [List.length_append, List.length_cons, List.length_nil]; repeat constructor, rfl⟩

theorem specGood_ok (es : List En) (hl : es.length ≤ 1048576) (hs : ∀ e ∈ es, e.2.sz ≤ 1048576) (hz : lsz es ≤ 1048576) : Ct Try.prog 18 [.agg [.sl false (es.map enE)]] [] (.bool (wordB es)) [] := by
  refine Ct.by_ hmix [] Try.func18 rfl ?_
  simp only [run0, run1, run2, run3, run4, run5, run6, run7, run8, run9, run10, run11, run12, run13, run14, run15, run16, run17, run18, run19, run20, run21, run22, reduceCtorEq, Nat.reduceEqDiff, Nat.reduceAdd, Nat.reduceSub, Nat.reduceLeDiff, indexAddrA, indexRefA, appendA, strA, Nat.reduceMul, Nat.zero_mul, Nat.reduceMod, Int.reduceEq, Int.reduceLT, Int.reduceLE, Nat.reduceLT, Nat.lt_irrefl, Nat.reduceBEq, tys0, tys1, tys2, tys3, tys4, tys5, tys6, tys7, tys8, tys9, tys10, tys11, tys12, tys13, tys14, tys15, tys16, tys17, tys18, tys19, tys20, tys21, tys22, tys23, Try.ntmps18, Try.results18]
  refine AWp.loop_inv (ι := List En × List En × Option En × List AObj) (fun p => ⟨[.agg [.sl false (es.map enE)], .ptr 0 0, .bool false, .junk, .junk, .junk, .sl false (es.map enE), .int .i64 es.length, .int .i64 p.1.length, .junk, .junk, .junk, .junk, .junk, .junk, .junk, .junk, .junk, .junk, .junk, .junk, .junk, .junk, .junk, .junk, .junk, .junk, .junk, .junk, .junk, .junk, .junk, .junk, .junk, .junk, .junk, .junk, .junk, .junk, .junk, .junk, .junk], .box 29 [.sl false (es.map enE)] :: p.2.2.2⟩)
    (fun p => es = p.1 ++ p.2.1 ∧ AheadN p.1 p.2.2.1 ∧ goodR (p.2.2.1.map (·.1)) p.2.1 = goodR none es) (fun p => p.2.1.length) ([], es, none, []) ⟨rfl, rfl, rfl⟩ ⟨by simp only [List.length_nil, Int.natCast_zero]; repeat constructor, rfl⟩ ?_
  rintro ⟨d, r, P, X⟩ ⟨ha, hA, h2⟩
  refine W.sound hmix (E := []) ?_
  simp only at ha hA h2
  have hda : d.length + r.length = es.length := by rw [ha, List.length_append]
  cases r with
  | nil =>
    have e1 : ¬ ((d.length : Int) < (es.length : Int)) := by simp at hda; omega
    simp only [run0, run1, run2, run3, run4, run5, run6, run7, run8, run9, run10, run11, run12, run13, run14, run15, run16, run17, run18, run19, run20, run21, run22, reduceCtorEq, Nat.reduceEqDiff, Nat.reduceAdd, Nat.reduceSub, Nat.reduceLeDiff, indexAddrA, indexRefA, appendA, strA, Nat.reduceMul, Nat.zero_mul, Nat.reduceMod, Int.reduceEq, Int.reduceLT, Int.reduceLE, Nat.reduceLT, Nat.lt_irrefl, Nat.reduceBEq, tys0, tys1, tys2, tys3, tys4, tys5, tys6, tys7, tys8, tys9, tys10, tys11, tys12, tys13, tys14, tys15, tys16, tys17, tys18, tys19, tys20, tys21, tys22, tys23, Try.ntmps18, Try.results18, e1]
    refine RunL.callp rfl rfl ok_f37 (specSize_ok es hl hs hz) (by simp only [pureL, pureB, enL_pure, Bool.and_self, Bool.and_true, Bool.true_and]) rfl ?_
    simp only [run0, run1, run2, run3, run4, run5, run6, run7, run8, run9, run10, run11, run12, run13, run14, run15, run16, run17, run18, run19, run20, run21, run22, reduceCtorEq, Nat.reduceEqDiff, Nat.reduceAdd, Nat.reduceSub, Nat.reduceLeDiff, indexAddrA, indexRefA, appendA, strA, Nat.reduceMul, Nat.zero_mul, Nat.reduceMod, Int.reduceEq, Int.reduceLT, Int.reduceLE, Nat.reduceLT, Nat.lt_irrefl, Nat.reduceBEq, tys0, tys1, tys2, tys3, tys4, tys5, tys6, tys7, tys8, tys9, tys10, tys11, tys12, tys13, tys14, tys15, tys16, tys17, tys18, tys19, tys20, tys21, tys22, tys23, Try.ntmps18, Try.results18]
    refine Fin.eq ?_ rfl
    simp only [goodR] at h2
    simp only [wordB, ← h2, Bool.true_and]
    congr 1
    rw [Bool.eq_iff_iff, decide_eq_true_eq, decide_eq_true_eq]; omega
  | cons e r =>
    simp only [List.length_cons] at hda
    have e1 : (d.length : Int) < (es.length : Int) := by omega
    have e2 : (es.map enE)[d.length]? = some (.agg [.bool e.1, .sl false (elems e.2)]) := by rw [ha]; exact enE_get d r e
    have e5 : IntKind.i64.wrap ((d.length : Int) + 1) = ((d ++ [e]).length : Int) := by rw [wr_n (by omega) (by omega)]; simp
    have g2 := hs e (by rw [ha]; simp)
    have hg := odGood_ok e.2 g2
    have hzz := odZero_ok e.2
    simp only [av] at hg hzz
    have no : goodR none es = false → wordB es = false := fun h => by simp [wordB, h]
    simp only [goodR] at h2
    simp only [run0, run1, run2, run3, run4, run5, run6, run7, run8, run9, run10, run11, run12, run13, run14, run15, run16, run17, run18, run19, run20, run21, run22, reduceCtorEq, Nat.reduceEqDiff, Nat.reduceAdd, Nat.reduceSub, Nat.reduceLeDiff, indexAddrA, indexRefA, appendA, strA, Nat.reduceMul, Nat.zero_mul, Nat.reduceMod, Int.reduceEq, Int.reduceLT, Int.reduceLE, Nat.reduceLT, Nat.lt_irrefl, Nat.reduceBEq, tys0, tys1, tys2, tys3, tys4, tys5, tys6, tys7, tys8, tys9, tys10, tys11, tys12, tys13, tys14, tys15, tys16, tys17, tys18, tys19, tys20, tys21, tys22, tys23, Try.ntmps18, Try.results18, e1, e2, Int.toNat_natCast, Int.natCast_nonneg]
    refine ⟨by kernel_rfl, ?_⟩
    refine RunL.callp rfl rfl ok_f35 (hg) (by first | rfl | simp only [pureL, pureB, Bool.and_self, Bool.and_true, Bool.true_and, Od.elems_pure, Od.pay_pure, Od.av_pure]) rfl ?_
    cases c1 : goodT e.2
    · simp only [run0, run1, run2, run3, run4, run5, run6, run7, run8, run9, run10, run11, run12, run13, run14, run15, run16, run17, run18, run19, run20, run21, run22, reduceCtorEq, Nat.reduceEqDiff, Nat.reduceAdd, Nat.reduceSub, Nat.reduceLeDiff, indexAddrA, indexRefA, appendA, strA, Nat.reduceMul, Nat.zero_mul, Nat.reduceMod, Int.reduceEq, Int.reduceLT, Int.reduceLE, Nat.reduceLT, Nat.lt_irrefl, Nat.reduceBEq, tys0, tys1, tys2, tys3, tys4, tys5, tys6, tys7, tys8, tys9, tys10, tys11, tys12, tys13, tys14, tys15, tys16, tys17, tys18, tys19, tys20, tys21, tys22, tys23, Try.ntmps18, Try.results18, c1]
      exact Fin.eq (by rw [no (by rw [← h2, c1]; rfl)]) rfl
    simp only [run0, run1, run2, run3, run4, run5, run6, run7, run8, run9, run10, run11, run12, run13, run14, run15, run16, run17, run18, run19, run20, run21, run22, reduceCtorEq, Nat.reduceEqDiff, Nat.reduceAdd, Nat.reduceSub, Nat.reduceLeDiff, indexAddrA, indexRefA, appendA, strA, Nat.reduceMul, Nat.zero_mul, Nat.reduceMod, Int.reduceEq, Int.reduceLT, Int.reduceLE, Nat.reduceLT, Nat.lt_irrefl, Nat.reduceBEq, tys0, tys1, tys2, tys3, tys4, tys5, tys6, tys7, tys8, tys9, tys10, tys11, tys12, tys13, tys14, tys15, tys16, tys17, tys18, tys19, tys20, tys21, tys22, tys23, Try.ntmps18, Try.results18, c1]
    refine RunL.callp rfl rfl ok_f36 (hzz) (by first | rfl | simp only [pureL, pureB, Bool.and_self, Bool.and_true, Bool.true_and, Od.elems_pure, Od.pay_pure, Od.av_pure]) rfl ?_
    cases c2 : isZ e.2
    case true =>
      simp only [run0, run1, run2, run3, run4, run5, run6, run7, run8, run9, run10, run11, run12, run13, run14, run15, run16, run17, run18, run19, run20, run21, run22, reduceCtorEq, Nat.reduceEqDiff, Nat.reduceAdd, Nat.reduceSub, Nat.reduceLeDiff, indexAddrA, indexRefA, appendA, strA, Nat.reduceMul, Nat.zero_mul, Nat.reduceMod, Int.reduceEq, Int.reduceLT, Int.reduceLE, Nat.reduceLT, Nat.lt_irrefl, Nat.reduceBEq, tys0, tys1, tys2, tys3, tys4, tys5, tys6, tys7, tys8, tys9, tys10, tys11, tys12, tys13, tys14, tys15, tys16, tys17, tys18, tys19, tys20, tys21, tys22, tys23, Try.ntmps18, Try.results18, c2]
      exact Fin.eq (by rw [no (by rw [← h2, c1, c2]; rfl)]) rfl
    rw [c1, c2] at h2
    simp only [Bool.true_and, Bool.not_false] at h2
    cases P with
    | none =>
      simp only [AheadN] at hA
      subst hA
      simp only [Option.map_none, Bool.true_and, show ((none : Option Bool) != some e.1) = true from rfl] at h2
      simp only [run0, run1, run2, run3, run4, run5, run6, run7, run8, run9, run10, run11, run12, run13, run14, run15, run16, run17, run18, run19, run20, run21, run22, reduceCtorEq, Nat.reduceEqDiff, Nat.reduceAdd, Nat.reduceSub, Nat.reduceLeDiff, indexAddrA, indexRefA, appendA, strA, Nat.reduceMul, Nat.zero_mul, Nat.reduceMod, Int.reduceEq, Int.reduceLT, Int.reduceLE, Nat.reduceLT, Nat.lt_irrefl, Nat.reduceBEq, tys0, tys1, tys2, tys3, tys4, tys5, tys6, tys7, tys8, tys9, tys10, tys11, tys12, tys13, tys14, tys15, tys16, tys17, tys18, tys19, tys20, tys21, tys22, tys23, Try.ntmps18, Try.results18, c2, e5, List.length_nil, Int.natCast_zero, Int.lt_irrefl]
      exact ⟨([e], r, some e, _), ⟨ha, ⟨[], rfl⟩, h2⟩, by simp, by simp only [List.length_append, List.length_cons, List.length_nil]; repeat constructor, rfl⟩
    | some q =>
      obtain ⟨d0, hd⟩ := hA
      have hdl : d.length = d0.length + 1 := by rw [hd]; simp
      have e6 : (0 : Int) < (d.length : Int) := by omega
      have e7 : IntKind.i64.wrap ((d.length : Int) - 1) = (d0.length : Int) := by rw [wr_n (by omega) (by omega)]; omega
      have e8 : (es.map enE)[d0.length]? = some (.agg [.bool q.1, .sl false (elems q.2)]) := by
        rw [ha, hd, List.append_assoc]; exact enE_get d0 (e :: r) q
      have e9 : (d0.length : Int) < (es.length : Int) := by omega
      simp only [Option.map_some] at h2
      have hq : (some q.1 != some e.1) = !(q.1 == e.1) := by cases q.1 <;> cases e.1 <;> rfl
      rw [hq] at h2
      cases c3 : (q.1 == e.1)
      · rw [c3] at h2
        simp only [Bool.true_and, Bool.not_false] at h2
        simp only [run0, run1, run2, run3, run4, run5, run6, run7, run8, run9, run10, run11, run12, run13, run14, run15, run16, run17, run18, run19, run20, run21, run22, reduceCtorEq, Nat.reduceEqDiff, Nat.reduceAdd, Nat.reduceSub, Nat.reduceLeDiff, indexAddrA, indexRefA, appendA, strA, Nat.reduceMul, Nat.zero_mul, Nat.reduceMod, Int.reduceEq, Int.reduceLT, Int.reduceLE, Nat.reduceLT, Nat.lt_irrefl, Nat.reduceBEq, tys0, tys1, tys2, tys3, tys4, tys5, tys6, tys7, tys8, tys9, tys10, tys11, tys12, tys13, tys14, tys15, tys16, tys17, tys18, tys19, tys20, tys21, tys22, tys23, Try.ntmps18, Try.results18, c2, c3, e5, e6, e7, e8, e9, Int.toNat_natCast, Int.natCast_nonneg]
        exact ⟨(d ++ [e], r, some e, _), ⟨by simp [ha], ⟨d, rfl⟩, h2⟩, by simp, by simp only [List.length_append, List.length_cons, List.length_nil]; repeat constructor, rfl⟩
      · simp only [run0, run1, run2, run3, run4, run5, run6, run7, run8, run9, run10, run11, run12, run13, run14, run15, run16, run17, run18, run19, run20, run21, run22, reduceCtorEq, Nat.reduceEqDiff, Nat.reduceAdd, Nat.reduceSub, Nat.reduceLeDiff, indexAddrA, indexRefA, appendA, strA, Nat.reduceMul, Nat.zero_mul, Nat.reduceMod, Int.reduceEq, Int.reduceLT, Int.reduceLE, Nat.reduceLT, Nat.lt_irrefl, Nat.reduceBEq, tys0, tys1, tys2, tys3, tys4, tys5, tys6, tys7, tys8, tys9, tys10, tys11, tys12, tys13, tys14, tys15, tys16, tys17, tys18, tys19, tys20, tys21, tys22, tys23, Try.ntmps18, Try.results18, c2, c3, e6, e7, e8, e9, Int.toNat_natCast, Int.natCast_nonneg]
        exact Fin.eq (by rw [no (by rw [← h2, c3]; rfl)]) rfl
theorem specIs_ok (es : List En) (hl : es.length ≤ 1048576) (hs : ∀ e ∈ es, e.2.sz ≤ 1048576) (hz : lsz es ≤ 1048576) : Ct Try.prog 6 [.agg [.sl false (es.map enE)]] [] (.bool (wordB es)) [] := by
  refine Ct.by_ hmix [] Try.func6 rfl ?_
  simp only [run0, run1, run2, run3, run4, run5, run6, run7, run8, run9, run10, run11, run12, run13, run14, run15, run16, run17, run18, run19, run20, run21, run22, reduceCtorEq, Nat.reduceEqDiff, Nat.reduceAdd, Nat.reduceSub, Nat.reduceLeDiff, indexAddrA, indexRefA, appendA, strA, Nat.reduceMul, Nat.zero_mul, Nat.reduceMod, Int.reduceEq, Int.reduceLT, Int.reduceLE, Nat.reduceLT, Nat.lt_irrefl, Nat.reduceBEq, tys0, tys1, tys2, tys3, tys4, tys5, tys6, tys7, tys8, tys9, tys10, tys11, tys12, tys13, tys14, tys15, tys16, tys17, tys18, tys19, tys20, tys21, tys22, tys23, Try.ntmps6, Try.results6]
  refine RunL.callp rfl rfl ok_f18 (specGood_ok es hl hs hz) (by simp only [pureL, pureB, enL_pure, Bool.and_self, Bool.and_true, Bool.true_and]) rfl ?_
  simp only [run0, run1, run2, run3, run4, run5, run6, run7, run8, run9, run10, run11, run12, run13, run14, run15, run16, run17, run18, run19, run20, run21, run22, reduceCtorEq, Nat.reduceEqDiff, Nat.reduceAdd, Nat.reduceSub, Nat.reduceLeDiff, indexAddrA, indexRefA, appendA, strA, Nat.reduceMul, Nat.zero_mul, Nat.reduceMod, Int.reduceEq, Int.reduceLT, Int.reduceLE, Nat.reduceLT, Nat.lt_irrefl, Nat.reduceBEq, tys0, tys1, tys2, tys3, tys4, tys5, tys6, tys7, tys8, tys9, tys10, tys11, tys12, tys13, tys14, tys15, tys16, tys17, tys18, tys19, tys20, tys21, tys22, tys23, Try.ntmps6, Try.results6]
  exact Fin.eq rfl rfl

theorem FnExactIsWord_ok {a0 : AV} (h0 : IsOf Try.prog 24 a0) : Ct Try.prog 3 [a0] [] (.bool true) [] := by
  obtain ⟨es, rfl, hf⟩ := laws_isNb h0
  refine Ct.by_ hmix [] Try.func3 rfl ?_
  simp only [run0, run1, run2, run3, run4, run5, run6, run7, run8, run9, run10, run11, run12, run13, run14, run15, run16, run17, run18, run19, run20, run21, run22, reduceCtorEq, Nat.reduceEqDiff, Nat.reduceAdd, Nat.reduceSub, Nat.reduceLeDiff, indexAddrA, indexRefA, appendA, strA, Nat.reduceMul, Nat.zero_mul, Nat.reduceMod, Int.reduceEq, Int.reduceLT, Int.reduceLE, Nat.reduceLT, Nat.lt_irrefl, Nat.reduceBEq, tys0, tys1, tys2, tys3, tys4, tys5, tys6, tys7, tys8, tys9, tys10, tys11, tys12, tys13, tys14, tys15, tys16, tys17, tys18, tys19, tys20, tys21, tys22, tys23, Try.ntmps3, Try.results3]
  refine RunL.callp rfl rfl ok_f5 (szWord_ok es 1048576 hf (by omega) (by omega)) (by simp only [pureL, pureB, enL_pure, Bool.and_self, Bool.and_true, Bool.true_and]) rfl ?_
  rcases szR_spec (es.length + lsz es) 1048576 with ⟨hs, hr⟩ | ⟨hs, hr⟩
  case inr =>
    have e1 : szR (es.length + lsz es) 1048576 < 0 := by omega
    simp only [run0, run1, run2, run3, run4, run5, run6, run7, run8, run9, run10, run11, run12, run13, run14, run15, run16, run17, run18, run19, run20, run21, run22, reduceCtorEq, Nat.reduceEqDiff, Nat.reduceAdd, Nat.reduceSub, Nat.reduceLeDiff, indexAddrA, indexRefA, appendA, strA, Nat.reduceMul, Nat.zero_mul, Nat.reduceMod, Int.reduceEq, Int.reduceLT, Int.reduceLE, Nat.reduceLT, Nat.lt_irrefl, Nat.reduceBEq, tys0, tys1, tys2, tys3, tys4, tys5, tys6, tys7, tys8, tys9, tys10, tys11, tys12, tys13, tys14, tys15, tys16, tys17, tys18, tys19, tys20, tys21, tys22, tys23, Try.ntmps3, Try.results3, e1]
    exact Fin.eq rfl rfl
  have e1 : ¬ (szR (es.length + lsz es) 1048576 < 0) := by omega
  have hl : es.length ≤ 1048576 := by omega
  have hz : lsz es ≤ 1048576 := by omega
  have hs2 : ∀ e ∈ es, e.2.sz ≤ 1048576 := fun e he => by
    obtain ⟨d, r, rfl⟩ := List.append_of_mem he
    rw [lsz_app] at hz
    simp only [lsz, esz] at hz
    omega
  simp only [run0, run1, run2, run3, run4, run5, run6, run7, run8, run9, run10, run11, run12, run13, run14, run15, run16, run17, run18, run19, run20, run21, run22, reduceCtorEq, Nat.reduceEqDiff, Nat.reduceAdd, Nat.reduceSub, Nat.reduceLeDiff, indexAddrA, indexRefA, appendA, strA, Nat.reduceMul, Nat.zero_mul, Nat.reduceMod, Int.reduceEq, Int.reduceLT, Int.reduceLE, Nat.reduceLT, Nat.lt_irrefl, Nat.reduceBEq, tys0, tys1, tys2, tys3, tys4, tys5, tys6, tys7, tys8, tys9, tys10, tys11, tys12, tys13, tys14, tys15, tys16, tys17, tys18, tys19, tys20, tys21, tys22, tys23, Try.ntmps3, Try.results3, e1]
  refine RunL.callp rfl rfl ok_f7 (toWord_ok es hl hs2) (by simp only [pureL, pureB, enL_pure, Bool.and_self, Bool.and_true, Bool.true_and]) rfl ?_
  simp only [run0, run1, run2, run3, run4, run5, run6, run7, run8, run9, run10, run11, run12, run13, run14, run15, run16, run17, run18, run19, run20, run21, run22, reduceCtorEq, Nat.reduceEqDiff, Nat.reduceAdd, Nat.reduceSub, Nat.reduceLeDiff, indexAddrA, indexRefA, appendA, strA, Nat.reduceMul, Nat.zero_mul, Nat.reduceMod, Int.reduceEq, Int.reduceLT, Int.reduceLE, Nat.reduceLT, Nat.lt_irrefl, Nat.reduceBEq, tys0, tys1, tys2, tys3, tys4, tys5, tys6, tys7, tys8, tys9, tys10, tys11, tys12, tys13, tys14, tys15, tys16, tys17, tys18, tys19, tys20, tys21, tys22, tys23, Try.ntmps3, Try.results3]
  refine RunL.callp rfl rfl ok_f6 (specIs_ok es hl hs2 hz) (by simp only [pureL, pureB, enL_pure, Bool.and_self, Bool.and_true, Bool.true_and]) rfl ?_
  simp only [run0, run1, run2, run3, run4, run5, run6, run7, run8, run9, run10, run11, run12, run13, run14, run15, run16, run17, run18, run19, run20, run21, run22, reduceCtorEq, Nat.reduceEqDiff, Nat.reduceAdd, Nat.reduceSub, Nat.reduceLeDiff, indexAddrA, indexRefA, appendA, strA, Nat.reduceMul, Nat.zero_mul, Nat.reduceMod, Int.reduceEq, Int.reduceLT, Int.reduceLE, Nat.reduceLT, Nat.lt_irrefl, Nat.reduceBEq, tys0, tys1, tys2, tys3, tys4, tys5, tys6, tys7, tys8, tys9, tys10, tys11, tys12, tys13, tys14, tys15, tys16, tys17, tys18, tys19, tys20, tys21, tys22, tys23, Try.ntmps3, Try.results3]
  refine RunL.callp rfl rfl ok_f7 (toWord_ok es hl hs2) (by simp only [pureL, pureB, enL_pure, Bool.and_self, Bool.and_true, Bool.true_and]) rfl ?_
  simp only [run0, run1, run2, run3, run4, run5, run6, run7, run8, run9, run10, run11, run12, run13, run14, run15, run16, run17, run18, run19, run20, run21, run22, reduceCtorEq, Nat.reduceEqDiff, Nat.reduceAdd, Nat.reduceSub, Nat.reduceLeDiff, indexAddrA, indexRefA, appendA, strA, Nat.reduceMul, Nat.zero_mul, Nat.reduceMod, Int.reduceEq, Int.reduceLT, Int.reduceLE, Nat.reduceLT, Nat.lt_irrefl, Nat.reduceBEq, tys0, tys1, tys2, tys3, tys4, tys5, tys6, tys7, tys8, tys9, tys10, tys11, tys12, tys13, tys14, tys15, tys16, tys17, tys18, tys19, tys20, tys21, tys22, tys23, Try.ntmps3, Try.results3]
  refine RunL.callp rfl rfl ok_f8 (implWord_ok es hl hs2) (by simp only [pureL, pureB, enL_pure, Bool.and_self, Bool.and_true, Bool.true_and]) rfl ?_
  simp only [run0, run1, run2, run3, run4, run5, run6, run7, run8, run9, run10, run11, run12, run13, run14, run15, run16, run17, run18, run19, run20, run21, run22, reduceCtorEq, Nat.reduceEqDiff, Nat.reduceAdd, Nat.reduceSub, Nat.reduceLeDiff, indexAddrA, indexRefA, appendA, strA, Nat.reduceMul, Nat.zero_mul, Nat.reduceMod, Int.reduceEq, Int.reduceLT, Int.reduceLE, Nat.reduceLT, Nat.lt_irrefl, Nat.reduceBEq, tys0, tys1, tys2, tys3, tys4, tys5, tys6, tys7, tys8, tys9, tys10, tys11, tys12, tys13, tys14, tys15, tys16, tys17, tys18, tys19, tys20, tys21, tys22, tys23, Try.ntmps3, Try.results3, bne_self_eq_false]
  refine ⟨by kernel_rfl, ?_⟩
  refine RunL.callp rfl rfl ok_f7 (toWord_ok es hl hs2) (by simp only [pureL, pureB, enL_pure, Bool.and_self, Bool.and_true, Bool.true_and]) rfl ?_
  simp only [run0, run1, run2, run3, run4, run5, run6, run7, run8, run9, run10, run11, run12, run13, run14, run15, run16, run17, run18, run19, run20, run21, run22, reduceCtorEq, Nat.reduceEqDiff, Nat.reduceAdd, Nat.reduceSub, Nat.reduceLeDiff, indexAddrA, indexRefA, appendA, strA, Nat.reduceMul, Nat.zero_mul, Nat.reduceMod, Int.reduceEq, Int.reduceLT, Int.reduceLE, Nat.reduceLT, Nat.lt_irrefl, Nat.reduceBEq, tys0, tys1, tys2, tys3, tys4, tys5, tys6, tys7, tys8, tys9, tys10, tys11, tys12, tys13, tys14, tys15, tys16, tys17, tys18, tys19, tys20, tys21, tys22, tys23, Try.ntmps3, Try.results3]
  refine RunL.callp rfl rfl ok_f9 (eqWord_ok es hl hs2) (by simp only [pureL, pureB, enL_pure, Bool.and_self, Bool.and_true, Bool.true_and]) rfl ?_
  simp only [run0, run1, run2, run3, run4, run5, run6, run7, run8, run9, run10, run11, run12, run13, run14, run15, run16, run17, run18, run19, run20, run21, run22, reduceCtorEq, Nat.reduceEqDiff, Nat.reduceAdd, Nat.reduceSub, Nat.reduceLeDiff, indexAddrA, indexRefA, appendA, strA, Nat.reduceMul, Nat.zero_mul, Nat.reduceMod, Int.reduceEq, Int.reduceLT, Int.reduceLE, Nat.reduceLT, Nat.lt_irrefl, Nat.reduceBEq, tys0, tys1, tys2, tys3, tys4, tys5, tys6, tys7, tys8, tys9, tys10, tys11, tys12, tys13, tys14, tys15, tys16, tys17, tys18, tys19, tys20, tys21, tys22, tys23, Try.ntmps3, Try.results3]
  exact Fin.eq rfl rfl

end Go.Proofs.Ytminjhhabonjaaa
