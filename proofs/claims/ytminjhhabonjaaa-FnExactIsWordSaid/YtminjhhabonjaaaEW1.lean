/-
  Words of runs: their sizes, their copies.
-/
import Derived.Test.YtminjhhabonjaaaG12
import Derived.Test.YtminjhhabonjaaaG11
namespace Go.Proofs.Ytminjhhabonjaaa
open Go K Od
set_option linter.unusedSimpArgs false
set_option linter.unusedVariables false
set_option maxHeartbeats 1600000
set_option maxRecDepth 8000

theorem wr_id {x : Int} (h1 : -9223372036854775808 ≤ x) (h2 : x < 9223372036854775808) : IntKind.i64.wrap x = x := w64_id h1 (by omega)
abbrev En := Bool × Od
def enE (e : En) : AV := .agg [.bool e.1, .sl false (elems e.2)]
def esz (e : En) : Nat := e.2.sz
def lsz : List En → Nat
  | [] => 0
  | e :: r => esz e + lsz r
def fitN (es : List En) : Prop := es.length ≤ maxLen ∧ ∀ e ∈ es, fit e.2
theorem lsz_app : ∀ d r : List En, lsz (d ++ r) = lsz d + lsz r
  | [], r => by simp [lsz]
  | e :: d, r => by simp only [List.cons_append, lsz, lsz_app d r]; omega
theorem enE_get (d r : List En) (e : En) : ((d ++ e :: r).map enE)[d.length]? = some (.agg [.bool e.1, .sl false (elems e.2)]) := by simp [enE]

theorem enL_pure : ∀ es : List En, pureL (es.map enE) = true
  | [] => rfl
  | e :: r => by simp [enE, pureL, pureB, elems_pure, enL_pure r]
theorem nb_list : ∀ es : List AV, (∀ x ∈ es, IsOf Try.prog 73 x) → ∃ l : List En, es = l.map enE ∧ ∀ e ∈ l, fit e.2
  | [], _ => ⟨[], rfl, by simp⟩
  | x :: es, hes => by
    obtain ⟨l, rfl, h2⟩ := nb_list es fun y hy => hes y (List.mem_cons_of_mem _ hy)
    obtain ⟨k, cs, rfl, hcl, hx⟩ := (hes x (List.mem_cons_self ..)).agg ty_a73
    rw [ty_c73] at hcl
    match cs, hcl with
    | [u, v], _ =>
      obtain ⟨_, g0⟩ := hx.field ty_f73_0
      obtain ⟨_, g1⟩ := hx.field ty_f73_1
      obtain ⟨s, e1⟩ := g0.bool Try.underlying4
      obtain ⟨a, e2, ha⟩ := (laws_odC _).2.1 _ g1
      rw [ty_c4] at e1
      rw [ty_c71] at e2
      simp at e1 e2
      subst e1 e2
      refine ⟨(s, a) :: l, rfl, fun e he => ?_⟩
      rcases List.mem_cons.1 he with rfl | he
      · exact ha
      · exact h2 e he
theorem laws_isNb {x : AV} (h : IsOf Try.prog 24 x) : ∃ es : List En, x = .agg [.sl false (es.map enE)] ∧ fitN es := by
  obtain ⟨n, cs, rfl, hl, h⟩ := h.agg ty_a24
  rw [ty_c24] at hl
  match cs, hl with
  | [y], _ =>
    obtain ⟨m, h0⟩ := h.field ty_f24_0
    rw [ty_c22] at h0
    simp only [List.drop_zero, List.take_succ_cons, List.take_zero] at h0
    obtain ⟨es, e0, hel, hes⟩ := h0.slice Try.underlying22
    simp only [List.cons.injEq, and_true] at e0
    subst e0
    clear h h0
    obtain ⟨l, rfl, h2⟩ := nb_list es hes
    exact ⟨l, rfl, by simpa using hel, h2⟩

/-! ### sizes -/
theorem szRun_ok (e : En) (l : Int) (hf : fit e.2) (h0 : 0 ≤ l) (h1 : l ≤ 1048576) : Ct Try.prog 34 [enE e, .int .i64 l] [] (.int .i64 (szR (esz e) l)) [] := by
  have hz := szOrdinal_ok e.2 l hf h0 h1
  simp only [av] at hz
  refine Ct.by_ hmix [] Try.func34 rfl ?_
  simp only [run0, run1, run2, run3, run4, run5, run6, run7, run8, run9, run10, run11, run12, run13, run14, run15, run16, run17, run18, run19, run20, run21, run22, reduceCtorEq, Nat.reduceEqDiff, Nat.reduceAdd, Nat.reduceSub, Nat.reduceLeDiff, indexAddrA, indexRefA, appendA, strA, Nat.reduceMul, Nat.zero_mul, Nat.reduceMod, Int.reduceEq, Int.reduceLT, Int.reduceLE, Nat.reduceLT, Nat.lt_irrefl, Nat.reduceBEq, tys0, tys1, tys2, tys3, tys4, tys5, tys6, tys7, tys8, tys9, tys10, tys11, tys12, tys13, tys14, tys15, tys16, tys17, tys18, tys19, tys20, tys21, tys22, tys23, Try.ntmps34, Try.results34, enE]
  refine RunL.callp rfl rfl ok_f52 (hz) (by first | rfl | simp only [pureL, pureB, Bool.and_self, Bool.and_true, Bool.true_and, Od.elems_pure, Od.pay_pure, Od.av_pure]) rfl ?_
  by_cases h2 : szR e.2.sz l < 0
  · simp only [run0, run1, run2, run3, run4, run5, run6, run7, run8, run9, run10, run11, run12, run13, run14, run15, run16, run17, run18, run19, run20, run21, run22, reduceCtorEq, Nat.reduceEqDiff, Nat.reduceAdd, Nat.reduceSub, Nat.reduceLeDiff, indexAddrA, indexRefA, appendA, strA, Nat.reduceMul, Nat.zero_mul, Nat.reduceMod, Int.reduceEq, Int.reduceLT, Int.reduceLE, Nat.reduceLT, Nat.lt_irrefl, Nat.reduceBEq, tys0, tys1, tys2, tys3, tys4, tys5, tys6, tys7, tys8, tys9, tys10, tys11, tys12, tys13, tys14, tys15, tys16, tys17, tys18, tys19, tys20, tys21, tys22, tys23, Try.ntmps34, Try.results34, h2]
    exact Fin.eq (by unfold esz; rw [szR_neg h2]) rfl
  · simp only [run0, run1, run2, run3, run4, run5, run6, run7, run8, run9, run10, run11, run12, run13, run14, run15, run16, run17, run18, run19, run20, run21, run22, reduceCtorEq, Nat.reduceEqDiff, Nat.reduceAdd, Nat.reduceSub, Nat.reduceLeDiff, indexAddrA, indexRefA, appendA, strA, Nat.reduceMul, Nat.zero_mul, Nat.reduceMod, Int.reduceEq, Int.reduceLT, Int.reduceLE, Nat.reduceLT, Nat.lt_irrefl, Nat.reduceBEq, tys0, tys1, tys2, tys3, tys4, tys5, tys6, tys7, tys8, tys9, tys10, tys11, tys12, tys13, tys14, tys15, tys16, tys17, tys18, tys19, tys20, tys21, tys22, tys23, Try.ntmps34, Try.results34, h2]
    exact Fin.eq rfl rfl
theorem szRunS_ok (es : List En) (l : Int) (hf : fitN es) (h0 : 0 ≤ l) (h1 : l ≤ 1048576) : Ct Try.prog 17 [.sl false (es.map enE), .int .i64 l] [] (.int .i64 (szR (es.length + lsz es) l)) [] := by
  have hl := hf.1
  rw [maxLen_eq] at hl
  have hw : IntKind.i64.wrap (l - (es.length : Int)) = l - es.length := wr_id (by omega) (by omega)
  refine Ct.by_ hmix [] Try.func17 rfl ?_
  simp only [run0, run1, run2, run3, run4, run5, run6, run7, run8, run9, run10, run11, run12, run13, run14, run15, run16, run17, run18, run19, run20, run21, run22, reduceCtorEq, Nat.reduceEqDiff, Nat.reduceAdd, Nat.reduceSub, Nat.reduceLeDiff, indexAddrA, indexRefA, appendA, strA, Nat.reduceMul, Nat.zero_mul, Nat.reduceMod, Int.reduceEq, Int.reduceLT, Int.reduceLE, Nat.reduceLT, Nat.lt_irrefl, Nat.reduceBEq, tys0, tys1, tys2, tys3, tys4, tys5, tys6, tys7, tys8, tys9, tys10, tys11, tys12, tys13, tys14, tys15, tys16, tys17, tys18, tys19, tys20, tys21, tys22, tys23, Try.ntmps17, Try.results17, hw]
  by_cases hn : l - (es.length : Int) < 0
  · simp only [run0, run1, run2, run3, run4, run5, run6, run7, run8, run9, run10, run11, run12, run13, run14, run15, run16, run17, run18, run19, run20, run21, run22, reduceCtorEq, Nat.reduceEqDiff, Nat.reduceAdd, Nat.reduceSub, Nat.reduceLeDiff, indexAddrA, indexRefA, appendA, strA, Nat.reduceMul, Nat.zero_mul, Nat.reduceMod, Int.reduceEq, Int.reduceLT, Int.reduceLE, Nat.reduceLT, Nat.lt_irrefl, Nat.reduceBEq, tys0, tys1, tys2, tys3, tys4, tys5, tys6, tys7, tys8, tys9, tys10, tys11, tys12, tys13, tys14, tys15, tys16, tys17, tys18, tys19, tys20, tys21, tys22, tys23, Try.ntmps17, Try.results17, hn]
    exact Fin.eq (by have := szR_spec (es.length + lsz es) l; congr 1; omega) rfl
  simp only [run0, run1, run2, run3, run4, run5, run6, run7, run8, run9, run10, run11, run12, run13, run14, run15, run16, run17, run18, run19, run20, run21, run22, reduceCtorEq, Nat.reduceEqDiff, Nat.reduceAdd, Nat.reduceSub, Nat.reduceLeDiff, indexAddrA, indexRefA, appendA, strA, Nat.reduceMul, Nat.zero_mul, Nat.reduceMod, Int.reduceEq, Int.reduceLT, Int.reduceLE, Nat.reduceLT, Nat.lt_irrefl, Nat.reduceBEq, tys0, tys1, tys2, tys3, tys4, tys5, tys6, tys7, tys8, tys9, tys10, tys11, tys12, tys13, tys14, tys15, tys16, tys17, tys18, tys19, tys20, tys21, tys22, tys23, Try.ntmps17, Try.results17, hn]
  refine AWp.loop_inv (ι := List En × List En × Int) (fun p => ⟨[.sl false (es.map enE), .int .i64 p.2.2, .junk, .junk, .int .i64 0, .int .i64 p.1.length, .junk, .junk, .junk, .junk, .junk, .junk, .junk, .junk, .junk, .junk, .junk, .junk, .junk, .junk, .junk, .junk, .junk, .junk, .junk, .junk, .junk], []⟩)
    (fun p => es = p.1 ++ p.2.1 ∧ 0 ≤ p.2.2 ∧ p.2.2 ≤ 1048576 ∧ szR (lsz p.2.1) p.2.2 = szR (es.length + lsz es) l) (fun p => p.2.1.length) ([], es, l - es.length)
    ⟨rfl, by simp only; omega, by simp only; omega, by simp only [szR]; split <;> split <;> omega⟩ ⟨by simp only [List.length_nil, Int.natCast_zero]; repeat constructor, rfl⟩ ?_
  rintro ⟨d, r, l'⟩ ⟨ha, h2, h3, h4⟩
  refine W.sound hmix (E := []) ?_
  simp only at ha h2 h3 h4
  have hda : d.length + r.length = es.length := by rw [ha, List.length_append]
  cases r with
  | nil =>
    have e1 : ¬ ((d.length : Int) < (es.length : Int)) := by simp at hda; omega
    simp only [run0, run1, run2, run3, run4, run5, run6, run7, run8, run9, run10, run11, run12, run13, run14, run15, run16, run17, run18, run19, run20, run21, run22, reduceCtorEq, Nat.reduceEqDiff, Nat.reduceAdd, Nat.reduceSub, Nat.reduceLeDiff, indexAddrA, indexRefA, appendA, strA, Nat.reduceMul, Nat.zero_mul, Nat.reduceMod, Int.reduceEq, Int.reduceLT, Int.reduceLE, Nat.reduceLT, Nat.lt_irrefl, Nat.reduceBEq, tys0, tys1, tys2, tys3, tys4, tys5, tys6, tys7, tys8, tys9, tys10, tys11, tys12, tys13, tys14, tys15, tys16, tys17, tys18, tys19, tys20, tys21, tys22, tys23, Try.ntmps17, Try.results17, e1]
    exact Fin.eq (by rw [← h4]; simp [szR, lsz, h2]) rfl
  | cons e r =>
    simp only [List.length_cons] at hda
    have e1 : (d.length : Int) < (es.length : Int) := by omega
    have e2 : (es.map enE)[d.length]? = some (.agg [.bool e.1, .sl false (elems e.2)]) := by rw [ha]; exact enE_get d r e
    have g2 := hf.2 e (by rw [ha]; simp)
    have e5 : IntKind.i64.wrap ((d.length : Int) + 1) = ((d ++ [e]).length : Int) := by rw [wr_id (by omega) (by omega)]; simp
    have hz := szRun_ok e l' g2 h2 h3
    simp only [enE] at hz
    simp only [run0, run1, run2, run3, run4, run5, run6, run7, run8, run9, run10, run11, run12, run13, run14, run15, run16, run17, run18, run19, run20, run21, run22, reduceCtorEq, Nat.reduceEqDiff, Nat.reduceAdd, Nat.reduceSub, Nat.reduceLeDiff, indexAddrA, indexRefA, appendA, strA, Nat.reduceMul, Nat.zero_mul, Nat.reduceMod, Int.reduceEq, Int.reduceLT, Int.reduceLE, Nat.reduceLT, Nat.lt_irrefl, Nat.reduceBEq, tys0, tys1, tys2, tys3, tys4, tys5, tys6, tys7, tys8, tys9, tys10, tys11, tys12, tys13, tys14, tys15, tys16, tys17, tys18, tys19, tys20, tys21, tys22, tys23, Try.ntmps17, Try.results17, e1, e2, Int.toNat_natCast, Int.natCast_nonneg]
    refine RunL.callp rfl rfl ok_f34 (hz) (by first | rfl | simp only [pureL, pureB, Bool.and_self, Bool.and_true, Bool.true_and, Od.elems_pure, Od.pay_pure, Od.av_pure]) rfl ?_
    have k1 := szR_spec (esz e) l'
    have k2 := szR_spec (lsz (e :: r)) l'
    have k3 := szR_spec (lsz r) (szR (esz e) l')
    simp only [lsz] at h4 k2
    by_cases h6 : szR (esz e) l' < 0
    · simp only [run0, run1, run2, run3, run4, run5, run6, run7, run8, run9, run10, run11, run12, run13, run14, run15, run16, run17, run18, run19, run20, run21, run22, reduceCtorEq, Nat.reduceEqDiff, Nat.reduceAdd, Nat.reduceSub, Nat.reduceLeDiff, indexAddrA, indexRefA, appendA, strA, Nat.reduceMul, Nat.zero_mul, Nat.reduceMod, Int.reduceEq, Int.reduceLT, Int.reduceLE, Nat.reduceLT, Nat.lt_irrefl, Nat.reduceBEq, tys0, tys1, tys2, tys3, tys4, tys5, tys6, tys7, tys8, tys9, tys10, tys11, tys12, tys13, tys14, tys15, tys16, tys17, tys18, tys19, tys20, tys21, tys22, tys23, Try.ntmps17, Try.results17, h6]
      exact Fin.eq (by rw [← h4]; congr 1; omega) rfl
    · simp only [run0, run1, run2, run3, run4, run5, run6, run7, run8, run9, run10, run11, run12, run13, run14, run15, run16, run17, run18, run19, run20, run21, run22, reduceCtorEq, Nat.reduceEqDiff, Nat.reduceAdd, Nat.reduceSub, Nat.reduceLeDiff, indexAddrA, indexRefA, appendA, strA, Nat.reduceMul, Nat.zero_mul, Nat.reduceMod, Int.reduceEq, Int.reduceLT, Int.reduceLE, Nat.reduceLT, Nat.lt_irrefl, Nat.reduceBEq, tys0, tys1, tys2, tys3, tys4, tys5, tys6, tys7, tys8, tys9, tys10, tys11, tys12, tys13, tys14, tys15, tys16, tys17, tys18, tys19, tys20, tys21, tys22, tys23, Try.ntmps17, Try.results17, h6, e5]
      exact ⟨(d ++ [e], r, szR (esz e) l'), ⟨by simp [ha], by simp only; omega, by simp only; omega, by simp only; omega⟩, by simp, by simp only [List.length_append, List.length_cons, List.length_nil]; repeat constructor⟩
theorem szWord_ok (es : List En) (l : Int) (hf : fitN es) (h0 : 0 ≤ l) (h1 : l ≤ 1048576) : Ct Try.prog 5 [.agg [.sl false (es.map enE)], .int .i64 l] [] (.int .i64 (szR (es.length + lsz es) l)) [] := by
  refine Ct.by_ hmix [] Try.func5 rfl ?_
  simp only [run0, run1, run2, run3, run4, run5, run6, run7, run8, run9, run10, run11, run12, run13, run14, run15, run16, run17, run18, run19, run20, run21, run22, reduceCtorEq, Nat.reduceEqDiff, Nat.reduceAdd, Nat.reduceSub, Nat.reduceLeDiff, indexAddrA, indexRefA, appendA, strA, Nat.reduceMul, Nat.zero_mul, Nat.reduceMod, Int.reduceEq, Int.reduceLT, Int.reduceLE, Nat.reduceLT, Nat.lt_irrefl, Nat.reduceBEq, tys0, tys1, tys2, tys3, tys4, tys5, tys6, tys7, tys8, tys9, tys10, tys11, tys12, tys13, tys14, tys15, tys16, tys17, tys18, tys19, tys20, tys21, tys22, tys23, Try.ntmps5, Try.results5]
  refine RunL.callp rfl rfl ok_f17 (szRunS_ok es l hf h0 h1) (by simp only [pureL, pureB, enL_pure, Bool.and_self, Bool.and_true, Bool.true_and]) rfl ?_
  by_cases h2 : szR (es.length + lsz es) l < 0
  · simp only [run0, run1, run2, run3, run4, run5, run6, run7, run8, run9, run10, run11, run12, run13, run14, run15, run16, run17, run18, run19, run20, run21, run22, reduceCtorEq, Nat.reduceEqDiff, Nat.reduceAdd, Nat.reduceSub, Nat.reduceLeDiff, indexAddrA, indexRefA, appendA, strA, Nat.reduceMul, Nat.zero_mul, Nat.reduceMod, Int.reduceEq, Int.reduceLT, Int.reduceLE, Nat.reduceLT, Nat.lt_irrefl, Nat.reduceBEq, tys0, tys1, tys2, tys3, tys4, tys5, tys6, tys7, tys8, tys9, tys10, tys11, tys12, tys13, tys14, tys15, tys16, tys17, tys18, tys19, tys20, tys21, tys22, tys23, Try.ntmps5, Try.results5, h2]
    exact Fin.eq (by rw [szR_neg h2]) rfl
  · simp only [run0, run1, run2, run3, run4, run5, run6, run7, run8, run9, run10, run11, run12, run13, run14, run15, run16, run17, run18, run19, run20, run21, run22, reduceCtorEq, Nat.reduceEqDiff, Nat.reduceAdd, Nat.reduceSub, Nat.reduceLeDiff, indexAddrA, indexRefA, appendA, strA, Nat.reduceMul, Nat.zero_mul, Nat.reduceMod, Int.reduceEq, Int.reduceLT, Int.reduceLE, Nat.reduceLT, Nat.lt_irrefl, Nat.reduceBEq, tys0, tys1, tys2, tys3, tys4, tys5, tys6, tys7, tys8, tys9, tys10, tys11, tys12, tys13, tys14, tys15, tys16, tys17, tys18, tys19, tys20, tys21, tys22, tys23, Try.ntmps5, Try.results5, h2]
    exact Fin.eq rfl rfl

/-! ### copies -/
theorem enL_noOwn (es : List En) : noOwn (es.map enE) = true := by
  refine List.all_eq_true.2 fun x hx => ?_
  obtain ⟨e, _, rfl⟩ := List.mem_map.1 hx
  rfl
theorem toRun_ok (e : En) (h : e.2.sz ≤ 1048576) : Ct Try.prog 38 [enE e] [] (enE e) [] := by
  have ht := toOrdinal_ok e.2 h
  simp only [av] at ht
  refine Ct.by_ hmix [] Try.func38 rfl ?_
  simp only [run0, run1, run2, run3, run4, run5, run6, run7, run8, run9, run10, run11, run12, run13, run14, run15, run16, run17, run18, run19, run20, run21, run22, reduceCtorEq, Nat.reduceEqDiff, Nat.reduceAdd, Nat.reduceSub, Nat.reduceLeDiff, indexAddrA, indexRefA, appendA, strA, Nat.reduceMul, Nat.zero_mul, Nat.reduceMod, Int.reduceEq, Int.reduceLT, Int.reduceLE, Nat.reduceLT, Nat.lt_irrefl, Nat.reduceBEq, tys0, tys1, tys2, tys3, tys4, tys5, tys6, tys7, tys8, tys9, tys10, tys11, tys12, tys13, tys14, tys15, tys16, tys17, tys18, tys19, tys20, tys21, tys22, tys23, Try.ntmps38, Try.results38, enE]
  refine RunL.callp rfl rfl ok_f56 (ht) (by first | rfl | simp only [pureL, pureB, Bool.and_self, Bool.and_true, Bool.true_and, Od.elems_pure, Od.pay_pure, Od.av_pure]) rfl ?_
  simp only [run0, run1, run2, run3, run4, run5, run6, run7, run8, run9, run10, run11, run12, run13, run14, run15, run16, run17, run18, run19, run20, run21, run22, reduceCtorEq, Nat.reduceEqDiff, Nat.reduceAdd, Nat.reduceSub, Nat.reduceLeDiff, indexAddrA, indexRefA, appendA, strA, Nat.reduceMul, Nat.zero_mul, Nat.reduceMod, Int.reduceEq, Int.reduceLT, Int.reduceLE, Nat.reduceLT, Nat.lt_irrefl, Nat.reduceBEq, tys0, tys1, tys2, tys3, tys4, tys5, tys6, tys7, tys8, tys9, tys10, tys11, tys12, tys13, tys14, tys15, tys16, tys17, tys18, tys19, tys20, tys21, tys22, tys23, Try.ntmps38, Try.results38]
  exact Fin.eq rfl (by simp only [pureB, pureL, elems_pure, Bool.and_self])
def zN : AV := .agg [.bool false, nilV]
theorem zN_noOwn (es : List En) (n : Nat) : noOwn (es.map enE ++ List.replicate n zN) = true := by
  refine List.all_eq_true.2 fun e he => ?_
  rcases List.mem_append.1 he with he | he
  · exact List.all_eq_true.1 (enL_noOwn es) e he
  · rw [(List.mem_replicate.1 he).2]; rfl
theorem zN_c : zN.cells = [.bool false, .lit (.slice none 0 0)] := rfl
theorem zN_a : aggB zN = true := rfl
theorem zN_s (off n : Nat) (x : AV) : setE zN off n x = .agg ([.bool false, .lit (.slice none 0 0)].take off ++ x.cells ++ [.bool false, .lit (.slice none 0 0)].drop (off + n)) := rfl
theorem toRunS_ok (es : List En) (hl : es.length ≤ 1048576) (hs : ∀ e ∈ es, e.2.sz ≤ 1048576) : Ct Try.prog 19 [.sl false (es.map enE)] [] (.sl false (es.map enE)) [] := by
  have b0 : (es.length : Int) ≤ 137438953472 := by omega
  refine Ct.by_ hmix [] Try.func19 rfl ?_
  simp only [run0, run1, run2, run3, run4, run5, run6, run7, run8, run9, run10, run11, run12, run13, run14, run15, run16, run17, run18, run19, run20, run21, run22, reduceCtorEq, Nat.reduceEqDiff, Nat.reduceAdd, Nat.reduceSub, Nat.reduceLeDiff, indexAddrA, indexRefA, appendA, strA, Nat.reduceMul, Nat.zero_mul, Nat.reduceMod, Int.reduceEq, Int.reduceLT, Int.reduceLE, Nat.reduceLT, Nat.lt_irrefl, Nat.reduceBEq, tys0, tys1, tys2, tys3, tys4, tys5, tys6, tys7, tys8, tys9, tys10, tys11, tys12, tys13, tys14, tys15, tys16, tys17, tys18, tys19, tys20, tys21, tys22, tys23, Try.ntmps19, Try.results19, b0, Int.natCast_nonneg, Int.le_refl, Int.toNat_natCast]
  refine AWp.loop_inv (ι := List En × List En) (fun p => ⟨[.sl false (es.map enE), .junk, .junk, .ref 0 [] 0 es.length, .int .i64 p.1.length, .junk, .junk, .junk, .junk, .junk, .junk, .junk, .junk, .junk, .junk, .junk, .junk, .junk, .junk, .junk, .junk, .junk, .junk], [.vec 52 2 0 (p.1.map enE ++ List.replicate p.2.length zN)]⟩)
    (fun p => es = p.1 ++ p.2) (fun p => p.2.length) ([], es) rfl ⟨by simp only [List.length_nil, Int.natCast_zero]; repeat constructor, rfl⟩ ?_
  rintro ⟨d, r⟩ ha
  refine W.sound hmix (E := []) ?_
  simp only at ha
  have hda : d.length + r.length = es.length := by rw [ha, List.length_append]
  cases r with
  | nil =>
    have e1 : ¬ ((d.length : Int) < (es.length : Int)) := by simp at hda; omega
    simp only [run0, run1, run2, run3, run4, run5, run6, run7, run8, run9, run10, run11, run12, run13, run14, run15, run16, run17, run18, run19, run20, run21, run22, reduceCtorEq, Nat.reduceEqDiff, Nat.reduceAdd, Nat.reduceSub, Nat.reduceLeDiff, indexAddrA, indexRefA, appendA, strA, Nat.reduceMul, Nat.zero_mul, Nat.reduceMod, Int.reduceEq, Int.reduceLT, Int.reduceLE, Nat.reduceLT, Nat.lt_irrefl, Nat.reduceBEq, tys0, tys1, tys2, tys3, tys4, tys5, tys6, tys7, tys8, tys9, tys10, tys11, tys12, tys13, tys14, tys15, tys16, tys17, tys18, tys19, tys20, tys21, tys22, tys23, Try.ntmps19, Try.results19, e1]
    refine Fin.value ?_
    have hd : d = es := by rw [ha, List.append_nil]
    subst hd
    have := Vw.refPur (L := [.vec 52 2 0 (d.map enE ++ List.replicate 0 zN)]) (id := 0) (g := 0) (n := d.length) (o := false) rfl (by simp) (fun e he c hc => by
      simp only [List.replicate_zero, List.append_nil] at he
      obtain ⟨e', _, rfl⟩ := List.mem_map.1 he
      simp only [enE, AV.cells, List.mem_cons, List.not_mem_nil, or_false] at hc
      rcases hc with rfl | rfl
      · exact ⟨Pur.bool _, fun xs h => by cases h⟩
      · exact ⟨.of (by simp only [pureB, elems_pure]), fun xs h => by cases h⟩)
    simp only [List.replicate_zero, List.append_nil] at this
    rw [List.take_of_length_le (by simp)] at this
    exact this
  | cons e r =>
    simp only [List.length_cons] at hda
    have e1 : (d.length : Int) < (es.length : Int) := by omega
    have e2 : (es.map enE)[d.length]? = some (.agg [.bool e.1, .sl false (elems e.2)]) := by rw [ha]; exact enE_get d r e
    have e5 : IntKind.i64.wrap ((d.length : Int) + 1) = ((d ++ [e]).length : Int) := by rw [wr_id (by omega) (by omega)]; simp
    have hle : (d.map enE).length = d.length := by simp
    have e6 : (d.map enE ++ zN :: List.replicate r.length zN)[d.length]? = some zN := get_next (d.map enE) r.length d.length zN hle
    have e7 : noOwn (d.map enE ++ zN :: List.replicate r.length zN) = true := zN_noOwn d (r.length + 1)
    have e8 : (d.map enE ++ zN :: List.replicate r.length zN).set d.length (.agg [.bool e.1, .sl false (elems e.2)]) = _ := set_next (d.map enE) r.length d.length zN (.agg [.bool e.1, .sl false (elems e.2)]) hle
    have ht := toRun_ok e (hs e (by rw [ha]; simp))
    simp only [enE] at ht
    simp only [run0, run1, run2, run3, run4, run5, run6, run7, run8, run9, run10, run11, run12, run13, run14, run15, run16, run17, run18, run19, run20, run21, run22, reduceCtorEq, Nat.reduceEqDiff, Nat.reduceAdd, Nat.reduceSub, Nat.reduceLeDiff, indexAddrA, indexRefA, appendA, strA, Nat.reduceMul, Nat.zero_mul, Nat.reduceMod, Int.reduceEq, Int.reduceLT, Int.reduceLE, Nat.reduceLT, Nat.lt_irrefl, Nat.reduceBEq, tys0, tys1, tys2, tys3, tys4, tys5, tys6, tys7, tys8, tys9, tys10, tys11, tys12, tys13, tys14, tys15, tys16, tys17, tys18, tys19, tys20, tys21, tys22, tys23, Try.ntmps19, Try.results19, e1, e2, Int.toNat_natCast, Int.natCast_nonneg, List.replicate_succ]
    refine RunL.callp rfl rfl ok_f38 (ht) (by first | rfl | simp only [pureL, pureB, Bool.and_self, Bool.and_true, Bool.true_and, Od.elems_pure, Od.pay_pure, Od.av_pure]) rfl ?_
    simp only [run0, run1, run2, run3, run4, run5, run6, run7, run8, run9, run10, run11, run12, run13, run14, run15, run16, run17, run18, run19, run20, run21, run22, reduceCtorEq, Nat.reduceEqDiff, Nat.reduceAdd, Nat.reduceSub, Nat.reduceLeDiff, indexAddrA, indexRefA, appendA, strA, Nat.reduceMul, Nat.zero_mul, Nat.reduceMod, Int.reduceEq, Int.reduceLT, Int.reduceLE, Nat.reduceLT, Nat.lt_irrefl, Nat.reduceBEq, tys0, tys1, tys2, tys3, tys4, tys5, tys6, tys7, tys8, tys9, tys10, tys11, tys12, tys13, tys14, tys15, tys16, tys17, tys18, tys19, tys20, tys21, tys22, tys23, Try.ntmps19, Try.results19, nilV, e1, e5, e6, e7, e8, zN_c, zN_a, zN_s, Int.toNat_natCast, Int.natCast_nonneg]
    exact ⟨(d ++ [e], r), by simp [ha], by simp, by simp only [List.length_append, List.length_cons, List.length_nil]; repeat constructor, by simp [enE]⟩
theorem toWord_ok (es : List En) (hl : es.length ≤ 1048576) (hs : ∀ e ∈ es, e.2.sz ≤ 1048576) : Ct Try.prog 7 [.agg [.sl false (es.map enE)]] [] (.agg [.sl false (es.map enE)]) [] := by
  refine Ct.by_ hmix [] Try.func7 rfl ?_
  simp only [run0, run1, run2, run3, run4, run5, run6, run7, run8, run9, run10, run11, run12, run13, run14, run15, run16, run17, run18, run19, run20, run21, run22, reduceCtorEq, Nat.reduceEqDiff, Nat.reduceAdd, Nat.reduceSub, Nat.reduceLeDiff, indexAddrA, indexRefA, appendA, strA, Nat.reduceMul, Nat.zero_mul, Nat.reduceMod, Int.reduceEq, Int.reduceLT, Int.reduceLE, Nat.reduceLT, Nat.lt_irrefl, Nat.reduceBEq, tys0, tys1, tys2, tys3, tys4, tys5, tys6, tys7, tys8, tys9, tys10, tys11, tys12, tys13, tys14, tys15, tys16, tys17, tys18, tys19, tys20, tys21, tys22, tys23, Try.ntmps7, Try.results7]
  refine RunL.callp rfl rfl ok_f19 (toRunS_ok es hl hs) (by simp only [pureL, pureB, enL_pure, Bool.and_self, Bool.and_true, Bool.true_and]) rfl ?_
  simp only [run0, run1, run2, run3, run4, run5, run6, run7, run8, run9, run10, run11, run12, run13, run14, run15, run16, run17, run18, run19, run20, run21, run22, reduceCtorEq, Nat.reduceEqDiff, Nat.reduceAdd, Nat.reduceSub, Nat.reduceLeDiff, indexAddrA, indexRefA, appendA, strA, Nat.reduceMul, Nat.zero_mul, Nat.reduceMod, Int.reduceEq, Int.reduceLT, Int.reduceLE, Nat.reduceLT, Nat.lt_irrefl, Nat.reduceBEq, tys0, tys1, tys2, tys3, tys4, tys5, tys6, tys7, tys8, tys9, tys10, tys11, tys12, tys13, tys14, tys15, tys16, tys17, tys18, tys19, tys20, tys21, tys22, tys23, Try.ntmps7, Try.results7]
  exact Fin.eq rfl (by simp only [pureB, pureL, enL_pure, Bool.and_self, Bool.and_true, Bool.true_and])
theorem eqRun_ok (e : En) (h : e.2.sz ≤ 1048576) : Ct Try.prog 40 [enE e, enE e] [] (.bool true) [] := by
  have ht := eqOrdinal_ok e.2 e.2 h
  simp only [av] at ht
  refine Ct.by_ hmix [] Try.func40 rfl ?_
  simp only [run0, run1, run2, run3, run4, run5, run6, run7, run8, run9, run10, run11, run12, run13, run14, run15, run16, run17, run18, run19, run20, run21, run22, reduceCtorEq, Nat.reduceEqDiff, Nat.reduceAdd, Nat.reduceSub, Nat.reduceLeDiff, indexAddrA, indexRefA, appendA, strA, Nat.reduceMul, Nat.zero_mul, Nat.reduceMod, Int.reduceEq, Int.reduceLT, Int.reduceLE, Nat.reduceLT, Nat.lt_irrefl, Nat.reduceBEq, tys0, tys1, tys2, tys3, tys4, tys5, tys6, tys7, tys8, tys9, tys10, tys11, tys12, tys13, tys14, tys15, tys16, tys17, tys18, tys19, tys20, tys21, tys22, tys23, Try.ntmps40, Try.results40, enE, bne_self_eq_false]
  refine RunL.callp rfl rfl ok_f59 (ht) (by first | rfl | simp only [pureL, pureB, Bool.and_self, Bool.and_true, Bool.true_and, Od.elems_pure, Od.pay_pure, Od.av_pure]) rfl ?_
  simp only [run0, run1, run2, run3, run4, run5, run6, run7, run8, run9, run10, run11, run12, run13, run14, run15, run16, run17, run18, run19, run20, run21, run22, reduceCtorEq, Nat.reduceEqDiff, Nat.reduceAdd, Nat.reduceSub, Nat.reduceLeDiff, indexAddrA, indexRefA, appendA, strA, Nat.reduceMul, Nat.zero_mul, Nat.reduceMod, Int.reduceEq, Int.reduceLT, Int.reduceLE, Nat.reduceLT, Nat.lt_irrefl, Nat.reduceBEq, tys0, tys1, tys2, tys3, tys4, tys5, tys6, tys7, tys8, tys9, tys10, tys11, tys12, tys13, tys14, tys15, tys16, tys17, tys18, tys19, tys20, tys21, tys22, tys23, Try.ntmps40, Try.results40, eqT_refl]
  exact Fin.eq rfl rfl
theorem eqRunS_ok (es : List En) (hl : es.length ≤ 1048576) (hs : ∀ e ∈ es, e.2.sz ≤ 1048576) : Ct Try.prog 22 [.sl false (es.map enE), .sl false (es.map enE)] [] (.bool true) [] := by
  refine Ct.by_ hmix [] Try.func22 rfl ?_
  simp only [run0, run1, run2, run3, run4, run5, run6, run7, run8, run9, run10, run11, run12, run13, run14, run15, run16, run17, run18, run19, run20, run21, run22, reduceCtorEq, Nat.reduceEqDiff, Nat.reduceAdd, Nat.reduceSub, Nat.reduceLeDiff, indexAddrA, indexRefA, appendA, strA, Nat.reduceMul, Nat.zero_mul, Nat.reduceMod, Int.reduceEq, Int.reduceLT, Int.reduceLE, Nat.reduceLT, Nat.lt_irrefl, Nat.reduceBEq, tys0, tys1, tys2, tys3, tys4, tys5, tys6, tys7, tys8, tys9, tys10, tys11, tys12, tys13, tys14, tys15, tys16, tys17, tys18, tys19, tys20, tys21, tys22, tys23, Try.ntmps22, Try.results22, bne_self_eq_false]
  refine AWp.loop_inv (ι := List En × List En) (fun p => ⟨[.sl false (es.map enE), .sl false (es.map enE), .junk, .junk, .bool false, .int .i64 p.1.length, .junk, .junk, .junk, .junk, .junk, .junk, .junk, .junk, .junk, .junk, .junk, .junk, .junk, .junk, .junk, .junk, .junk, .junk, .junk, .junk, .junk], []⟩)
    (fun p => es = p.1 ++ p.2) (fun p => p.2.length) ([], es) rfl ⟨by simp only [List.length_nil, Int.natCast_zero]; repeat constructor, rfl⟩ ?_
  rintro ⟨d, r⟩ ha
  refine W.sound hmix (E := []) ?_
  simp only at ha
  have hda : d.length + r.length = es.length := by rw [ha, List.length_append]
  cases r with
  | nil =>
    have e1 : ¬ ((d.length : Int) < (es.length : Int)) := by simp at hda; omega
    simp only [run0, run1, run2, run3, run4, run5, run6, run7, run8, run9, run10, run11, run12, run13, run14, run15, run16, run17, run18, run19, run20, run21, run22, reduceCtorEq, Nat.reduceEqDiff, Nat.reduceAdd, Nat.reduceSub, Nat.reduceLeDiff, indexAddrA, indexRefA, appendA, strA, Nat.reduceMul, Nat.zero_mul, Nat.reduceMod, Int.reduceEq, Int.reduceLT, Int.reduceLE, Nat.reduceLT, Nat.lt_irrefl, Nat.reduceBEq, tys0, tys1, tys2, tys3, tys4, tys5, tys6, tys7, tys8, tys9, tys10, tys11, tys12, tys13, tys14, tys15, tys16, tys17, tys18, tys19, tys20, tys21, tys22, tys23, Try.ntmps22, Try.results22, e1]
    exact Fin.eq rfl rfl
  | cons e r =>
    simp only [List.length_cons] at hda
    have e1 : (d.length : Int) < (es.length : Int) := by omega
    have e2 : (es.map enE)[d.length]? = some (.agg [.bool e.1, .sl false (elems e.2)]) := by rw [ha]; exact enE_get d r e
    have e5 : IntKind.i64.wrap ((d.length : Int) + 1) = ((d ++ [e]).length : Int) := by rw [wr_id (by omega) (by omega)]; simp
    have ht := eqRun_ok e (hs e (by rw [ha]; simp))
    simp only [enE] at ht
    simp only [run0, run1, run2, run3, run4, run5, run6, run7, run8, run9, run10, run11, run12, run13, run14, run15, run16, run17, run18, run19, run20, run21, run22, reduceCtorEq, Nat.reduceEqDiff, Nat.reduceAdd, Nat.reduceSub, Nat.reduceLeDiff, indexAddrA, indexRefA, appendA, strA, Nat.reduceMul, Nat.zero_mul, Nat.reduceMod, Int.reduceEq, Int.reduceLT, Int.reduceLE, Nat.reduceLT, Nat.lt_irrefl, Nat.reduceBEq, tys0, tys1, tys2, tys3, tys4, tys5, tys6, tys7, tys8, tys9, tys10, tys11, tys12, tys13, tys14, tys15, tys16, tys17, tys18, tys19, tys20, tys21, tys22, tys23, Try.ntmps22, Try.results22, e1, e2, Int.toNat_natCast, Int.natCast_nonneg]
    refine ⟨by kernel_rfl, ?_⟩
    refine RunL.callp rfl rfl ok_f40 (ht) (by first | rfl | simp only [pureL, pureB, Bool.and_self, Bool.and_true, Bool.true_and, Od.elems_pure, Od.pay_pure, Od.av_pure]) rfl ?_
    simp only [run0, run1, run2, run3, run4, run5, run6, run7, run8, run9, run10, run11, run12, run13, run14, run15, run16, run17, run18, run19, run20, run21, run22, reduceCtorEq, Nat.reduceEqDiff, Nat.reduceAdd, Nat.reduceSub, Nat.reduceLeDiff, indexAddrA, indexRefA, appendA, strA, Nat.reduceMul, Nat.zero_mul, Nat.reduceMod, Int.reduceEq, Int.reduceLT, Int.reduceLE, Nat.reduceLT, Nat.lt_irrefl, Nat.reduceBEq, tys0, tys1, tys2, tys3, tys4, tys5, tys6, tys7, tys8, tys9, tys10, tys11, tys12, tys13, tys14, tys15, tys16, tys17, tys18, tys19, tys20, tys21, tys22, tys23, Try.ntmps22, Try.results22, e5]
    exact ⟨(d ++ [e], r), by simp [ha], by simp, by simp only [List.length_append, List.length_cons, List.length_nil]; repeat constructor⟩
theorem eqWord_ok (es : List En) (hl : es.length ≤ 1048576) (hs : ∀ e ∈ es, e.2.sz ≤ 1048576) : Ct Try.prog 9 [.agg [.sl false (es.map enE)], .agg [.sl false (es.map enE)]] [] (.bool true) [] := by
  refine Ct.by_ hmix [] Try.func9 rfl ?_
  simp only [run0, run1, run2, run3, run4, run5, run6, run7, run8, run9, run10, run11, run12, run13, run14, run15, run16, run17, run18, run19, run20, run21, run22, reduceCtorEq, Nat.reduceEqDiff, Nat.reduceAdd, Nat.reduceSub, Nat.reduceLeDiff, indexAddrA, indexRefA, appendA, strA, Nat.reduceMul, Nat.zero_mul, Nat.reduceMod, Int.reduceEq, Int.reduceLT, Int.reduceLE, Nat.reduceLT, Nat.lt_irrefl, Nat.reduceBEq, tys0, tys1, tys2, tys3, tys4, tys5, tys6, tys7, tys8, tys9, tys10, tys11, tys12, tys13, tys14, tys15, tys16, tys17, tys18, tys19, tys20, tys21, tys22, tys23, Try.ntmps9, Try.results9]
  refine RunL.callp rfl rfl ok_f22 (eqRunS_ok es hl hs) (by simp only [pureL, pureB, enL_pure, Bool.and_self, Bool.and_true, Bool.true_and]) rfl ?_
  simp only [run0, run1, run2, run3, run4, run5, run6, run7, run8, run9, run10, run11, run12, run13, run14, run15, run16, run17, run18, run19, run20, run21, run22, reduceCtorEq, Nat.reduceEqDiff, Nat.reduceAdd, Nat.reduceSub, Nat.reduceLeDiff, indexAddrA, indexRefA, appendA, strA, Nat.reduceMul, Nat.zero_mul, Nat.reduceMod, Int.reduceEq, Int.reduceLT, Int.reduceLE, Nat.reduceLT, Nat.lt_irrefl, Nat.reduceBEq, tys0, tys1, tys2, tys3, tys4, tys5, tys6, tys7, tys8, tys9, tys10, tys11, tys12, tys13, tys14, tys15, tys16, tys17, tys18, tys19, tys20, tys21, tys22, tys23, Try.ntmps9, Try.results9]
  exact Fin.eq rfl rfl


end Go.Proofs.Ytminjhhabonjaaa
