/-
  Surreals: notebooks: which are right: the law.
-/
import Derived.Test.YtfblibmibaiagaaS10
namespace Go.Proofs.Ytfblibmibaiagaa
open Go K Su
set_option linter.unusedSimpArgs false
set_option linter.unusedVariables false
set_option maxHeartbeats 1600000
set_option maxRecDepth 8000

abbrev En := ByteArray × Su
def enE (e : En) : AV := .agg [.str e.1, .sl false (elems e.2)]
def esz (e : En) : Nat := e.1.size + e.2.sz
def lsz : List En → Nat
  | [] => 0
  | e :: r => esz e + lsz r
def fitN (es : List En) : Prop := es.length ≤ maxLen ∧ ∀ e ∈ es, e.1.size ≤ maxLen ∧ fit e.2
theorem lsz_app : ∀ d r : List En, lsz (d ++ r) = lsz d + lsz r
  | [], r => by simp [lsz]
  | e :: d, r => by simp only [List.cons_append, lsz, lsz_app d r]; omega
theorem enE_get (d r : List En) (e : En) : ((d ++ e :: r).map enE)[d.length]? = some (.agg [.str e.1, .sl false (elems e.2)]) := by simp [enE]

theorem enL_pure : ∀ es : List En, pureL (es.map enE) = true
  | [] => rfl
  | e :: r => by simp [enE, pureL, pureB, elems_pure, enL_pure r]
theorem nb_list : ∀ es : List AV, (∀ x ∈ es, IsOf Try.prog 104 x) → ∃ l : List En, es = l.map enE ∧ ∀ e ∈ l, e.1.size ≤ maxLen ∧ fit e.2
  | [], _ => ⟨[], rfl, by simp⟩
  | x :: es, hes => by
    obtain ⟨l, rfl, h2⟩ := nb_list es fun y hy => hes y (List.mem_cons_of_mem _ hy)
    obtain ⟨k, cs, rfl, hcl, hx⟩ := (hes x (List.mem_cons_self ..)).agg ty_a104
    rw [ty_c104] at hcl
    match cs, hcl with
    | [u, v], _ =>
      obtain ⟨_, g0⟩ := hx.field ty_f104_0
      obtain ⟨_, g1⟩ := hx.field ty_f104_1
      obtain ⟨s, e1, hs⟩ := g0.string Try.underlying9
      obtain ⟨a, e2, ha⟩ := (laws_odC _).2.1 _ g1
      rw [ty_c9] at e1
      rw [ty_c36] at e2
      simp at e1 e2
      subst e1 e2
      refine ⟨(s, a) :: l, rfl, fun e he => ?_⟩
      rcases List.mem_cons.1 he with rfl | he
      · exact ⟨hs, ha⟩
      · exact h2 e he
theorem laws_isNb {x : AV} (h : IsOf Try.prog 55 x) : ∃ es : List En, x = .agg [.sl false (es.map enE)] ∧ fitN es := by
  obtain ⟨n, cs, rfl, hl, h⟩ := h.agg ty_a55
  rw [ty_c55] at hl
  match cs, hl with
  | [y], _ =>
    obtain ⟨m, h0⟩ := h.field ty_f55_0
    rw [ty_c53] at h0
    simp only [List.drop_zero, List.take_succ_cons, List.take_zero] at h0
    obtain ⟨es, e0, hel, hes⟩ := h0.slice Try.underlying53
    simp only [List.cons.injEq, and_true] at e0
    subst e0
    clear h h0
    obtain ⟨l, rfl, h2⟩ := nb_list es hes
    exact ⟨l, rfl, by simpa using hel, h2⟩

/-! ### sizes -/
theorem szEntry_ok (e : En) (l : Int) (hs : e.1.size ≤ maxLen) (hf : fit e.2) (h0 : 0 ≤ l) (h1 : l ≤ 1048576) : Ct Try.prog 95 [enE e, .int .i64 l] [] (.int .i64 (szR (esz e) l)) [] := by
  rw [maxLen_eq] at hs
  have hw : IntKind.i64.wrap (l - (e.1.size : Int)) = l - e.1.size := wr_id (by omega) (by omega)
  refine Ct.by_ hmix [] Try.func95 rfl ?_
  simp only [run0, run1, run2, run3, run4, run5, run6, run7, run8, run9, run10, run11, run12, run13, run14, run15, run16, run17, run18, run19, run20, run21, run22, reduceCtorEq, Nat.reduceEqDiff, Nat.reduceAdd, Nat.reduceSub, Nat.reduceLeDiff, indexAddrA, indexRefA, appendA, strA, Nat.reduceMul, Nat.zero_mul, Nat.reduceMod, Int.reduceEq, Int.reduceLT, Int.reduceLE, Nat.reduceLT, Nat.lt_irrefl, Nat.reduceBEq, tys0, tys1, tys2, tys3, tys4, tys5, tys6, tys7, tys8, tys9, tys10, tys11, tys12, tys13, tys14, tys15, tys16, tys17, Try.ntmps95, Try.results95, enE, hw]
  by_cases hn : l - (e.1.size : Int) < 0
  · simp only [run0, run1, run2, run3, run4, run5, run6, run7, run8, run9, run10, run11, run12, run13, run14, run15, run16, run17, run18, run19, run20, run21, run22, reduceCtorEq, Nat.reduceEqDiff, Nat.reduceAdd, Nat.reduceSub, Nat.reduceLeDiff, indexAddrA, indexRefA, appendA, strA, Nat.reduceMul, Nat.zero_mul, Nat.reduceMod, Int.reduceEq, Int.reduceLT, Int.reduceLE, Nat.reduceLT, Nat.lt_irrefl, Nat.reduceBEq, tys0, tys1, tys2, tys3, tys4, tys5, tys6, tys7, tys8, tys9, tys10, tys11, tys12, tys13, tys14, tys15, tys16, tys17, Try.ntmps95, Try.results95, hn]
    exact Fin.eq (by have := szR_spec (esz e) l; unfold esz at *; congr 1; omega) rfl
  · simp only [run0, run1, run2, run3, run4, run5, run6, run7, run8, run9, run10, run11, run12, run13, run14, run15, run16, run17, run18, run19, run20, run21, run22, reduceCtorEq, Nat.reduceEqDiff, Nat.reduceAdd, Nat.reduceSub, Nat.reduceLeDiff, indexAddrA, indexRefA, appendA, strA, Nat.reduceMul, Nat.zero_mul, Nat.reduceMod, Int.reduceEq, Int.reduceLT, Int.reduceLE, Nat.reduceLT, Nat.lt_irrefl, Nat.reduceBEq, tys0, tys1, tys2, tys3, tys4, tys5, tys6, tys7, tys8, tys9, tys10, tys11, tys12, tys13, tys14, tys15, tys16, tys17, Try.ntmps95, Try.results95, hn]
    have hz := szSurreal_ok e.2 (l - e.1.size) hf (by omega) (by omega)
    simp only [av] at hz
    refine RunL.callp rfl rfl ok_f20 (hz) (by first | rfl | simp only [pureL, pureB, Bool.and_self, Bool.and_true, Bool.true_and, Su.elems_pure, Su.pay_pure, Su.av_pure]) rfl ?_
    have k1 := szR_spec (esz e) l
    have k2 := szR_spec e.2.sz (l - e.1.size)
    unfold esz at *
    by_cases h2 : szR e.2.sz (l - (e.1.size : Int)) < 0
    · simp only [run0, run1, run2, run3, run4, run5, run6, run7, run8, run9, run10, run11, run12, run13, run14, run15, run16, run17, run18, run19, run20, run21, run22, reduceCtorEq, Nat.reduceEqDiff, Nat.reduceAdd, Nat.reduceSub, Nat.reduceLeDiff, indexAddrA, indexRefA, appendA, strA, Nat.reduceMul, Nat.zero_mul, Nat.reduceMod, Int.reduceEq, Int.reduceLT, Int.reduceLE, Nat.reduceLT, Nat.lt_irrefl, Nat.reduceBEq, tys0, tys1, tys2, tys3, tys4, tys5, tys6, tys7, tys8, tys9, tys10, tys11, tys12, tys13, tys14, tys15, tys16, tys17, Try.ntmps95, Try.results95, h2]
      exact Fin.eq (by congr 1; omega) rfl
    · simp only [run0, run1, run2, run3, run4, run5, run6, run7, run8, run9, run10, run11, run12, run13, run14, run15, run16, run17, run18, run19, run20, run21, run22, reduceCtorEq, Nat.reduceEqDiff, Nat.reduceAdd, Nat.reduceSub, Nat.reduceLeDiff, indexAddrA, indexRefA, appendA, strA, Nat.reduceMul, Nat.zero_mul, Nat.reduceMod, Int.reduceEq, Int.reduceLT, Int.reduceLE, Nat.reduceLT, Nat.lt_irrefl, Nat.reduceBEq, tys0, tys1, tys2, tys3, tys4, tys5, tys6, tys7, tys8, tys9, tys10, tys11, tys12, tys13, tys14, tys15, tys16, tys17, Try.ntmps95, Try.results95, h2]
      exact Fin.eq (by congr 1; omega) rfl
theorem szEntryS_ok (es : List En) (l : Int) (hf : fitN es) (h0 : 0 ≤ l) (h1 : l ≤ 1048576) : Ct Try.prog 75 [.sl false (es.map enE), .int .i64 l] [] (.int .i64 (szR (es.length + lsz es) l)) [] := by
  have hl := hf.1
  rw [maxLen_eq] at hl
  have hw : IntKind.i64.wrap (l - (es.length : Int)) = l - es.length := wr_id (by omega) (by omega)
  refine Ct.by_ hmix [] Try.func75 rfl ?_
  simp only [run0, run1, run2, run3, run4, run5, run6, run7, run8, run9, run10, run11, run12, run13, run14, run15, run16, run17, run18, run19, run20, run21, run22, reduceCtorEq, Nat.reduceEqDiff, Nat.reduceAdd, Nat.reduceSub, Nat.reduceLeDiff, indexAddrA, indexRefA, appendA, strA, Nat.reduceMul, Nat.zero_mul, Nat.reduceMod, Int.reduceEq, Int.reduceLT, Int.reduceLE, Nat.reduceLT, Nat.lt_irrefl, Nat.reduceBEq, tys0, tys1, tys2, tys3, tys4, tys5, tys6, tys7, tys8, tys9, tys10, tys11, tys12, tys13, tys14, tys15, tys16, tys17, Try.ntmps75, Try.results75, hw]
  by_cases hn : l - (es.length : Int) < 0
  · simp only [run0, run1, run2, run3, run4, run5, run6, run7, run8, run9, run10, run11, run12, run13, run14, run15, run16, run17, run18, run19, run20, run21, run22, reduceCtorEq, Nat.reduceEqDiff, Nat.reduceAdd, Nat.reduceSub, Nat.reduceLeDiff, indexAddrA, indexRefA, appendA, strA, Nat.reduceMul, Nat.zero_mul, Nat.reduceMod, Int.reduceEq, Int.reduceLT, Int.reduceLE, Nat.reduceLT, Nat.lt_irrefl, Nat.reduceBEq, tys0, tys1, tys2, tys3, tys4, tys5, tys6, tys7, tys8, tys9, tys10, tys11, tys12, tys13, tys14, tys15, tys16, tys17, Try.ntmps75, Try.results75, hn]
    exact Fin.eq (by have := szR_spec (es.length + lsz es) l; congr 1; omega) rfl
  simp only [run0, run1, run2, run3, run4, run5, run6, run7, run8, run9, run10, run11, run12, run13, run14, run15, run16, run17, run18, run19, run20, run21, run22, reduceCtorEq, Nat.reduceEqDiff, Nat.reduceAdd, Nat.reduceSub, Nat.reduceLeDiff, indexAddrA, indexRefA, appendA, strA, Nat.reduceMul, Nat.zero_mul, Nat.reduceMod, Int.reduceEq, Int.reduceLT, Int.reduceLE, Nat.reduceLT, Nat.lt_irrefl, Nat.reduceBEq, tys0, tys1, tys2, tys3, tys4, tys5, tys6, tys7, tys8, tys9, tys10, tys11, tys12, tys13, tys14, tys15, tys16, tys17, Try.ntmps75, Try.results75, hn]
  refine AWp.loop_inv (ι := List En × List En × Int) (fun p => ⟨[.sl false (es.map enE), .int .i64 p.2.2, .junk, .junk, .int .i64 0, .int .i64 p.1.length, .junk, .junk, .junk, .junk, .junk, .junk, .junk, .junk, .junk, .junk, .junk, .junk, .junk, .junk, .junk, .junk, .junk, .junk, .junk, .junk, .junk], []⟩)
    (fun p => es = p.1 ++ p.2.1 ∧ 0 ≤ p.2.2 ∧ p.2.2 ≤ 1048576 ∧ szR (lsz p.2.1) p.2.2 = szR (es.length + lsz es) l) (fun p => p.2.1.length) ([], es, l - es.length)
    ⟨rfl, by simp only; omega, by simp only; omega, by simp only [szR]; split <;> split <;> omega⟩ ⟨by simp only [List.length_nil, Int.natCast_zero]; repeat constructor, rfl⟩ ?_
  rintro ⟨d, r, l'⟩ ⟨ha, h2, h3, h4⟩
  refine W.sound hmix (E := []) ?_
  simp only at ha h2 h3 h4
  have hda : d.length + r.length = es.length := by rw [ha, List.length_append]
  cases r with
  | nil =>
    have e1 : ¬ ((d.length : Int) < (es.length : Int)) := by simp at hda; omega
    simp only [run0, run1, run2, run3, run4, run5, run6, run7, run8, run9, run10, run11, run12, run13, run14, run15, run16, run17, run18, run19, run20, run21, run22, reduceCtorEq, Nat.reduceEqDiff, Nat.reduceAdd, Nat.reduceSub, Nat.reduceLeDiff, indexAddrA, indexRefA, appendA, strA, Nat.reduceMul, Nat.zero_mul, Nat.reduceMod, Int.reduceEq, Int.reduceLT, Int.reduceLE, Nat.reduceLT, Nat.lt_irrefl, Nat.reduceBEq, tys0, tys1, tys2, tys3, tys4, tys5, tys6, tys7, tys8, tys9, tys10, tys11, tys12, tys13, tys14, tys15, tys16, tys17, Try.ntmps75, Try.results75, e1]
    exact Fin.eq (by rw [← h4]; simp [szR, lsz, h2]) rfl
  | cons e r =>
    simp only [List.length_cons] at hda
    have e1 : (d.length : Int) < (es.length : Int) := by omega
    have e2 : (es.map enE)[d.length]? = some (.agg [.str e.1, .sl false (elems e.2)]) := by rw [ha]; exact enE_get d r e
    obtain ⟨g1, g2⟩ := hf.2 e (by rw [ha]; simp)
    have e5 : IntKind.i64.wrap ((d.length : Int) + 1) = ((d ++ [e]).length : Int) := by rw [wr_id (by omega) (by omega)]; simp
    have hz := szEntry_ok e l' g1 g2 h2 h3
    simp only [enE] at hz
    simp only [run0, run1, run2, run3, run4, run5, run6, run7, run8, run9, run10, run11, run12, run13, run14, run15, run16, run17, run18, run19, run20, run21, run22, reduceCtorEq, Nat.reduceEqDiff, Nat.reduceAdd, Nat.reduceSub, Nat.reduceLeDiff, indexAddrA, indexRefA, appendA, strA, Nat.reduceMul, Nat.zero_mul, Nat.reduceMod, Int.reduceEq, Int.reduceLT, Int.reduceLE, Nat.reduceLT, Nat.lt_irrefl, Nat.reduceBEq, tys0, tys1, tys2, tys3, tys4, tys5, tys6, tys7, tys8, tys9, tys10, tys11, tys12, tys13, tys14, tys15, tys16, tys17, Try.ntmps75, Try.results75, e1, e2, Int.toNat_natCast, Int.natCast_nonneg]
    refine RunL.callp rfl rfl ok_f95 (hz) (by first | rfl | simp only [pureL, pureB, Bool.and_self, Bool.and_true, Bool.true_and, Su.elems_pure, Su.pay_pure, Su.av_pure]) rfl ?_
    have k1 := szR_spec (esz e) l'
    have k2 := szR_spec (lsz (e :: r)) l'
    have k3 := szR_spec (lsz r) (szR (esz e) l')
    simp only [lsz] at h4 k2
    by_cases h6 : szR (esz e) l' < 0
    · simp only [run0, run1, run2, run3, run4, run5, run6, run7, run8, run9, run10, run11, run12, run13, run14, run15, run16, run17, run18, run19, run20, run21, run22, reduceCtorEq, Nat.reduceEqDiff, Nat.reduceAdd, Nat.reduceSub, Nat.reduceLeDiff, indexAddrA, indexRefA, appendA, strA, Nat.reduceMul, Nat.zero_mul, Nat.reduceMod, Int.reduceEq, Int.reduceLT, Int.reduceLE, Nat.reduceLT, Nat.lt_irrefl, Nat.reduceBEq, tys0, tys1, tys2, tys3, tys4, tys5, tys6, tys7, tys8, tys9, tys10, tys11, tys12, tys13, tys14, tys15, tys16, tys17, Try.ntmps75, Try.results75, h6]
      exact Fin.eq (by rw [← h4]; congr 1; omega) rfl
    · simp only [run0, run1, run2, run3, run4, run5, run6, run7, run8, run9, run10, run11, run12, run13, run14, run15, run16, run17, run18, run19, run20, run21, run22, reduceCtorEq, Nat.reduceEqDiff, Nat.reduceAdd, Nat.reduceSub, Nat.reduceLeDiff, indexAddrA, indexRefA, appendA, strA, Nat.reduceMul, Nat.zero_mul, Nat.reduceMod, Int.reduceEq, Int.reduceLT, Int.reduceLE, Nat.reduceLT, Nat.lt_irrefl, Nat.reduceBEq, tys0, tys1, tys2, tys3, tys4, tys5, tys6, tys7, tys8, tys9, tys10, tys11, tys12, tys13, tys14, tys15, tys16, tys17, Try.ntmps75, Try.results75, h6, e5]
      exact ⟨(d ++ [e], r, szR (esz e) l'), ⟨by simp [ha], by simp only; omega, by simp only; omega, by simp only; omega⟩, by simp, by simp only [List.length_append, List.length_cons, List.length_nil]; repeat constructor⟩
theorem szNotebook_ok (es : List En) (l : Int) (hf : fitN es) (h0 : 0 ≤ l) (h1 : l ≤ 1048576) : Ct Try.prog 41 [.agg [.sl false (es.map enE)], .int .i64 l] [] (.int .i64 (szR (es.length + lsz es) l)) [] := by
  refine Ct.by_ hmix [] Try.func41 rfl ?_
  simp only [run0, run1, run2, run3, run4, run5, run6, run7, run8, run9, run10, run11, run12, run13, run14, run15, run16, run17, run18, run19, run20, run21, run22, reduceCtorEq, Nat.reduceEqDiff, Nat.reduceAdd, Nat.reduceSub, Nat.reduceLeDiff, indexAddrA, indexRefA, appendA, strA, Nat.reduceMul, Nat.zero_mul, Nat.reduceMod, Int.reduceEq, Int.reduceLT, Int.reduceLE, Nat.reduceLT, Nat.lt_irrefl, Nat.reduceBEq, tys0, tys1, tys2, tys3, tys4, tys5, tys6, tys7, tys8, tys9, tys10, tys11, tys12, tys13, tys14, tys15, tys16, tys17, Try.ntmps41, Try.results41]
  refine RunL.callp rfl rfl ok_f75 (szEntryS_ok es l hf h0 h1) (by simp only [pureL, pureB, enL_pure, Bool.and_self, Bool.and_true, Bool.true_and]) rfl ?_
  by_cases h2 : szR (es.length + lsz es) l < 0
  · simp only [run0, run1, run2, run3, run4, run5, run6, run7, run8, run9, run10, run11, run12, run13, run14, run15, run16, run17, run18, run19, run20, run21, run22, reduceCtorEq, Nat.reduceEqDiff, Nat.reduceAdd, Nat.reduceSub, Nat.reduceLeDiff, indexAddrA, indexRefA, appendA, strA, Nat.reduceMul, Nat.zero_mul, Nat.reduceMod, Int.reduceEq, Int.reduceLT, Int.reduceLE, Nat.reduceLT, Nat.lt_irrefl, Nat.reduceBEq, tys0, tys1, tys2, tys3, tys4, tys5, tys6, tys7, tys8, tys9, tys10, tys11, tys12, tys13, tys14, tys15, tys16, tys17, Try.ntmps41, Try.results41, h2]
    exact Fin.eq (by rw [szR_neg h2]) rfl
  · simp only [run0, run1, run2, run3, run4, run5, run6, run7, run8, run9, run10, run11, run12, run13, run14, run15, run16, run17, run18, run19, run20, run21, run22, reduceCtorEq, Nat.reduceEqDiff, Nat.reduceAdd, Nat.reduceSub, Nat.reduceLeDiff, indexAddrA, indexRefA, appendA, strA, Nat.reduceMul, Nat.zero_mul, Nat.reduceMod, Int.reduceEq, Int.reduceLT, Int.reduceLE, Nat.reduceLT, Nat.lt_irrefl, Nat.reduceBEq, tys0, tys1, tys2, tys3, tys4, tys5, tys6, tys7, tys8, tys9, tys10, tys11, tys12, tys13, tys14, tys15, tys16, tys17, Try.ntmps41, Try.results41, h2]
    exact Fin.eq rfl rfl

/-! ### copies -/
theorem enL_noOwn (es : List En) : noOwn (es.map enE) = true := by
  refine List.all_eq_true.2 fun x hx => ?_
  obtain ⟨e, _, rfl⟩ := List.mem_map.1 hx
  rfl
theorem toEntry_ok (e : En) (h : e.2.sz ≤ 1048576) : Ct Try.prog 97 [enE e] [] (enE e) [] := by
  have ht := toSurreal_ok e.2 h
  simp only [av] at ht
  refine Ct.by_ hmix [] Try.func97 rfl ?_
  simp only [run0, run1, run2, run3, run4, run5, run6, run7, run8, run9, run10, run11, run12, run13, run14, run15, run16, run17, run18, run19, run20, run21, run22, reduceCtorEq, Nat.reduceEqDiff, Nat.reduceAdd, Nat.reduceSub, Nat.reduceLeDiff, indexAddrA, indexRefA, appendA, strA, Nat.reduceMul, Nat.zero_mul, Nat.reduceMod, Int.reduceEq, Int.reduceLT, Int.reduceLE, Nat.reduceLT, Nat.lt_irrefl, Nat.reduceBEq, tys0, tys1, tys2, tys3, tys4, tys5, tys6, tys7, tys8, tys9, tys10, tys11, tys12, tys13, tys14, tys15, tys16, tys17, Try.ntmps97, Try.results97, enE]
  refine RunL.callp rfl rfl ok_f22 (ht) (by first | rfl | simp only [pureL, pureB, Bool.and_self, Bool.and_true, Bool.true_and, Su.elems_pure, Su.pay_pure, Su.av_pure]) rfl ?_
  simp only [run0, run1, run2, run3, run4, run5, run6, run7, run8, run9, run10, run11, run12, run13, run14, run15, run16, run17, run18, run19, run20, run21, run22, reduceCtorEq, Nat.reduceEqDiff, Nat.reduceAdd, Nat.reduceSub, Nat.reduceLeDiff, indexAddrA, indexRefA, appendA, strA, Nat.reduceMul, Nat.zero_mul, Nat.reduceMod, Int.reduceEq, Int.reduceLT, Int.reduceLE, Nat.reduceLT, Nat.lt_irrefl, Nat.reduceBEq, tys0, tys1, tys2, tys3, tys4, tys5, tys6, tys7, tys8, tys9, tys10, tys11, tys12, tys13, tys14, tys15, tys16, tys17, Try.ntmps97, Try.results97]
  exact Fin.eq rfl (by simp only [pureB, pureL, elems_pure, Bool.and_self])
def zN : AV := .agg [.str ⟨#[]⟩, nilV]
theorem zN_noOwn (es : List En) (n : Nat) : noOwn (es.map enE ++ List.replicate n zN) = true := by
  refine List.all_eq_true.2 fun e he => ?_
  rcases List.mem_append.1 he with he | he
  · exact List.all_eq_true.1 (enL_noOwn es) e he
  · rw [(List.mem_replicate.1 he).2]; rfl
theorem zN_c : zN.cells = [.str ⟨#[]⟩, .lit (.slice none 0 0)] := rfl
theorem zN_a : aggB zN = true := rfl
theorem zN_s (off n : Nat) (x : AV) : setE zN off n x = .agg ([.str ⟨#[]⟩, .lit (.slice none 0 0)].take off ++ x.cells ++ [.str ⟨#[]⟩, .lit (.slice none 0 0)].drop (off + n)) := rfl
theorem toEntryS_ok (es : List En) (hl : es.length ≤ 1048576) (hs : ∀ e ∈ es, e.2.sz ≤ 1048576) : Ct Try.prog 77 [.sl false (es.map enE)] [] (.sl false (es.map enE)) [] := by
  have b0 : (es.length : Int) ≤ 137438953472 := by omega
  refine Ct.by_ hmix [] Try.func77 rfl ?_
  simp only [run0, run1, run2, run3, run4, run5, run6, run7, run8, run9, run10, run11, run12, run13, run14, run15, run16, run17, run18, run19, run20, run21, run22, reduceCtorEq, Nat.reduceEqDiff, Nat.reduceAdd, Nat.reduceSub, Nat.reduceLeDiff, indexAddrA, indexRefA, appendA, strA, Nat.reduceMul, Nat.zero_mul, Nat.reduceMod, Int.reduceEq, Int.reduceLT, Int.reduceLE, Nat.reduceLT, Nat.lt_irrefl, Nat.reduceBEq, tys0, tys1, tys2, tys3, tys4, tys5, tys6, tys7, tys8, tys9, tys10, tys11, tys12, tys13, tys14, tys15, tys16, tys17, Try.ntmps77, Try.results77, b0, Int.natCast_nonneg, Int.le_refl, Int.toNat_natCast]
  refine AWp.loop_inv (ι := List En × List En) (fun p => ⟨[.sl false (es.map enE), .junk, .junk, .ref 0 [] 0 es.length, .int .i64 p.1.length, .junk, .junk, .junk, .junk, .junk, .junk, .junk, .junk, .junk, .junk, .junk, .junk, .junk, .junk, .junk, .junk, .junk, .junk], [.vec 85 2 0 (p.1.map enE ++ List.replicate p.2.length zN)]⟩)
    (fun p => es = p.1 ++ p.2) (fun p => p.2.length) ([], es) rfl ⟨by simp only [List.length_nil, Int.natCast_zero]; repeat constructor, rfl⟩ ?_
  rintro ⟨d, r⟩ ha
  refine W.sound hmix (E := []) ?_
  simp only at ha
  have hda : d.length + r.length = es.length := by rw [ha, List.length_append]
  cases r with
  | nil =>
    have e1 : ¬ ((d.length : Int) < (es.length : Int)) := by simp at hda; omega
    simp only [run0, run1, run2, run3, run4, run5, run6, run7, run8, run9, run10, run11, run12, run13, run14, run15, run16, run17, run18, run19, run20, run21, run22, reduceCtorEq, Nat.reduceEqDiff, Nat.reduceAdd, Nat.reduceSub, Nat.reduceLeDiff, indexAddrA, indexRefA, appendA, strA, Nat.reduceMul, Nat.zero_mul, Nat.reduceMod, Int.reduceEq, Int.reduceLT, Int.reduceLE, Nat.reduceLT, Nat.lt_irrefl, Nat.reduceBEq, tys0, tys1, tys2, tys3, tys4, tys5, tys6, tys7, tys8, tys9, tys10, tys11, tys12, tys13, tys14, tys15, tys16, tys17, Try.ntmps77, Try.results77, e1]
    refine Fin.value ?_
    have hd : d = es := by rw [ha, List.append_nil]
    subst hd
    have := Vw.refPur (L := [.vec 85 2 0 (d.map enE ++ List.replicate 0 zN)]) (id := 0) (g := 0) (n := d.length) (o := false) rfl (by simp) (fun e he c hc => by
      simp only [List.replicate_zero, List.append_nil] at he
      obtain ⟨e', _, rfl⟩ := List.mem_map.1 he
      simp only [enE, AV.cells, List.mem_cons, List.not_mem_nil, or_false] at hc
      rcases hc with rfl | rfl
      · exact ⟨.str _, fun xs h => by cases h⟩
      · exact ⟨.of (by simp only [pureB, elems_pure]), fun xs h => by cases h⟩)
    simp only [List.replicate_zero, List.append_nil] at this
    rw [List.take_of_length_le (by simp)] at this
    exact this
  | cons e r =>
    simp only [List.length_cons] at hda
    have e1 : (d.length : Int) < (es.length : Int) := by omega
    have e2 : (es.map enE)[d.length]? = some (.agg [.str e.1, .sl false (elems e.2)]) := by rw [ha]; exact enE_get d r e
    have e5 : IntKind.i64.wrap ((d.length : Int) + 1) = ((d ++ [e]).length : Int) := by rw [wr_id (by omega) (by omega)]; simp
    have hle : (d.map enE).length = d.length := by simp
    have e6 : (d.map enE ++ zN :: List.replicate r.length zN)[d.length]? = some zN := get_next (d.map enE) r.length d.length zN hle
    have e7 : noOwn (d.map enE ++ zN :: List.replicate r.length zN) = true := zN_noOwn d (r.length + 1)
    have e8 : (d.map enE ++ zN :: List.replicate r.length zN).set d.length (.agg [.str e.1, .sl false (elems e.2)]) = _ := set_next (d.map enE) r.length d.length zN (.agg [.str e.1, .sl false (elems e.2)]) hle
    have ht := toEntry_ok e (hs e (by rw [ha]; simp))
    simp only [enE] at ht
    simp only [run0, run1, run2, run3, run4, run5, run6, run7, run8, run9, run10, run11, run12, run13, run14, run15, run16, run17, run18, run19, run20, run21, run22, reduceCtorEq, Nat.reduceEqDiff, Nat.reduceAdd, Nat.reduceSub, Nat.reduceLeDiff, indexAddrA, indexRefA, appendA, strA, Nat.reduceMul, Nat.zero_mul, Nat.reduceMod, Int.reduceEq, Int.reduceLT, Int.reduceLE, Nat.reduceLT, Nat.lt_irrefl, Nat.reduceBEq, tys0, tys1, tys2, tys3, tys4, tys5, tys6, tys7, tys8, tys9, tys10, tys11, tys12, tys13, tys14, tys15, tys16, tys17, Try.ntmps77, Try.results77, e1, e2, Int.toNat_natCast, Int.natCast_nonneg, List.replicate_succ]
    refine RunL.callp rfl rfl ok_f97 (ht) (by first | rfl | simp only [pureL, pureB, Bool.and_self, Bool.and_true, Bool.true_and, Su.elems_pure, Su.pay_pure, Su.av_pure]) rfl ?_
    simp only [run0, run1, run2, run3, run4, run5, run6, run7, run8, run9, run10, run11, run12, run13, run14, run15, run16, run17, run18, run19, run20, run21, run22, reduceCtorEq, Nat.reduceEqDiff, Nat.reduceAdd, Nat.reduceSub, Nat.reduceLeDiff, indexAddrA, indexRefA, appendA, strA, Nat.reduceMul, Nat.zero_mul, Nat.reduceMod, Int.reduceEq, Int.reduceLT, Int.reduceLE, Nat.reduceLT, Nat.lt_irrefl, Nat.reduceBEq, tys0, tys1, tys2, tys3, tys4, tys5, tys6, tys7, tys8, tys9, tys10, tys11, tys12, tys13, tys14, tys15, tys16, tys17, Try.ntmps77, Try.results77, nilV, e1, e5, e6, e7, e8, zN_c, zN_a, zN_s, Int.toNat_natCast, Int.natCast_nonneg]
    exact ⟨(d ++ [e], r), by simp [ha], by simp, by simp only [List.length_append, List.length_cons, List.length_nil]; repeat constructor, by simp [enE]⟩
theorem toNotebook_ok (es : List En) (hl : es.length ≤ 1048576) (hs : ∀ e ∈ es, e.2.sz ≤ 1048576) : Ct Try.prog 43 [.agg [.sl false (es.map enE)]] [] (.agg [.sl false (es.map enE)]) [] := by
  refine Ct.by_ hmix [] Try.func43 rfl ?_
  simp only [run0, run1, run2, run3, run4, run5, run6, run7, run8, run9, run10, run11, run12, run13, run14, run15, run16, run17, run18, run19, run20, run21, run22, reduceCtorEq, Nat.reduceEqDiff, Nat.reduceAdd, Nat.reduceSub, Nat.reduceLeDiff, indexAddrA, indexRefA, appendA, strA, Nat.reduceMul, Nat.zero_mul, Nat.reduceMod, Int.reduceEq, Int.reduceLT, Int.reduceLE, Nat.reduceLT, Nat.lt_irrefl, Nat.reduceBEq, tys0, tys1, tys2, tys3, tys4, tys5, tys6, tys7, tys8, tys9, tys10, tys11, tys12, tys13, tys14, tys15, tys16, tys17, Try.ntmps43, Try.results43]
  refine RunL.callp rfl rfl ok_f77 (toEntryS_ok es hl hs) (by simp only [pureL, pureB, enL_pure, Bool.and_self, Bool.and_true, Bool.true_and]) rfl ?_
  simp only [run0, run1, run2, run3, run4, run5, run6, run7, run8, run9, run10, run11, run12, run13, run14, run15, run16, run17, run18, run19, run20, run21, run22, reduceCtorEq, Nat.reduceEqDiff, Nat.reduceAdd, Nat.reduceSub, Nat.reduceLeDiff, indexAddrA, indexRefA, appendA, strA, Nat.reduceMul, Nat.zero_mul, Nat.reduceMod, Int.reduceEq, Int.reduceLT, Int.reduceLE, Nat.reduceLT, Nat.lt_irrefl, Nat.reduceBEq, tys0, tys1, tys2, tys3, tys4, tys5, tys6, tys7, tys8, tys9, tys10, tys11, tys12, tys13, tys14, tys15, tys16, tys17, Try.ntmps43, Try.results43]
  exact Fin.eq rfl (by simp only [pureB, pureL, enL_pure, Bool.and_self, Bool.and_true, Bool.true_and])
theorem eqEntry_ok (e : En) (h : e.2.sz ≤ 1048576) : Ct Try.prog 98 [enE e, enE e] [] (.bool true) [] := by
  have ht := eqSurreal_ok e.2 e.2 h
  simp only [av] at ht
  refine Ct.by_ hmix [] Try.func98 rfl ?_
  simp only [run0, run1, run2, run3, run4, run5, run6, run7, run8, run9, run10, run11, run12, run13, run14, run15, run16, run17, run18, run19, run20, run21, run22, reduceCtorEq, Nat.reduceEqDiff, Nat.reduceAdd, Nat.reduceSub, Nat.reduceLeDiff, indexAddrA, indexRefA, appendA, strA, Nat.reduceMul, Nat.zero_mul, Nat.reduceMod, Int.reduceEq, Int.reduceLT, Int.reduceLE, Nat.reduceLT, Nat.lt_irrefl, Nat.reduceBEq, tys0, tys1, tys2, tys3, tys4, tys5, tys6, tys7, tys8, tys9, tys10, tys11, tys12, tys13, tys14, tys15, tys16, tys17, Try.ntmps98, Try.results98, enE, beq_self_eq_true]
  refine RunL.callp rfl rfl ok_f17 (ht) (by first | rfl | simp only [pureL, pureB, Bool.and_self, Bool.and_true, Bool.true_and, Su.elems_pure, Su.pay_pure, Su.av_pure]) rfl ?_
  simp only [run0, run1, run2, run3, run4, run5, run6, run7, run8, run9, run10, run11, run12, run13, run14, run15, run16, run17, run18, run19, run20, run21, run22, reduceCtorEq, Nat.reduceEqDiff, Nat.reduceAdd, Nat.reduceSub, Nat.reduceLeDiff, indexAddrA, indexRefA, appendA, strA, Nat.reduceMul, Nat.zero_mul, Nat.reduceMod, Int.reduceEq, Int.reduceLT, Int.reduceLE, Nat.reduceLT, Nat.lt_irrefl, Nat.reduceBEq, tys0, tys1, tys2, tys3, tys4, tys5, tys6, tys7, tys8, tys9, tys10, tys11, tys12, tys13, tys14, tys15, tys16, tys17, Try.ntmps98, Try.results98, eqT_refl]
  exact Fin.eq rfl rfl
theorem eqEntryS_ok (es : List En) (hl : es.length ≤ 1048576) (hs : ∀ e ∈ es, e.2.sz ≤ 1048576) : Ct Try.prog 79 [.sl false (es.map enE), .sl false (es.map enE)] [] (.bool true) [] := by
  refine Ct.by_ hmix [] Try.func79 rfl ?_
  simp only [run0, run1, run2, run3, run4, run5, run6, run7, run8, run9, run10, run11, run12, run13, run14, run15, run16, run17, run18, run19, run20, run21, run22, reduceCtorEq, Nat.reduceEqDiff, Nat.reduceAdd, Nat.reduceSub, Nat.reduceLeDiff, indexAddrA, indexRefA, appendA, strA, Nat.reduceMul, Nat.zero_mul, Nat.reduceMod, Int.reduceEq, Int.reduceLT, Int.reduceLE, Nat.reduceLT, Nat.lt_irrefl, Nat.reduceBEq, tys0, tys1, tys2, tys3, tys4, tys5, tys6, tys7, tys8, tys9, tys10, tys11, tys12, tys13, tys14, tys15, tys16, tys17, Try.ntmps79, Try.results79, bne_self_eq_false]
  refine AWp.loop_inv (ι := List En × List En) (fun p => ⟨[.sl false (es.map enE), .sl false (es.map enE), .junk, .junk, .bool false, .int .i64 p.1.length, .junk, .junk, .junk, .junk, .junk, .junk, .junk, .junk, .junk, .junk, .junk, .junk, .junk, .junk, .junk, .junk, .junk, .junk, .junk, .junk, .junk], []⟩)
    (fun p => es = p.1 ++ p.2) (fun p => p.2.length) ([], es) rfl ⟨by simp only [List.length_nil, Int.natCast_zero]; repeat constructor, rfl⟩ ?_
  rintro ⟨d, r⟩ ha
  refine W.sound hmix (E := []) ?_
  simp only at ha
  have hda : d.length + r.length = es.length := by rw [ha, List.length_append]
  cases r with
  | nil =>
    have e1 : ¬ ((d.length : Int) < (es.length : Int)) := by simp at hda; omega
    simp only [run0, run1, run2, run3, run4, run5, run6, run7, run8, run9, run10, run11, run12, run13, run14, run15, run16, run17, run18, run19, run20, run21, run22, reduceCtorEq, Nat.reduceEqDiff, Nat.reduceAdd, Nat.reduceSub, Nat.reduceLeDiff, indexAddrA, indexRefA, appendA, strA, Nat.reduceMul, Nat.zero_mul, Nat.reduceMod, Int.reduceEq, Int.reduceLT, Int.reduceLE, Nat.reduceLT, Nat.lt_irrefl, Nat.reduceBEq, tys0, tys1, tys2, tys3, tys4, tys5, tys6, tys7, tys8, tys9, tys10, tys11, tys12, tys13, tys14, tys15, tys16, tys17, Try.ntmps79, Try.results79, e1]
    exact Fin.eq rfl rfl
  | cons e r =>
    simp only [List.length_cons] at hda
    have e1 : (d.length : Int) < (es.length : Int) := by omega
    have e2 : (es.map enE)[d.length]? = some (.agg [.str e.1, .sl false (elems e.2)]) := by rw [ha]; exact enE_get d r e
    have e5 : IntKind.i64.wrap ((d.length : Int) + 1) = ((d ++ [e]).length : Int) := by rw [wr_id (by omega) (by omega)]; simp
    have ht := eqEntry_ok e (hs e (by rw [ha]; simp))
    simp only [enE] at ht
    simp only [run0, run1, run2, run3, run4, run5, run6, run7, run8, run9, run10, run11, run12, run13, run14, run15, run16, run17, run18, run19, run20, run21, run22, reduceCtorEq, Nat.reduceEqDiff, Nat.reduceAdd, Nat.reduceSub, Nat.reduceLeDiff, indexAddrA, indexRefA, appendA, strA, Nat.reduceMul, Nat.zero_mul, Nat.reduceMod, Int.reduceEq, Int.reduceLT, Int.reduceLE, Nat.reduceLT, Nat.lt_irrefl, Nat.reduceBEq, tys0, tys1, tys2, tys3, tys4, tys5, tys6, tys7, tys8, tys9, tys10, tys11, tys12, tys13, tys14, tys15, tys16, tys17, Try.ntmps79, Try.results79, e1, e2, Int.toNat_natCast, Int.natCast_nonneg]
    refine ⟨by kernel_rfl, ?_⟩
    refine RunL.callp rfl rfl ok_f98 (ht) (by first | rfl | simp only [pureL, pureB, Bool.and_self, Bool.and_true, Bool.true_and, Su.elems_pure, Su.pay_pure, Su.av_pure]) rfl ?_
    simp only [run0, run1, run2, run3, run4, run5, run6, run7, run8, run9, run10, run11, run12, run13, run14, run15, run16, run17, run18, run19, run20, run21, run22, reduceCtorEq, Nat.reduceEqDiff, Nat.reduceAdd, Nat.reduceSub, Nat.reduceLeDiff, indexAddrA, indexRefA, appendA, strA, Nat.reduceMul, Nat.zero_mul, Nat.reduceMod, Int.reduceEq, Int.reduceLT, Int.reduceLE, Nat.reduceLT, Nat.lt_irrefl, Nat.reduceBEq, tys0, tys1, tys2, tys3, tys4, tys5, tys6, tys7, tys8, tys9, tys10, tys11, tys12, tys13, tys14, tys15, tys16, tys17, Try.ntmps79, Try.results79, e5]
    exact ⟨(d ++ [e], r), by simp [ha], by simp, by simp only [List.length_append, List.length_cons, List.length_nil]; repeat constructor⟩
theorem eqNotebook_ok (es : List En) (hl : es.length ≤ 1048576) (hs : ∀ e ∈ es, e.2.sz ≤ 1048576) : Ct Try.prog 45 [.agg [.sl false (es.map enE)], .agg [.sl false (es.map enE)]] [] (.bool true) [] := by
  refine Ct.by_ hmix [] Try.func45 rfl ?_
  simp only [run0, run1, run2, run3, run4, run5, run6, run7, run8, run9, run10, run11, run12, run13, run14, run15, run16, run17, run18, run19, run20, run21, run22, reduceCtorEq, Nat.reduceEqDiff, Nat.reduceAdd, Nat.reduceSub, Nat.reduceLeDiff, indexAddrA, indexRefA, appendA, strA, Nat.reduceMul, Nat.zero_mul, Nat.reduceMod, Int.reduceEq, Int.reduceLT, Int.reduceLE, Nat.reduceLT, Nat.lt_irrefl, Nat.reduceBEq, tys0, tys1, tys2, tys3, tys4, tys5, tys6, tys7, tys8, tys9, tys10, tys11, tys12, tys13, tys14, tys15, tys16, tys17, Try.ntmps45, Try.results45]
  refine RunL.callp rfl rfl ok_f79 (eqEntryS_ok es hl hs) (by simp only [pureL, pureB, enL_pure, Bool.and_self, Bool.and_true, Bool.true_and]) rfl ?_
  simp only [run0, run1, run2, run3, run4, run5, run6, run7, run8, run9, run10, run11, run12, run13, run14, run15, run16, run17, run18, run19, run20, run21, run22, reduceCtorEq, Nat.reduceEqDiff, Nat.reduceAdd, Nat.reduceSub, Nat.reduceLeDiff, indexAddrA, indexRefA, appendA, strA, Nat.reduceMul, Nat.zero_mul, Nat.reduceMod, Int.reduceEq, Int.reduceLT, Int.reduceLE, Nat.reduceLT, Nat.lt_irrefl, Nat.reduceBEq, tys0, tys1, tys2, tys3, tys4, tys5, tys6, tys7, tys8, tys9, tys10, tys11, tys12, tys13, tys14, tys15, tys16, tys17, Try.ntmps45, Try.results45]
  exact Fin.eq rfl rfl

/-! ### names -/
def okAt (s : ByteArray) (j : Nat) : Bool := match s[j]? with | some b => decide (97 ≤ b.toNat) && decide (b.toNat ≤ 122) | none => true
def nameB (s : ByteArray) : Bool := (List.range s.size).all (okAt s) && (decide (1 ≤ s.size) && decide (s.size ≤ 8))
theorem range_snoc {s : ByteArray} {i : Nat} (h : (List.range i).all (okAt s) = true) (k : okAt s i = true) : (List.range (i + 1)).all (okAt s) = true := by
  rw [List.range_succ, List.all_append, h]; simp [k]
theorem name_no {s : ByteArray} {i : Nat} (hi : i < s.size) (k : okAt s i = false) : nameB s = false := by
  have : (List.range s.size).all (okAt s) = false := by
    rw [Bool.eq_false_iff]; intro h
    rw [List.all_eq_true.1 h i (List.mem_range.2 hi)] at k; cases k
  simp [nameB, this]
theorem idx_str {s : ByteArray} {i : Nat} {b : UInt8} (hb : s[i]? = some b) : indexA Try.prog 9 (.str s) (.int .i64 (i : Int)) = some (.int .u8 b.toNat) := by
  have hu : Try.prog.underlying 9 = some .string := Try.underlying9
  simp only [indexA, hu]
  rw [if_pos (Int.natCast_nonneg i), Int.toNat_natCast, hb]; rfl
theorem byte_at {s : ByteArray} {i : Nat} (hi : i < s.size) : ∃ b, s[i]? = some b := ⟨s[i], by simp [hi]⟩
theorem implName_ok (s : ByteArray) (hs : s.size ≤ 1048576) : Ct Try.prog 78 [.str s] [] (.bool (nameB s)) [] := by
  refine Ct.by_ hmix [] Try.func78 rfl ?_
  simp only [run0, run1, run2, run3, run4, run5, run6, run7, run8, run9, run10, run11, run12, run13, run14, run15, run16, run17, run18, run19, run20, run21, run22, reduceCtorEq, Nat.reduceEqDiff, Nat.reduceAdd, Nat.reduceSub, Nat.reduceLeDiff, indexAddrA, indexRefA, appendA, strA, Nat.reduceMul, Nat.zero_mul, Nat.reduceMod, Int.reduceEq, Int.reduceLT, Int.reduceLE, Nat.reduceLT, Nat.lt_irrefl, Nat.reduceBEq, tys0, tys1, tys2, tys3, tys4, tys5, tys6, tys7, tys8, tys9, tys10, tys11, tys12, tys13, tys14, tys15, tys16, tys17, Try.ntmps78, Try.results78]
  refine AWp.loop_inv (ι := Nat) (fun i => ⟨[.str s, .junk, .bool false, .junk, .junk, .int .i64 s.size, .int .i64 i, .junk, .junk, .junk, .junk, .junk, .junk, .junk, .junk, .junk, .junk, .junk, .junk, .junk, .junk, .junk, .junk, .junk, .junk, .junk, .junk, .junk], []⟩)
    (fun i => i ≤ s.size ∧ (List.range i).all (okAt s) = true) (fun i => s.size - i) 0 ⟨Nat.zero_le _, rfl⟩ ⟨by simp only [Int.natCast_zero]; repeat constructor, rfl⟩ ?_
  rintro i ⟨hi, hall⟩
  refine W.sound hmix (E := []) ?_
  by_cases hlt : i < s.size
  · have e1 : (i : Int) < (s.size : Int) := by omega
    obtain ⟨b, hb⟩ := byte_at hlt
    have hix := idx_str hb
    have e5 : IntKind.i64.wrap ((i : Int) + 1) = ((i + 1 : Nat) : Int) := by rw [wr_id (by omega) (by omega)]; omega
    have hok : okAt s i = (decide (97 ≤ b.toNat) && decide (b.toNat ≤ 122)) := by simp [okAt, hb]
    by_cases c1 : (b.toNat : Int) < 97
    · have hno : nameB s = false := name_no hlt (by rw [hok]; simp; omega)
      simp only [run0, run1, run2, run3, run4, run5, run6, run7, run8, run9, run10, run11, run12, run13, run14, run15, run16, run17, run18, run19, run20, run21, run22, reduceCtorEq, Nat.reduceEqDiff, Nat.reduceAdd, Nat.reduceSub, Nat.reduceLeDiff, indexAddrA, indexRefA, appendA, strA, Nat.reduceMul, Nat.zero_mul, Nat.reduceMod, Int.reduceEq, Int.reduceLT, Int.reduceLE, Nat.reduceLT, Nat.lt_irrefl, Nat.reduceBEq, tys0, tys1, tys2, tys3, tys4, tys5, tys6, tys7, tys8, tys9, tys10, tys11, tys12, tys13, tys14, tys15, tys16, tys17, Try.ntmps78, Try.results78, e1, hix, c1, Int.toNat_natCast, Int.natCast_nonneg, Option.map_some]
      exact Fin.eq (by rw [hno]) rfl
    · by_cases c2 : (122 : Int) < (b.toNat : Int)
      · have hno : nameB s = false := name_no hlt (by rw [hok]; simp; omega)
        simp only [run0, run1, run2, run3, run4, run5, run6, run7, run8, run9, run10, run11, run12, run13, run14, run15, run16, run17, run18, run19, run20, run21, run22, reduceCtorEq, Nat.reduceEqDiff, Nat.reduceAdd, Nat.reduceSub, Nat.reduceLeDiff, indexAddrA, indexRefA, appendA, strA, Nat.reduceMul, Nat.zero_mul, Nat.reduceMod, Int.reduceEq, Int.reduceLT, Int.reduceLE, Nat.reduceLT, Nat.lt_irrefl, Nat.reduceBEq, tys0, tys1, tys2, tys3, tys4, tys5, tys6, tys7, tys8, tys9, tys10, tys11, tys12, tys13, tys14, tys15, tys16, tys17, Try.ntmps78, Try.results78, e1, hix, c1, c2, Int.toNat_natCast, Int.natCast_nonneg, Option.map_some]
        exact Fin.eq (by rw [hno]) rfl
      · simp only [run0, run1, run2, run3, run4, run5, run6, run7, run8, run9, run10, run11, run12, run13, run14, run15, run16, run17, run18, run19, run20, run21, run22, reduceCtorEq, Nat.reduceEqDiff, Nat.reduceAdd, Nat.reduceSub, Nat.reduceLeDiff, indexAddrA, indexRefA, appendA, strA, Nat.reduceMul, Nat.zero_mul, Nat.reduceMod, Int.reduceEq, Int.reduceLT, Int.reduceLE, Nat.reduceLT, Nat.lt_irrefl, Nat.reduceBEq, tys0, tys1, tys2, tys3, tys4, tys5, tys6, tys7, tys8, tys9, tys10, tys11, tys12, tys13, tys14, tys15, tys16, tys17, Try.ntmps78, Try.results78, e1, hix, c1, c2, e5, Int.toNat_natCast, Int.natCast_nonneg, Option.map_some]
        exact ⟨i + 1, ⟨by omega, range_snoc hall (by rw [hok]; simp; omega)⟩, by omega, by repeat constructor⟩
  · have e1 : ¬ ((i : Int) < (s.size : Int)) := by omega
    have hie : i = s.size := by omega
    subst hie
    by_cases c1 : (1 : Int) ≤ (s.size : Int)
    · simp only [run0, run1, run2, run3, run4, run5, run6, run7, run8, run9, run10, run11, run12, run13, run14, run15, run16, run17, run18, run19, run20, run21, run22, reduceCtorEq, Nat.reduceEqDiff, Nat.reduceAdd, Nat.reduceSub, Nat.reduceLeDiff, indexAddrA, indexRefA, appendA, strA, Nat.reduceMul, Nat.zero_mul, Nat.reduceMod, Int.reduceEq, Int.reduceLT, Int.reduceLE, Nat.reduceLT, Nat.lt_irrefl, Nat.reduceBEq, tys0, tys1, tys2, tys3, tys4, tys5, tys6, tys7, tys8, tys9, tys10, tys11, tys12, tys13, tys14, tys15, tys16, tys17, Try.ntmps78, Try.results78, e1, c1]
      refine Fin.eq ?_ rfl
      have c2 : 1 ≤ s.size := by omega
      simp only [nameB, hall, Bool.true_and, c2, decide_true]
      congr 1
      rw [Bool.eq_iff_iff, decide_eq_true_eq, decide_eq_true_eq]; omega
    · simp only [run0, run1, run2, run3, run4, run5, run6, run7, run8, run9, run10, run11, run12, run13, run14, run15, run16, run17, run18, run19, run20, run21, run22, reduceCtorEq, Nat.reduceEqDiff, Nat.reduceAdd, Nat.reduceSub, Nat.reduceLeDiff, indexAddrA, indexRefA, appendA, strA, Nat.reduceMul, Nat.zero_mul, Nat.reduceMod, Int.reduceEq, Int.reduceLT, Int.reduceLE, Nat.reduceLT, Nat.lt_irrefl, Nat.reduceBEq, tys0, tys1, tys2, tys3, tys4, tys5, tys6, tys7, tys8, tys9, tys10, tys11, tys12, tys13, tys14, tys15, tys16, tys17, Try.ntmps78, Try.results78, e1, c1]
      have c2 : ¬ (1 ≤ s.size) := by omega
      exact Fin.eq (by simp [nameB, c2]) rfl
theorem specName_ok (s : ByteArray) (hs : s.size ≤ 1048576) : Ct Try.prog 96 [.str s] [] (.bool (nameB s)) [] := by
  refine Ct.by_ hmix [] Try.func96 rfl ?_
  simp only [run0, run1, run2, run3, run4, run5, run6, run7, run8, run9, run10, run11, run12, run13, run14, run15, run16, run17, run18, run19, run20, run21, run22, reduceCtorEq, Nat.reduceEqDiff, Nat.reduceAdd, Nat.reduceSub, Nat.reduceLeDiff, indexAddrA, indexRefA, appendA, strA, Nat.reduceMul, Nat.zero_mul, Nat.reduceMod, Int.reduceEq, Int.reduceLT, Int.reduceLE, Nat.reduceLT, Nat.lt_irrefl, Nat.reduceBEq, tys0, tys1, tys2, tys3, tys4, tys5, tys6, tys7, tys8, tys9, tys10, tys11, tys12, tys13, tys14, tys15, tys16, tys17, Try.ntmps96, Try.results96]
  refine AWp.loop_inv (ι := Nat) (fun i => ⟨[.str s, .junk, .bool false, .int .i64 i, .junk, .junk, .junk, .junk, .junk, .junk, .junk, .junk, .junk, .junk, .junk, .junk, .junk, .junk, .junk, .junk, .junk, .junk, .junk], []⟩)
    (fun i => i ≤ s.size ∧ (List.range i).all (okAt s) = true) (fun i => s.size - i) 0 ⟨Nat.zero_le _, rfl⟩ ⟨by simp only [Int.natCast_zero]; repeat constructor, rfl⟩ ?_
  rintro i ⟨hi, hall⟩
  refine W.sound hmix (E := []) ?_
  by_cases hlt : i < s.size
  · have e1 : (i : Int) < (s.size : Int) := by omega
    obtain ⟨b, hb⟩ := byte_at hlt
    have hix := idx_str hb
    have e5 : IntKind.i64.wrap ((i : Int) + 1) = ((i + 1 : Nat) : Int) := by rw [wr_id (by omega) (by omega)]; omega
    have hok : okAt s i = (decide (97 ≤ b.toNat) && decide (b.toNat ≤ 122)) := by simp [okAt, hb]
    by_cases c1 : (b.toNat : Int) < 97
    · have hno : nameB s = false := name_no hlt (by rw [hok]; simp; omega)
      simp only [run0, run1, run2, run3, run4, run5, run6, run7, run8, run9, run10, run11, run12, run13, run14, run15, run16, run17, run18, run19, run20, run21, run22, reduceCtorEq, Nat.reduceEqDiff, Nat.reduceAdd, Nat.reduceSub, Nat.reduceLeDiff, indexAddrA, indexRefA, appendA, strA, Nat.reduceMul, Nat.zero_mul, Nat.reduceMod, Int.reduceEq, Int.reduceLT, Int.reduceLE, Nat.reduceLT, Nat.lt_irrefl, Nat.reduceBEq, tys0, tys1, tys2, tys3, tys4, tys5, tys6, tys7, tys8, tys9, tys10, tys11, tys12, tys13, tys14, tys15, tys16, tys17, Try.ntmps96, Try.results96, e1, hix, c1, Int.toNat_natCast, Int.natCast_nonneg, Option.map_some]
      exact Fin.eq (by rw [hno]) rfl
    · by_cases c2 : (122 : Int) < (b.toNat : Int)
      · have hno : nameB s = false := name_no hlt (by rw [hok]; simp; omega)
        simp only [run0, run1, run2, run3, run4, run5, run6, run7, run8, run9, run10, run11, run12, run13, run14, run15, run16, run17, run18, run19, run20, run21, run22, reduceCtorEq, Nat.reduceEqDiff, Nat.reduceAdd, Nat.reduceSub, Nat.reduceLeDiff, indexAddrA, indexRefA, appendA, strA, Nat.reduceMul, Nat.zero_mul, Nat.reduceMod, Int.reduceEq, Int.reduceLT, Int.reduceLE, Nat.reduceLT, Nat.lt_irrefl, Nat.reduceBEq, tys0, tys1, tys2, tys3, tys4, tys5, tys6, tys7, tys8, tys9, tys10, tys11, tys12, tys13, tys14, tys15, tys16, tys17, Try.ntmps96, Try.results96, e1, hix, c1, c2, Int.toNat_natCast, Int.natCast_nonneg, Option.map_some]
        exact Fin.eq (by rw [hno]) rfl
      · simp only [run0, run1, run2, run3, run4, run5, run6, run7, run8, run9, run10, run11, run12, run13, run14, run15, run16, run17, run18, run19, run20, run21, run22, reduceCtorEq, Nat.reduceEqDiff, Nat.reduceAdd, Nat.reduceSub, Nat.reduceLeDiff, indexAddrA, indexRefA, appendA, strA, Nat.reduceMul, Nat.zero_mul, Nat.reduceMod, Int.reduceEq, Int.reduceLT, Int.reduceLE, Nat.reduceLT, Nat.lt_irrefl, Nat.reduceBEq, tys0, tys1, tys2, tys3, tys4, tys5, tys6, tys7, tys8, tys9, tys10, tys11, tys12, tys13, tys14, tys15, tys16, tys17, Try.ntmps96, Try.results96, e1, hix, c1, c2, e5, Int.toNat_natCast, Int.natCast_nonneg, Option.map_some]
        exact ⟨i + 1, ⟨by omega, range_snoc hall (by rw [hok]; simp; omega)⟩, by omega, by repeat constructor⟩
  · have e1 : ¬ ((i : Int) < (s.size : Int)) := by omega
    have hie : i = s.size := by omega
    subst hie
    simp only [run0, run1, run2, run3, run4, run5, run6, run7, run8, run9, run10, run11, run12, run13, run14, run15, run16, run17, run18, run19, run20, run21, run22, reduceCtorEq, Nat.reduceEqDiff, Nat.reduceAdd, Nat.reduceSub, Nat.reduceLeDiff, indexAddrA, indexRefA, appendA, strA, Nat.reduceMul, Nat.zero_mul, Nat.reduceMod, Int.reduceEq, Int.reduceLT, Int.reduceLE, Nat.reduceLT, Nat.lt_irrefl, Nat.reduceBEq, tys0, tys1, tys2, tys3, tys4, tys5, tys6, tys7, tys8, tys9, tys10, tys11, tys12, tys13, tys14, tys15, tys16, tys17, Try.ntmps96, Try.results96, e1]
    refine RunL.callp rfl rfl ok_f80 (l1In_ok s.size 1 8) (by first | rfl | simp only [pureL, pureB, Bool.and_self, Bool.and_true, Bool.true_and, Su.elems_pure, Su.pay_pure, Su.av_pure]) rfl ?_
    simp only [run0, run1, run2, run3, run4, run5, run6, run7, run8, run9, run10, run11, run12, run13, run14, run15, run16, run17, run18, run19, run20, run21, run22, reduceCtorEq, Nat.reduceEqDiff, Nat.reduceAdd, Nat.reduceSub, Nat.reduceLeDiff, indexAddrA, indexRefA, appendA, strA, Nat.reduceMul, Nat.zero_mul, Nat.reduceMod, Int.reduceEq, Int.reduceLT, Int.reduceLE, Nat.reduceLT, Nat.lt_irrefl, Nat.reduceBEq, tys0, tys1, tys2, tys3, tys4, tys5, tys6, tys7, tys8, tys9, tys10, tys11, tys12, tys13, tys14, tys15, tys16, tys17, Try.ntmps96, Try.results96]
    refine Fin.eq ?_ rfl
    simp only [nameB, hall, Bool.true_and, inB]
    congr 1
    rw [Bool.eq_iff_iff]; simp only [Bool.and_eq_true, decide_eq_true_eq]; omega

/-! ### notebooks -/
def ltB (p : Option ByteArray) (s : ByteArray) : Bool := match p with | none => true | some q => Op.bytesLess q.toList s.toList
def goodN : Option ByteArray → List En → Bool
  | _, [] => true
  | p, e :: r => nameB e.1 && goodT e.2 && ltB p e.1 && goodN (some e.1) r
def bookB (es : List En) : Bool := goodN none es && decide (es.length ≤ 12)
def AheadN (d : List En) : Option En → Prop
  | none => d = []
  | some e => ∃ d0, d = d0 ++ [e]
theorem implBook_ok (es : List En) (hl : es.length ≤ 1048576) (hs : ∀ e ∈ es, e.1.size ≤ 1048576 ∧ e.2.sz ≤ 1048576) : Ct Try.prog 44 [.agg [.sl false (es.map enE)]] [] (.bool (bookB es)) [] := by
  refine Ct.by_ hmix [] Try.func44 rfl ?_
  simp only [run0, run1, run2, run3, run4, run5, run6, run7, run8, run9, run10, run11, run12, run13, run14, run15, run16, run17, run18, run19, run20, run21, run22, reduceCtorEq, Nat.reduceEqDiff, Nat.reduceAdd, Nat.reduceSub, Nat.reduceLeDiff, indexAddrA, indexRefA, appendA, strA, Nat.reduceMul, Nat.zero_mul, Nat.reduceMod, Int.reduceEq, Int.reduceLT, Int.reduceLE, Nat.reduceLT, Nat.lt_irrefl, Nat.reduceBEq, tys0, tys1, tys2, tys3, tys4, tys5, tys6, tys7, tys8, tys9, tys10, tys11, tys12, tys13, tys14, tys15, tys16, tys17, Try.ntmps44, Try.results44]
  refine AWp.loop_inv (ι := List En × List En × Option En × List AObj) (fun p => ⟨[.agg [.sl false (es.map enE)], .ptr 0 0, .bool false, .junk, .junk, .junk, .sl false (es.map enE), .int .i64 es.length, .int .i64 p.1.length, .junk, .junk, .junk, .junk, .junk, .junk, .junk, .junk, .junk, .junk, .junk, .junk, .junk, .junk, .junk, .junk, .junk, .junk, .junk, .junk, .junk, .junk, .junk, .junk, .junk, .junk, .junk, .junk, .junk, .junk, .junk, .junk, .junk, .junk, .junk], .box 60 [.sl false (es.map enE)] :: p.2.2.2⟩)
    (fun p => es = p.1 ++ p.2.1 ∧ AheadN p.1 p.2.2.1 ∧ goodN (p.2.2.1.map (·.1)) p.2.1 = goodN none es) (fun p => p.2.1.length) ([], es, none, []) ⟨rfl, rfl, rfl⟩ ⟨by simp only [List.length_nil, Int.natCast_zero]; repeat constructor, rfl⟩ ?_
  rintro ⟨d, r, P, X⟩ ⟨ha, hA, h2⟩
  refine W.sound hmix (E := []) ?_
  simp only at ha hA h2
  have hda : d.length + r.length = es.length := by rw [ha, List.length_append]
  cases r with
  | nil =>
    have e1 : ¬ ((d.length : Int) < (es.length : Int)) := by simp at hda; omega
    simp only [run0, run1, run2, run3, run4, run5, run6, run7, run8, run9, run10, run11, run12, run13, run14, run15, run16, run17, run18, run19, run20, run21, run22, reduceCtorEq, Nat.reduceEqDiff, Nat.reduceAdd, Nat.reduceSub, Nat.reduceLeDiff, indexAddrA, indexRefA, appendA, strA, Nat.reduceMul, Nat.zero_mul, Nat.reduceMod, Int.reduceEq, Int.reduceLT, Int.reduceLE, Nat.reduceLT, Nat.lt_irrefl, Nat.reduceBEq, tys0, tys1, tys2, tys3, tys4, tys5, tys6, tys7, tys8, tys9, tys10, tys11, tys12, tys13, tys14, tys15, tys16, tys17, Try.ntmps44, Try.results44, e1]
    refine Fin.eq ?_ rfl
    simp only [goodN] at h2
    simp only [bookB, ← h2, Bool.true_and]
    congr 1
    rw [Bool.eq_iff_iff, decide_eq_true_eq, decide_eq_true_eq]; omega
  | cons e r =>
    simp only [List.length_cons] at hda
    have e1 : (d.length : Int) < (es.length : Int) := by omega
    have e2 : (es.map enE)[d.length]? = some (.agg [.str e.1, .sl false (elems e.2)]) := by rw [ha]; exact enE_get d r e
    have e5 : IntKind.i64.wrap ((d.length : Int) + 1) = ((d ++ [e]).length : Int) := by rw [wr_id (by omega) (by omega)]; simp
    obtain ⟨g1, g2⟩ := hs e (by rw [ha]; simp)
    have hg := IsSurreal_ok e.2 g2
    simp only [av] at hg
    have no : goodN none es = false → bookB es = false := fun h => by simp [bookB, h]
    simp only [goodN] at h2
    simp only [run0, run1, run2, run3, run4, run5, run6, run7, run8, run9, run10, run11, run12, run13, run14, run15, run16, run17, run18, run19, run20, run21, run22, reduceCtorEq, Nat.reduceEqDiff, Nat.reduceAdd, Nat.reduceSub, Nat.reduceLeDiff, indexAddrA, indexRefA, appendA, strA, Nat.reduceMul, Nat.zero_mul, Nat.reduceMod, Int.reduceEq, Int.reduceLT, Int.reduceLE, Nat.reduceLT, Nat.lt_irrefl, Nat.reduceBEq, tys0, tys1, tys2, tys3, tys4, tys5, tys6, tys7, tys8, tys9, tys10, tys11, tys12, tys13, tys14, tys15, tys16, tys17, Try.ntmps44, Try.results44, e1, e2, Int.toNat_natCast, Int.natCast_nonneg]
    refine ⟨by kernel_rfl, ?_⟩
    refine RunL.callp rfl rfl ok_f78 (implName_ok e.1 g1) (by first | rfl | simp only [pureL, pureB, Bool.and_self, Bool.and_true, Bool.true_and, Su.elems_pure, Su.pay_pure, Su.av_pure]) rfl ?_
    cases c1 : nameB e.1
    · simp only [run0, run1, run2, run3, run4, run5, run6, run7, run8, run9, run10, run11, run12, run13, run14, run15, run16, run17, run18, run19, run20, run21, run22, reduceCtorEq, Nat.reduceEqDiff, Nat.reduceAdd, Nat.reduceSub, Nat.reduceLeDiff, indexAddrA, indexRefA, appendA, strA, Nat.reduceMul, Nat.zero_mul, Nat.reduceMod, Int.reduceEq, Int.reduceLT, Int.reduceLE, Nat.reduceLT, Nat.lt_irrefl, Nat.reduceBEq, tys0, tys1, tys2, tys3, tys4, tys5, tys6, tys7, tys8, tys9, tys10, tys11, tys12, tys13, tys14, tys15, tys16, tys17, Try.ntmps44, Try.results44, c1]
      exact Fin.eq (by rw [no (by rw [← h2, c1]; rfl)]) rfl
    simp only [run0, run1, run2, run3, run4, run5, run6, run7, run8, run9, run10, run11, run12, run13, run14, run15, run16, run17, run18, run19, run20, run21, run22, reduceCtorEq, Nat.reduceEqDiff, Nat.reduceAdd, Nat.reduceSub, Nat.reduceLeDiff, indexAddrA, indexRefA, appendA, strA, Nat.reduceMul, Nat.zero_mul, Nat.reduceMod, Int.reduceEq, Int.reduceLT, Int.reduceLE, Nat.reduceLT, Nat.lt_irrefl, Nat.reduceBEq, tys0, tys1, tys2, tys3, tys4, tys5, tys6, tys7, tys8, tys9, tys10, tys11, tys12, tys13, tys14, tys15, tys16, tys17, Try.ntmps44, Try.results44, c1]
    refine RunL.callp rfl rfl ok_f23 (hg) (by first | rfl | simp only [pureL, pureB, Bool.and_self, Bool.and_true, Bool.true_and, Su.elems_pure, Su.pay_pure, Su.av_pure]) rfl ?_
    cases c2 : goodT e.2
    · simp only [run0, run1, run2, run3, run4, run5, run6, run7, run8, run9, run10, run11, run12, run13, run14, run15, run16, run17, run18, run19, run20, run21, run22, reduceCtorEq, Nat.reduceEqDiff, Nat.reduceAdd, Nat.reduceSub, Nat.reduceLeDiff, indexAddrA, indexRefA, appendA, strA, Nat.reduceMul, Nat.zero_mul, Nat.reduceMod, Int.reduceEq, Int.reduceLT, Int.reduceLE, Nat.reduceLT, Nat.lt_irrefl, Nat.reduceBEq, tys0, tys1, tys2, tys3, tys4, tys5, tys6, tys7, tys8, tys9, tys10, tys11, tys12, tys13, tys14, tys15, tys16, tys17, Try.ntmps44, Try.results44, c2]
      exact Fin.eq (by rw [no (by rw [← h2, c1, c2]; rfl)]) rfl
    rw [c1, c2] at h2
    simp only [Bool.true_and] at h2
    cases P with
    | none =>
      simp only [AheadN] at hA
      subst hA
      simp only [Option.map_none, ltB, Bool.true_and] at h2
      simp only [run0, run1, run2, run3, run4, run5, run6, run7, run8, run9, run10, run11, run12, run13, run14, run15, run16, run17, run18, run19, run20, run21, run22, reduceCtorEq, Nat.reduceEqDiff, Nat.reduceAdd, Nat.reduceSub, Nat.reduceLeDiff, indexAddrA, indexRefA, appendA, strA, Nat.reduceMul, Nat.zero_mul, Nat.reduceMod, Int.reduceEq, Int.reduceLT, Int.reduceLE, Nat.reduceLT, Nat.lt_irrefl, Nat.reduceBEq, tys0, tys1, tys2, tys3, tys4, tys5, tys6, tys7, tys8, tys9, tys10, tys11, tys12, tys13, tys14, tys15, tys16, tys17, Try.ntmps44, Try.results44, c2, e5, List.length_nil, Int.natCast_zero, Int.lt_irrefl]
      exact ⟨([e], r, some e, _), ⟨ha, ⟨[], rfl⟩, h2⟩, by simp, by simp only [List.length_append, List.length_cons, List.length_nil]; repeat constructor, rfl⟩
    | some q =>
      obtain ⟨d0, hd⟩ := hA
      have hdl : d.length = d0.length + 1 := by rw [hd]; simp
      have e6 : (0 : Int) < (d.length : Int) := by omega
      have e7 : IntKind.i64.wrap ((d.length : Int) - 1) = (d0.length : Int) := by rw [wr_id (by omega) (by omega)]; omega
      have e8 : (es.map enE)[d0.length]? = some (.agg [.str q.1, .sl false (elems q.2)]) := by
        rw [ha, hd, List.append_assoc]; exact enE_get d0 (e :: r) q
      have e9 : (d0.length : Int) < (es.length : Int) := by omega
      simp only [Option.map_some, ltB] at h2
      cases c3 : Op.bytesLess q.1.toList e.1.toList
      · simp only [run0, run1, run2, run3, run4, run5, run6, run7, run8, run9, run10, run11, run12, run13, run14, run15, run16, run17, run18, run19, run20, run21, run22, reduceCtorEq, Nat.reduceEqDiff, Nat.reduceAdd, Nat.reduceSub, Nat.reduceLeDiff, indexAddrA, indexRefA, appendA, strA, Nat.reduceMul, Nat.zero_mul, Nat.reduceMod, Int.reduceEq, Int.reduceLT, Int.reduceLE, Nat.reduceLT, Nat.lt_irrefl, Nat.reduceBEq, tys0, tys1, tys2, tys3, tys4, tys5, tys6, tys7, tys8, tys9, tys10, tys11, tys12, tys13, tys14, tys15, tys16, tys17, Try.ntmps44, Try.results44, c2, c3, e6, e7, e8, e9, Int.toNat_natCast, Int.natCast_nonneg]
        exact Fin.eq (by rw [no (by rw [← h2, c3]; rfl)]) rfl
      · rw [c3] at h2
        simp only [Bool.true_and] at h2
        simp only [run0, run1, run2, run3, run4, run5, run6, run7, run8, run9, run10, run11, run12, run13, run14, run15, run16, run17, run18, run19, run20, run21, run22, reduceCtorEq, Nat.reduceEqDiff, Nat.reduceAdd, Nat.reduceSub, Nat.reduceLeDiff, indexAddrA, indexRefA, appendA, strA, Nat.reduceMul, Nat.zero_mul, Nat.reduceMod, Int.reduceEq, Int.reduceLT, Int.reduceLE, Nat.reduceLT, Nat.lt_irrefl, Nat.reduceBEq, tys0, tys1, tys2, tys3, tys4, tys5, tys6, tys7, tys8, tys9, tys10, tys11, tys12, tys13, tys14, tys15, tys16, tys17, Try.ntmps44, Try.results44, c2, c3, e5, e6, e7, e8, e9, Int.toNat_natCast, Int.natCast_nonneg]
        exact ⟨(d ++ [e], r, some e, _), ⟨by simp [ha], ⟨d, rfl⟩, h2⟩, by simp, by simp only [List.length_append, List.length_cons, List.length_nil]; repeat constructor, rfl⟩
theorem specBook_ok (es : List En) (hl : es.length ≤ 1048576) (hs : ∀ e ∈ es, e.1.size ≤ 1048576 ∧ e.2.sz ≤ 1048576) : Ct Try.prog 76 [.agg [.sl false (es.map enE)]] [] (.bool (bookB es)) [] := by
  refine Ct.by_ hmix [] Try.func76 rfl ?_
  simp only [run0, run1, run2, run3, run4, run5, run6, run7, run8, run9, run10, run11, run12, run13, run14, run15, run16, run17, run18, run19, run20, run21, run22, reduceCtorEq, Nat.reduceEqDiff, Nat.reduceAdd, Nat.reduceSub, Nat.reduceLeDiff, indexAddrA, indexRefA, appendA, strA, Nat.reduceMul, Nat.zero_mul, Nat.reduceMod, Int.reduceEq, Int.reduceLT, Int.reduceLE, Nat.reduceLT, Nat.lt_irrefl, Nat.reduceBEq, tys0, tys1, tys2, tys3, tys4, tys5, tys6, tys7, tys8, tys9, tys10, tys11, tys12, tys13, tys14, tys15, tys16, tys17, Try.ntmps76, Try.results76]
  refine AWp.loop_inv (ι := List En × List En × Option En × List AObj) (fun p => ⟨[.agg [.sl false (es.map enE)], .ptr 0 0, .bool false, .junk, .junk, .junk, .sl false (es.map enE), .int .i64 es.length, .int .i64 p.1.length, .junk, .junk, .junk, .junk, .junk, .junk, .junk, .junk, .junk, .junk, .junk, .junk, .junk, .junk, .junk, .junk, .junk, .junk, .junk, .junk, .junk, .junk, .junk, .junk, .junk, .junk, .junk, .junk, .junk, .junk, .junk, .junk, .junk, .junk, .junk], .box 60 [.sl false (es.map enE)] :: p.2.2.2⟩)
    (fun p => es = p.1 ++ p.2.1 ∧ AheadN p.1 p.2.2.1 ∧ goodN (p.2.2.1.map (·.1)) p.2.1 = goodN none es) (fun p => p.2.1.length) ([], es, none, []) ⟨rfl, rfl, rfl⟩ ⟨by simp only [List.length_nil, Int.natCast_zero]; repeat constructor, rfl⟩ ?_
  rintro ⟨d, r, P, X⟩ ⟨ha, hA, h2⟩
  refine W.sound hmix (E := []) ?_
  simp only at ha hA h2
  have hda : d.length + r.length = es.length := by rw [ha, List.length_append]
  cases r with
  | nil =>
    have e1 : ¬ ((d.length : Int) < (es.length : Int)) := by simp at hda; omega
    simp only [run0, run1, run2, run3, run4, run5, run6, run7, run8, run9, run10, run11, run12, run13, run14, run15, run16, run17, run18, run19, run20, run21, run22, reduceCtorEq, Nat.reduceEqDiff, Nat.reduceAdd, Nat.reduceSub, Nat.reduceLeDiff, indexAddrA, indexRefA, appendA, strA, Nat.reduceMul, Nat.zero_mul, Nat.reduceMod, Int.reduceEq, Int.reduceLT, Int.reduceLE, Nat.reduceLT, Nat.lt_irrefl, Nat.reduceBEq, tys0, tys1, tys2, tys3, tys4, tys5, tys6, tys7, tys8, tys9, tys10, tys11, tys12, tys13, tys14, tys15, tys16, tys17, Try.ntmps76, Try.results76, e1]
    refine Fin.eq ?_ rfl
    simp only [goodN] at h2
    simp only [bookB, ← h2, Bool.true_and]
    congr 1
    rw [Bool.eq_iff_iff, decide_eq_true_eq, decide_eq_true_eq]; omega
  | cons e r =>
    simp only [List.length_cons] at hda
    have e1 : (d.length : Int) < (es.length : Int) := by omega
    have e2 : (es.map enE)[d.length]? = some (.agg [.str e.1, .sl false (elems e.2)]) := by rw [ha]; exact enE_get d r e
    have e5 : IntKind.i64.wrap ((d.length : Int) + 1) = ((d ++ [e]).length : Int) := by rw [wr_id (by omega) (by omega)]; simp
    obtain ⟨g1, g2⟩ := hs e (by rw [ha]; simp)
    have hg := odGood_ok e.2 g2
    simp only [av] at hg
    have no : goodN none es = false → bookB es = false := fun h => by simp [bookB, h]
    simp only [goodN] at h2
    simp only [run0, run1, run2, run3, run4, run5, run6, run7, run8, run9, run10, run11, run12, run13, run14, run15, run16, run17, run18, run19, run20, run21, run22, reduceCtorEq, Nat.reduceEqDiff, Nat.reduceAdd, Nat.reduceSub, Nat.reduceLeDiff, indexAddrA, indexRefA, appendA, strA, Nat.reduceMul, Nat.zero_mul, Nat.reduceMod, Int.reduceEq, Int.reduceLT, Int.reduceLE, Nat.reduceLT, Nat.lt_irrefl, Nat.reduceBEq, tys0, tys1, tys2, tys3, tys4, tys5, tys6, tys7, tys8, tys9, tys10, tys11, tys12, tys13, tys14, tys15, tys16, tys17, Try.ntmps76, Try.results76, e1, e2, Int.toNat_natCast, Int.natCast_nonneg]
    refine ⟨by kernel_rfl, ?_⟩
    refine RunL.callp rfl rfl ok_f96 (specName_ok e.1 g1) (by first | rfl | simp only [pureL, pureB, Bool.and_self, Bool.and_true, Bool.true_and, Su.elems_pure, Su.pay_pure, Su.av_pure]) rfl ?_
    cases c1 : nameB e.1
    · simp only [run0, run1, run2, run3, run4, run5, run6, run7, run8, run9, run10, run11, run12, run13, run14, run15, run16, run17, run18, run19, run20, run21, run22, reduceCtorEq, Nat.reduceEqDiff, Nat.reduceAdd, Nat.reduceSub, Nat.reduceLeDiff, indexAddrA, indexRefA, appendA, strA, Nat.reduceMul, Nat.zero_mul, Nat.reduceMod, Int.reduceEq, Int.reduceLT, Int.reduceLE, Nat.reduceLT, Nat.lt_irrefl, Nat.reduceBEq, tys0, tys1, tys2, tys3, tys4, tys5, tys6, tys7, tys8, tys9, tys10, tys11, tys12, tys13, tys14, tys15, tys16, tys17, Try.ntmps76, Try.results76, c1]
      exact Fin.eq (by rw [no (by rw [← h2, c1]; rfl)]) rfl
    simp only [run0, run1, run2, run3, run4, run5, run6, run7, run8, run9, run10, run11, run12, run13, run14, run15, run16, run17, run18, run19, run20, run21, run22, reduceCtorEq, Nat.reduceEqDiff, Nat.reduceAdd, Nat.reduceSub, Nat.reduceLeDiff, indexAddrA, indexRefA, appendA, strA, Nat.reduceMul, Nat.zero_mul, Nat.reduceMod, Int.reduceEq, Int.reduceLT, Int.reduceLE, Nat.reduceLT, Nat.lt_irrefl, Nat.reduceBEq, tys0, tys1, tys2, tys3, tys4, tys5, tys6, tys7, tys8, tys9, tys10, tys11, tys12, tys13, tys14, tys15, tys16, tys17, Try.ntmps76, Try.results76, c1]
    refine RunL.callp rfl rfl ok_f55 (hg) (by first | rfl | simp only [pureL, pureB, Bool.and_self, Bool.and_true, Bool.true_and, Su.elems_pure, Su.pay_pure, Su.av_pure]) rfl ?_
    cases c2 : goodT e.2
    · simp only [run0, run1, run2, run3, run4, run5, run6, run7, run8, run9, run10, run11, run12, run13, run14, run15, run16, run17, run18, run19, run20, run21, run22, reduceCtorEq, Nat.reduceEqDiff, Nat.reduceAdd, Nat.reduceSub, Nat.reduceLeDiff, indexAddrA, indexRefA, appendA, strA, Nat.reduceMul, Nat.zero_mul, Nat.reduceMod, Int.reduceEq, Int.reduceLT, Int.reduceLE, Nat.reduceLT, Nat.lt_irrefl, Nat.reduceBEq, tys0, tys1, tys2, tys3, tys4, tys5, tys6, tys7, tys8, tys9, tys10, tys11, tys12, tys13, tys14, tys15, tys16, tys17, Try.ntmps76, Try.results76, c2]
      exact Fin.eq (by rw [no (by rw [← h2, c1, c2]; rfl)]) rfl
    rw [c1, c2] at h2
    simp only [Bool.true_and] at h2
    cases P with
    | none =>
      simp only [AheadN] at hA
      subst hA
      simp only [Option.map_none, ltB, Bool.true_and] at h2
      simp only [run0, run1, run2, run3, run4, run5, run6, run7, run8, run9, run10, run11, run12, run13, run14, run15, run16, run17, run18, run19, run20, run21, run22, reduceCtorEq, Nat.reduceEqDiff, Nat.reduceAdd, Nat.reduceSub, Nat.reduceLeDiff, indexAddrA, indexRefA, appendA, strA, Nat.reduceMul, Nat.zero_mul, Nat.reduceMod, Int.reduceEq, Int.reduceLT, Int.reduceLE, Nat.reduceLT, Nat.lt_irrefl, Nat.reduceBEq, tys0, tys1, tys2, tys3, tys4, tys5, tys6, tys7, tys8, tys9, tys10, tys11, tys12, tys13, tys14, tys15, tys16, tys17, Try.ntmps76, Try.results76, c2, e5, List.length_nil, Int.natCast_zero, Int.lt_irrefl]
      exact ⟨([e], r, some e, _), ⟨ha, ⟨[], rfl⟩, h2⟩, by simp, by simp only [List.length_append, List.length_cons, List.length_nil]; repeat constructor, rfl⟩
    | some q =>
      obtain ⟨d0, hd⟩ := hA
      have hdl : d.length = d0.length + 1 := by rw [hd]; simp
      have e6 : (0 : Int) < (d.length : Int) := by omega
      have e7 : IntKind.i64.wrap ((d.length : Int) - 1) = (d0.length : Int) := by rw [wr_id (by omega) (by omega)]; omega
      have e8 : (es.map enE)[d0.length]? = some (.agg [.str q.1, .sl false (elems q.2)]) := by
        rw [ha, hd, List.append_assoc]; exact enE_get d0 (e :: r) q
      have e9 : (d0.length : Int) < (es.length : Int) := by omega
      simp only [Option.map_some, ltB] at h2
      cases c3 : Op.bytesLess q.1.toList e.1.toList
      · simp only [run0, run1, run2, run3, run4, run5, run6, run7, run8, run9, run10, run11, run12, run13, run14, run15, run16, run17, run18, run19, run20, run21, run22, reduceCtorEq, Nat.reduceEqDiff, Nat.reduceAdd, Nat.reduceSub, Nat.reduceLeDiff, indexAddrA, indexRefA, appendA, strA, Nat.reduceMul, Nat.zero_mul, Nat.reduceMod, Int.reduceEq, Int.reduceLT, Int.reduceLE, Nat.reduceLT, Nat.lt_irrefl, Nat.reduceBEq, tys0, tys1, tys2, tys3, tys4, tys5, tys6, tys7, tys8, tys9, tys10, tys11, tys12, tys13, tys14, tys15, tys16, tys17, Try.ntmps76, Try.results76, c2, c3, e6, e7, e8, e9, Int.toNat_natCast, Int.natCast_nonneg]
        exact Fin.eq (by rw [no (by rw [← h2, c3]; rfl)]) rfl
      · rw [c3] at h2
        simp only [Bool.true_and] at h2
        simp only [run0, run1, run2, run3, run4, run5, run6, run7, run8, run9, run10, run11, run12, run13, run14, run15, run16, run17, run18, run19, run20, run21, run22, reduceCtorEq, Nat.reduceEqDiff, Nat.reduceAdd, Nat.reduceSub, Nat.reduceLeDiff, indexAddrA, indexRefA, appendA, strA, Nat.reduceMul, Nat.zero_mul, Nat.reduceMod, Int.reduceEq, Int.reduceLT, Int.reduceLE, Nat.reduceLT, Nat.lt_irrefl, Nat.reduceBEq, tys0, tys1, tys2, tys3, tys4, tys5, tys6, tys7, tys8, tys9, tys10, tys11, tys12, tys13, tys14, tys15, tys16, tys17, Try.ntmps76, Try.results76, c2, c3, e5, e6, e7, e8, e9, Int.toNat_natCast, Int.natCast_nonneg]
        exact ⟨(d ++ [e], r, some e, _), ⟨by simp [ha], ⟨d, rfl⟩, h2⟩, by simp, by simp only [List.length_append, List.length_cons, List.length_nil]; repeat constructor, rfl⟩
theorem specIs_ok (es : List En) (hl : es.length ≤ 1048576) (hs : ∀ e ∈ es, e.1.size ≤ 1048576 ∧ e.2.sz ≤ 1048576) : Ct Try.prog 42 [.agg [.sl false (es.map enE)]] [] (.bool (bookB es)) [] := by
  refine Ct.by_ hmix [] Try.func42 rfl ?_
  simp only [run0, run1, run2, run3, run4, run5, run6, run7, run8, run9, run10, run11, run12, run13, run14, run15, run16, run17, run18, run19, run20, run21, run22, reduceCtorEq, Nat.reduceEqDiff, Nat.reduceAdd, Nat.reduceSub, Nat.reduceLeDiff, indexAddrA, indexRefA, appendA, strA, Nat.reduceMul, Nat.zero_mul, Nat.reduceMod, Int.reduceEq, Int.reduceLT, Int.reduceLE, Nat.reduceLT, Nat.lt_irrefl, Nat.reduceBEq, tys0, tys1, tys2, tys3, tys4, tys5, tys6, tys7, tys8, tys9, tys10, tys11, tys12, tys13, tys14, tys15, tys16, tys17, Try.ntmps42, Try.results42]
  refine RunL.callp rfl rfl ok_f76 (specBook_ok es hl hs) (by simp only [pureL, pureB, enL_pure, Bool.and_self, Bool.and_true, Bool.true_and]) rfl ?_
  simp only [run0, run1, run2, run3, run4, run5, run6, run7, run8, run9, run10, run11, run12, run13, run14, run15, run16, run17, run18, run19, run20, run21, run22, reduceCtorEq, Nat.reduceEqDiff, Nat.reduceAdd, Nat.reduceSub, Nat.reduceLeDiff, indexAddrA, indexRefA, appendA, strA, Nat.reduceMul, Nat.zero_mul, Nat.reduceMod, Int.reduceEq, Int.reduceLT, Int.reduceLE, Nat.reduceLT, Nat.lt_irrefl, Nat.reduceBEq, tys0, tys1, tys2, tys3, tys4, tys5, tys6, tys7, tys8, tys9, tys10, tys11, tys12, tys13, tys14, tys15, tys16, tys17, Try.ntmps42, Try.results42]
  exact Fin.eq rfl rfl

theorem FnExactIsNotebook_ok {a0 : AV} (h0 : IsOf Try.prog 55 a0) : Ct Try.prog 13 [a0] [] (.bool true) [] := by
  obtain ⟨es, rfl, hf⟩ := laws_isNb h0
  refine Ct.by_ hmix [] Try.func13 rfl ?_
  simp only [run0, run1, run2, run3, run4, run5, run6, run7, run8, run9, run10, run11, run12, run13, run14, run15, run16, run17, run18, run19, run20, run21, run22, reduceCtorEq, Nat.reduceEqDiff, Nat.reduceAdd, Nat.reduceSub, Nat.reduceLeDiff, indexAddrA, indexRefA, appendA, strA, Nat.reduceMul, Nat.zero_mul, Nat.reduceMod, Int.reduceEq, Int.reduceLT, Int.reduceLE, Nat.reduceLT, Nat.lt_irrefl, Nat.reduceBEq, tys0, tys1, tys2, tys3, tys4, tys5, tys6, tys7, tys8, tys9, tys10, tys11, tys12, tys13, tys14, tys15, tys16, tys17, Try.ntmps13, Try.results13]
  refine RunL.callp rfl rfl ok_f41 (szNotebook_ok es 1048576 hf (by omega) (by omega)) (by simp only [pureL, pureB, enL_pure, Bool.and_self, Bool.and_true, Bool.true_and]) rfl ?_
  rcases szR_spec (es.length + lsz es) 1048576 with ⟨hs, hr⟩ | ⟨hs, hr⟩
  case inr =>
    have e1 : szR (es.length + lsz es) 1048576 < 0 := by omega
    simp only [run0, run1, run2, run3, run4, run5, run6, run7, run8, run9, run10, run11, run12, run13, run14, run15, run16, run17, run18, run19, run20, run21, run22, reduceCtorEq, Nat.reduceEqDiff, Nat.reduceAdd, Nat.reduceSub, Nat.reduceLeDiff, indexAddrA, indexRefA, appendA, strA, Nat.reduceMul, Nat.zero_mul, Nat.reduceMod, Int.reduceEq, Int.reduceLT, Int.reduceLE, Nat.reduceLT, Nat.lt_irrefl, Nat.reduceBEq, tys0, tys1, tys2, tys3, tys4, tys5, tys6, tys7, tys8, tys9, tys10, tys11, tys12, tys13, tys14, tys15, tys16, tys17, Try.ntmps13, Try.results13, e1]
    exact Fin.eq rfl rfl
  have e1 : ¬ (szR (es.length + lsz es) 1048576 < 0) := by omega
  have hl : es.length ≤ 1048576 := by omega
  have hall : ∀ e ∈ es, e.1.size ≤ 1048576 ∧ e.2.sz ≤ 1048576 := fun e he => by
    obtain ⟨d, r, rfl⟩ := List.append_of_mem he
    rw [lsz_app] at hs
    simp only [lsz, esz] at hs
    omega
  have hs2 : ∀ e ∈ es, e.2.sz ≤ 1048576 := fun e he => (hall e he).2
  simp only [run0, run1, run2, run3, run4, run5, run6, run7, run8, run9, run10, run11, run12, run13, run14, run15, run16, run17, run18, run19, run20, run21, run22, reduceCtorEq, Nat.reduceEqDiff, Nat.reduceAdd, Nat.reduceSub, Nat.reduceLeDiff, indexAddrA, indexRefA, appendA, strA, Nat.reduceMul, Nat.zero_mul, Nat.reduceMod, Int.reduceEq, Int.reduceLT, Int.reduceLE, Nat.reduceLT, Nat.lt_irrefl, Nat.reduceBEq, tys0, tys1, tys2, tys3, tys4, tys5, tys6, tys7, tys8, tys9, tys10, tys11, tys12, tys13, tys14, tys15, tys16, tys17, Try.ntmps13, Try.results13, e1]
  refine RunL.callp rfl rfl ok_f43 (toNotebook_ok es hl hs2) (by simp only [pureL, pureB, enL_pure, Bool.and_self, Bool.and_true, Bool.true_and]) rfl ?_
  simp only [run0, run1, run2, run3, run4, run5, run6, run7, run8, run9, run10, run11, run12, run13, run14, run15, run16, run17, run18, run19, run20, run21, run22, reduceCtorEq, Nat.reduceEqDiff, Nat.reduceAdd, Nat.reduceSub, Nat.reduceLeDiff, indexAddrA, indexRefA, appendA, strA, Nat.reduceMul, Nat.zero_mul, Nat.reduceMod, Int.reduceEq, Int.reduceLT, Int.reduceLE, Nat.reduceLT, Nat.lt_irrefl, Nat.reduceBEq, tys0, tys1, tys2, tys3, tys4, tys5, tys6, tys7, tys8, tys9, tys10, tys11, tys12, tys13, tys14, tys15, tys16, tys17, Try.ntmps13, Try.results13]
  refine RunL.callp rfl rfl ok_f42 (specIs_ok es hl hall) (by simp only [pureL, pureB, enL_pure, Bool.and_self, Bool.and_true, Bool.true_and]) rfl ?_
  simp only [run0, run1, run2, run3, run4, run5, run6, run7, run8, run9, run10, run11, run12, run13, run14, run15, run16, run17, run18, run19, run20, run21, run22, reduceCtorEq, Nat.reduceEqDiff, Nat.reduceAdd, Nat.reduceSub, Nat.reduceLeDiff, indexAddrA, indexRefA, appendA, strA, Nat.reduceMul, Nat.zero_mul, Nat.reduceMod, Int.reduceEq, Int.reduceLT, Int.reduceLE, Nat.reduceLT, Nat.lt_irrefl, Nat.reduceBEq, tys0, tys1, tys2, tys3, tys4, tys5, tys6, tys7, tys8, tys9, tys10, tys11, tys12, tys13, tys14, tys15, tys16, tys17, Try.ntmps13, Try.results13]
  refine RunL.callp rfl rfl ok_f43 (toNotebook_ok es hl hs2) (by simp only [pureL, pureB, enL_pure, Bool.and_self, Bool.and_true, Bool.true_and]) rfl ?_
  simp only [run0, run1, run2, run3, run4, run5, run6, run7, run8, run9, run10, run11, run12, run13, run14, run15, run16, run17, run18, run19, run20, run21, run22, reduceCtorEq, Nat.reduceEqDiff, Nat.reduceAdd, Nat.reduceSub, Nat.reduceLeDiff, indexAddrA, indexRefA, appendA, strA, Nat.reduceMul, Nat.zero_mul, Nat.reduceMod, Int.reduceEq, Int.reduceLT, Int.reduceLE, Nat.reduceLT, Nat.lt_irrefl, Nat.reduceBEq, tys0, tys1, tys2, tys3, tys4, tys5, tys6, tys7, tys8, tys9, tys10, tys11, tys12, tys13, tys14, tys15, tys16, tys17, Try.ntmps13, Try.results13]
  refine RunL.callp rfl rfl ok_f44 (implBook_ok es hl hall) (by simp only [pureL, pureB, enL_pure, Bool.and_self, Bool.and_true, Bool.true_and]) rfl ?_
  simp only [run0, run1, run2, run3, run4, run5, run6, run7, run8, run9, run10, run11, run12, run13, run14, run15, run16, run17, run18, run19, run20, run21, run22, reduceCtorEq, Nat.reduceEqDiff, Nat.reduceAdd, Nat.reduceSub, Nat.reduceLeDiff, indexAddrA, indexRefA, appendA, strA, Nat.reduceMul, Nat.zero_mul, Nat.reduceMod, Int.reduceEq, Int.reduceLT, Int.reduceLE, Nat.reduceLT, Nat.lt_irrefl, Nat.reduceBEq, tys0, tys1, tys2, tys3, tys4, tys5, tys6, tys7, tys8, tys9, tys10, tys11, tys12, tys13, tys14, tys15, tys16, tys17, Try.ntmps13, Try.results13, bne_self_eq_false]
  refine ⟨by kernel_rfl, ?_⟩
  refine RunL.callp rfl rfl ok_f43 (toNotebook_ok es hl hs2) (by simp only [pureL, pureB, enL_pure, Bool.and_self, Bool.and_true, Bool.true_and]) rfl ?_
  simp only [run0, run1, run2, run3, run4, run5, run6, run7, run8, run9, run10, run11, run12, run13, run14, run15, run16, run17, run18, run19, run20, run21, run22, reduceCtorEq, Nat.reduceEqDiff, Nat.reduceAdd, Nat.reduceSub, Nat.reduceLeDiff, indexAddrA, indexRefA, appendA, strA, Nat.reduceMul, Nat.zero_mul, Nat.reduceMod, Int.reduceEq, Int.reduceLT, Int.reduceLE, Nat.reduceLT, Nat.lt_irrefl, Nat.reduceBEq, tys0, tys1, tys2, tys3, tys4, tys5, tys6, tys7, tys8, tys9, tys10, tys11, tys12, tys13, tys14, tys15, tys16, tys17, Try.ntmps13, Try.results13]
  refine RunL.callp rfl rfl ok_f45 (eqNotebook_ok es hl hs2) (by simp only [pureL, pureB, enL_pure, Bool.and_self, Bool.and_true, Bool.true_and]) rfl ?_
  simp only [run0, run1, run2, run3, run4, run5, run6, run7, run8, run9, run10, run11, run12, run13, run14, run15, run16, run17, run18, run19, run20, run21, run22, reduceCtorEq, Nat.reduceEqDiff, Nat.reduceAdd, Nat.reduceSub, Nat.reduceLeDiff, indexAddrA, indexRefA, appendA, strA, Nat.reduceMul, Nat.zero_mul, Nat.reduceMod, Int.reduceEq, Int.reduceLT, Int.reduceLE, Nat.reduceLT, Nat.lt_irrefl, Nat.reduceBEq, tys0, tys1, tys2, tys3, tys4, tys5, tys6, tys7, tys8, tys9, tys10, tys11, tys12, tys13, tys14, tys15, tys16, tys17, Try.ntmps13, Try.results13]
  exact Fin.eq rfl rfl

end Go.Proofs.Ytfblibmibaiagaa
