/-
  Texts joined in one: G1, G2, G3, G4, G5, O1, G6, G7, G8, G9, G10, O2, G11, H1, H2, H3, H4, H5, H6, H7, H8, H9, O3, O4, O5.
-/
import Derived.Test.YtphmkhaboghagaaMHydraOB
/-
  Ordinals: the sizes that the laws count.
-/
namespace Go.Proofs.Ytphmkhaboghagaa
open Go K Od
set_option linter.unusedSimpArgs false
set_option linter.unusedVariables false
set_option maxHeartbeats 400000

theorem w64_id {x : Int} (h1 : -9223372036854775808 ≤ x) (h2 : x ≤ 9223372036854775807) : IntKind.i64.wrap x = x := by
  show (let m := x % (2 ^ 64 : Int); if true && m ≥ (2 ^ 63 : Int) then m - (2 ^ 64 : Int) else m) = x
  simp only [Bool.true_and, decide_eq_true_eq]
  omega

/-- All lists are as long as a list may be. -/
def fit : Od → Prop
  | .nil => True
  | .cons e c r => r.len + 1 ≤ maxLen ∧ fit e ∧ fit r
theorem fit_len : ∀ {a : Od}, fit a → a.len ≤ maxLen
  | .nil, _ => by simp [len]
  | .cons e c r, h => h.1
theorem fit_app : ∀ {d r : Od}, fit (d.app r) → fit r
  | .nil, r, h => h
  | .cons e c d, r, h => fit_app (d := d) h.2.2
theorem maxLen_eq : maxLen = 9223372036854775807 := by decide

theorem szOrdinal_of {a : Od} {l r : Int} (hr : r < 0 → r = -1) (h : Ct Try.prog 57 [.sl false (elems a), .int .i64 l] [] (.int .i64 r) []) :
    Ct Try.prog 17 [.agg [.sl false (elems a)], .int .i64 l] [] (.int .i64 r) [] := by
  refine Ct.by_ hmix [] Try.func17 rfl ?_
  simp only [run0, run1, run2, run3, run4, run5, run6, run7, run8, run9, run10, run11, run12, run13, run14, run15, run16, run17, run18, run19, run20, run21, run22, reduceCtorEq, Nat.reduceEqDiff, Nat.reduceAdd, Nat.reduceSub, Nat.reduceLeDiff, indexAddrA, indexRefA, appendA, strA, Nat.reduceMul, Nat.zero_mul, Nat.reduceMod, Int.reduceEq, Int.reduceLT, Int.reduceLE, Nat.reduceLT, Nat.lt_irrefl, Nat.reduceBEq, tys0, tys1, tys2, tys3, tys4, tys5, tys6, tys7, tys8, tys9, tys10, tys11, tys12, tys13, tys14, tys15, tys16, tys17, tys18, Try.ntmps17, Try.results17]
  refine RunL.callp rfl rfl ok_f57 (h) (by first | rfl | simp only [pureL, pureB, Bool.and_self, Bool.and_true, Bool.true_and, Od.elems_pure, Od.pay_pure, Od.av_pure]) rfl ?_
  simp only [run0, run1, run2, run3, run4, run5, run6, run7, run8, run9, run10, run11, run12, run13, run14, run15, run16, run17, run18, run19, run20, run21, run22, reduceCtorEq, Nat.reduceEqDiff, Nat.reduceAdd, Nat.reduceSub, Nat.reduceLeDiff, indexAddrA, indexRefA, appendA, strA, Nat.reduceMul, Nat.zero_mul, Nat.reduceMod, Int.reduceEq, Int.reduceLT, Int.reduceLE, Nat.reduceLT, Nat.lt_irrefl, Nat.reduceBEq, tys0, tys1, tys2, tys3, tys4, tys5, tys6, tys7, tys8, tys9, tys10, tys11, tys12, tys13, tys14, tys15, tys16, tys17, tys18, Try.ntmps17, Try.results17]
  refine Wc.split (fun h1 => ?_) (fun h1 => ?_) <;> simp only [run0, run1, run2, run3, run4, run5, run6, run7, run8, run9, run10, run11, run12, run13, run14, run15, run16, run17, run18, run19, run20, run21, run22, reduceCtorEq, Nat.reduceEqDiff, Nat.reduceAdd, Nat.reduceSub, Nat.reduceLeDiff, indexAddrA, indexRefA, appendA, strA, Nat.reduceMul, Nat.zero_mul, Nat.reduceMod, Int.reduceEq, Int.reduceLT, Int.reduceLE, Nat.reduceLT, Nat.lt_irrefl, Nat.reduceBEq, tys0, tys1, tys2, tys3, tys4, tys5, tys6, tys7, tys8, tys9, tys10, tys11, tys12, tys13, tys14, tys15, tys16, tys17, tys18, Try.ntmps17, Try.results17, h1] <;> exact Fin.eq (by simp at h1; first | rfl | (rw [hr h1])) rfl
theorem szOrdinalTerm_of {a : Od} {c l r : Int} (hr : r < 0 → r = -1) (h : Ct Try.prog 57 [.sl false (elems a), .int .i64 l] [] (.int .i64 r) []) :
    Ct Try.prog 94 [.agg (.sl false (elems a) :: pay c), .int .i64 l] [] (.int .i64 r) [] := by
  refine Ct.by_ hmix [] Try.func94 rfl ?_
  simp only [run0, run1, run2, run3, run4, run5, run6, run7, run8, run9, run10, run11, run12, run13, run14, run15, run16, run17, run18, run19, run20, run21, run22, reduceCtorEq, Nat.reduceEqDiff, Nat.reduceAdd, Nat.reduceSub, Nat.reduceLeDiff, indexAddrA, indexRefA, appendA, strA, Nat.reduceMul, Nat.zero_mul, Nat.reduceMod, Int.reduceEq, Int.reduceLT, Int.reduceLE, Nat.reduceLT, Nat.lt_irrefl, Nat.reduceBEq, tys0, tys1, tys2, tys3, tys4, tys5, tys6, tys7, tys8, tys9, tys10, tys11, tys12, tys13, tys14, tys15, tys16, tys17, tys18, Try.ntmps94, Try.results94, pay]
  refine RunL.callp rfl rfl ok_f17 (szOrdinal_of hr h) (by first | rfl | simp only [pureL, pureB, Bool.and_self, Bool.and_true, Bool.true_and, Od.elems_pure, Od.pay_pure, Od.av_pure]) rfl ?_
  simp only [run0, run1, run2, run3, run4, run5, run6, run7, run8, run9, run10, run11, run12, run13, run14, run15, run16, run17, run18, run19, run20, run21, run22, reduceCtorEq, Nat.reduceEqDiff, Nat.reduceAdd, Nat.reduceSub, Nat.reduceLeDiff, indexAddrA, indexRefA, appendA, strA, Nat.reduceMul, Nat.zero_mul, Nat.reduceMod, Int.reduceEq, Int.reduceLT, Int.reduceLE, Nat.reduceLT, Nat.lt_irrefl, Nat.reduceBEq, tys0, tys1, tys2, tys3, tys4, tys5, tys6, tys7, tys8, tys9, tys10, tys11, tys12, tys13, tys14, tys15, tys16, tys17, tys18, Try.ntmps94, Try.results94]
  refine Wc.split (fun h1 => ?_) (fun h1 => ?_) <;> simp only [run0, run1, run2, run3, run4, run5, run6, run7, run8, run9, run10, run11, run12, run13, run14, run15, run16, run17, run18, run19, run20, run21, run22, reduceCtorEq, Nat.reduceEqDiff, Nat.reduceAdd, Nat.reduceSub, Nat.reduceLeDiff, indexAddrA, indexRefA, appendA, strA, Nat.reduceMul, Nat.zero_mul, Nat.reduceMod, Int.reduceEq, Int.reduceLT, Int.reduceLE, Nat.reduceLT, Nat.lt_irrefl, Nat.reduceBEq, tys0, tys1, tys2, tys3, tys4, tys5, tys6, tys7, tys8, tys9, tys10, tys11, tys12, tys13, tys14, tys15, tys16, tys17, tys18, Try.ntmps94, Try.results94, h1] <;> exact Fin.eq (by simp at h1; first | rfl | (rw [hr h1])) rfl

def szR (n : Nat) (l : Int) : Int := if (n : Int) ≤ l then l - n else -1
theorem szR_spec (n : Nat) (l : Int) : ((n : Int) ≤ l ∧ szR n l = l - n) ∨ (l < n ∧ szR n l = -1) := by
  unfold szR
  by_cases h : (n : Int) ≤ l
  · exact .inl ⟨h, by rw [if_pos h]⟩
  · exact .inr ⟨by omega, by rw [if_neg h]⟩
theorem szR_neg {n : Nat} {l : Int} (h : szR n l < 0) : szR n l = -1 := by
  unfold szR at *; split at h <;> simp_all <;> omega

theorem szTermS_ok (a : Od) (l : Int) (hf : fit a) (h0 : 0 ≤ l) (h1 : l ≤ 1048576) : Ct Try.prog 57 [.sl false (elems a), .int .i64 l] [] (.int .i64 (szR a.sz l)) [] := by
  have hl := fit_len hf
  rw [maxLen_eq] at hl
  refine Ct.by_ hmix [] Try.func57 rfl ?_
  have hw : IntKind.i64.wrap (l - (a.len : Int)) = l - a.len := w64_id (by omega) (by omega)
  simp only [run0, run1, run2, run3, run4, run5, run6, run7, run8, run9, run10, run11, run12, run13, run14, run15, run16, run17, run18, run19, run20, run21, run22, reduceCtorEq, Nat.reduceEqDiff, Nat.reduceAdd, Nat.reduceSub, Nat.reduceLeDiff, indexAddrA, indexRefA, appendA, strA, Nat.reduceMul, Nat.zero_mul, Nat.reduceMod, Int.reduceEq, Int.reduceLT, Int.reduceLE, Nat.reduceLT, Nat.lt_irrefl, Nat.reduceBEq, tys0, tys1, tys2, tys3, tys4, tys5, tys6, tys7, tys8, tys9, tys10, tys11, tys12, tys13, tys14, tys15, tys16, tys17, tys18, Try.ntmps57, Try.results57, elems_length, hw]
  refine Wc.split (fun hneg => ?_) (fun hneg => ?_) <;> simp only [run0, run1, run2, run3, run4, run5, run6, run7, run8, run9, run10, run11, run12, run13, run14, run15, run16, run17, run18, run19, run20, run21, run22, reduceCtorEq, Nat.reduceEqDiff, Nat.reduceAdd, Nat.reduceSub, Nat.reduceLeDiff, indexAddrA, indexRefA, appendA, strA, Nat.reduceMul, Nat.zero_mul, Nat.reduceMod, Int.reduceEq, Int.reduceLT, Int.reduceLE, Nat.reduceLT, Nat.lt_irrefl, Nat.reduceBEq, tys0, tys1, tys2, tys3, tys4, tys5, tys6, tys7, tys8, tys9, tys10, tys11, tys12, tys13, tys14, tys15, tys16, tys17, tys18, Try.ntmps57, Try.results57, hneg]
  · simp at hneg
    have := len_le a
    exact Fin.eq (by simp [szR]; omega) rfl
  · simp at hneg
    refine AWp.loop_inv (ι := Od × Od × Int) (fun p => ⟨[.sl false (elems a), .int .i64 p.2.2, .junk, .junk, .int .i64 0, .int .i64 p.1.len, .junk, .junk, .junk, .junk, .junk, .junk, .junk, .junk, .junk, .junk, .junk, .junk, .junk, .junk, .junk, .junk, .junk, .junk, .junk, .junk, .junk], []⟩)
      (fun p => a = p.1.app p.2.1 ∧ 0 ≤ p.2.2 ∧ p.2.2 ≤ 1048576 ∧ szR (p.2.1.sz - p.2.1.len) p.2.2 = szR a.sz l) (fun p => p.2.1.len) (.nil, a, l - a.len)
      ⟨rfl, by simpa using hneg, by simp; omega, by simp [szR]; have := len_le a; split <;> split <;> omega⟩ ⟨by repeat constructor, rfl⟩ ?_
    rintro ⟨d, r, l'⟩ ⟨ha, h2, h3, h4⟩
    refine W.sound hmix (E := []) ?_
    simp only at ha h2 h3 h4
    have hda : d.len + r.len = a.len := by rw [ha, len_app]
    cases r with
    | nil =>
      have e1 : ¬ ((d.len : Int) < (a.len : Int)) := by simp [len] at hda; omega
      simp only [run0, run1, run2, run3, run4, run5, run6, run7, run8, run9, run10, run11, run12, run13, run14, run15, run16, run17, run18, run19, run20, run21, run22, reduceCtorEq, Nat.reduceEqDiff, Nat.reduceAdd, Nat.reduceSub, Nat.reduceLeDiff, indexAddrA, indexRefA, appendA, strA, Nat.reduceMul, Nat.zero_mul, Nat.reduceMod, Int.reduceEq, Int.reduceLT, Int.reduceLE, Nat.reduceLT, Nat.lt_irrefl, Nat.reduceBEq, tys0, tys1, tys2, tys3, tys4, tys5, tys6, tys7, tys8, tys9, tys10, tys11, tys12, tys13, tys14, tys15, tys16, tys17, tys18, Try.ntmps57, Try.results57, elems_length, e1]
      refine Fin.eq ?_ rfl
      rw [← h4]
      simp [szR, sz, len]; omega
    | cons e c r =>
      simp only [len] at hda
      have e1 : (d.len : Int) < (a.len : Int) := by omega
      have e2 : (elems a)[d.len]? = some (.agg (.sl false (elems e) :: pay c)) := by rw [ha]; exact elems_get d e c r
      have hfe : fit e := by rw [ha] at hf; exact (fit_app hf).2.1
      have hlt : e.sz < a.sz := by rw [ha, sz_app]; simp only [sz]; omega
      have hlr := len_le r
      have e5 : IntKind.i64.wrap ((d.len : Int) + 1) = ((d.app (cons e c nil)).len : Int) := by
        rw [w64_id (by omega) (by omega), len_app]; simp [len]
      have f1 : szR e.sz l' < 0 → szR a.sz l = -1 := by
        intro h6
        rw [← h4]
        have s1 := szR_spec e.sz l'
        have s2 := szR_spec ((e.cons c r).sz - (e.cons c r).len) l'
        simp only [sz, len] at s2 ⊢
        omega
      have f2 : 0 ≤ szR e.sz l' → szR e.sz l' ≤ 1048576 ∧ szR (r.sz - r.len) (szR e.sz l') = szR a.sz l := by
        intro h6
        rw [← h4]
        have s1 := szR_spec e.sz l'
        have s2 := szR_spec ((e.cons c r).sz - (e.cons c r).len) l'
        have s3 := szR_spec (r.sz - r.len) (szR e.sz l')
        simp only [sz, len] at s2 ⊢
        omega
      simp only [run0, run1, run2, run3, run4, run5, run6, run7, run8, run9, run10, run11, run12, run13, run14, run15, run16, run17, run18, run19, run20, run21, run22, reduceCtorEq, Nat.reduceEqDiff, Nat.reduceAdd, Nat.reduceSub, Nat.reduceLeDiff, indexAddrA, indexRefA, appendA, strA, Nat.reduceMul, Nat.zero_mul, Nat.reduceMod, Int.reduceEq, Int.reduceLT, Int.reduceLE, Nat.reduceLT, Nat.lt_irrefl, Nat.reduceBEq, tys0, tys1, tys2, tys3, tys4, tys5, tys6, tys7, tys8, tys9, tys10, tys11, tys12, tys13, tys14, tys15, tys16, tys17, tys18, Try.ntmps57, Try.results57, elems_length, e1, e2, Int.toNat_natCast, Int.natCast_nonneg, pay]
      refine RunL.callp rfl rfl ok_f94 (szOrdinalTerm_of (c := c) szR_neg (szTermS_ok e l' hfe h2 h3)) (by first | rfl | simp only [pureL, pureB, Bool.and_self, Bool.and_true, Bool.true_and, Od.elems_pure, Od.pay_pure, Od.av_pure]) rfl ?_
      simp only [run0, run1, run2, run3, run4, run5, run6, run7, run8, run9, run10, run11, run12, run13, run14, run15, run16, run17, run18, run19, run20, run21, run22, reduceCtorEq, Nat.reduceEqDiff, Nat.reduceAdd, Nat.reduceSub, Nat.reduceLeDiff, indexAddrA, indexRefA, appendA, strA, Nat.reduceMul, Nat.zero_mul, Nat.reduceMod, Int.reduceEq, Int.reduceLT, Int.reduceLE, Nat.reduceLT, Nat.lt_irrefl, Nat.reduceBEq, tys0, tys1, tys2, tys3, tys4, tys5, tys6, tys7, tys8, tys9, tys10, tys11, tys12, tys13, tys14, tys15, tys16, tys17, tys18, Try.ntmps57, Try.results57]
      refine Wc.split (fun h6 => ?_) (fun h6 => ?_) <;> simp only [run0, run1, run2, run3, run4, run5, run6, run7, run8, run9, run10, run11, run12, run13, run14, run15, run16, run17, run18, run19, run20, run21, run22, reduceCtorEq, Nat.reduceEqDiff, Nat.reduceAdd, Nat.reduceSub, Nat.reduceLeDiff, indexAddrA, indexRefA, appendA, strA, Nat.reduceMul, Nat.zero_mul, Nat.reduceMod, Int.reduceEq, Int.reduceLT, Int.reduceLE, Nat.reduceLT, Nat.lt_irrefl, Nat.reduceBEq, tys0, tys1, tys2, tys3, tys4, tys5, tys6, tys7, tys8, tys9, tys10, tys11, tys12, tys13, tys14, tys15, tys16, tys17, tys18, Try.ntmps57, Try.results57, h6, e5] <;> simp at h6
      · exact Fin.eq (by rw [f1 h6]) rfl
      · exact ⟨(d.app (cons e c nil), r, szR e.sz l'), ⟨by rw [app_assoc]; exact ha, h6, (f2 h6).1, (f2 h6).2⟩, by simp [len], by repeat constructor⟩
termination_by a.sz

end Go.Proofs.Ytphmkhaboghagaa
/-
  Ordinals: the laws' copies.
-/
namespace Go.Proofs.Ytphmkhaboghagaa
open Go K Od
set_option linter.unusedSimpArgs false
set_option linter.unusedVariables false
set_option maxHeartbeats 400000

/-- Rows of a call's own, that are the tree 'a'. -/
def Own (M : List AObj) (a : Od) (x : AV) : Prop := ∃ S, OwnR M 88 2 a x S ∧ S.Nodup ∧ M.all okSO = true

theorem nodup_add {S : List Nat} (k : Nat) (h : S.Nodup) : (S.map (· + k)).Nodup := by
  unfold List.Nodup at *
  rw [List.pairwise_map]
  exact h.imp fun h1 h2 => h1 (by omega)

theorem toOrdinal_of {a : Od} (h : ∃ x M, Ct Try.prog 62 [.sl false (elems a)] [] x M ∧ Own M a x) :
    ∃ x M, Ct Try.prog 19 [.agg [.sl false (elems a)]] [] (.agg [x]) M ∧ Own M a x := by
  obtain ⟨x, M, hc, S, ho, hn, hM⟩ := h
  rcases ho.shape with rfl | ⟨id, g, n, rfl⟩
  · refine ⟨nilV, ?_⟩
    apply ex1
    · apply Ct.by_ hmix [] Try.func19 rfl
      simp only [run0, run1, run2, run3, run4, run5, run6, run7, run8, run9, run10, run11, run12, run13, run14, run15, run16, run17, run18, run19, run20, run21, run22, reduceCtorEq, Nat.reduceEqDiff, Nat.reduceAdd, Nat.reduceSub, Nat.reduceLeDiff, indexAddrA, indexRefA, appendA, strA, Nat.reduceMul, Nat.zero_mul, Nat.reduceMod, Int.reduceEq, Int.reduceLT, Int.reduceLE, Nat.reduceLT, Nat.lt_irrefl, Nat.reduceBEq, tys0, tys1, tys2, tys3, tys4, tys5, tys6, tys7, tys8, tys9, tys10, tys11, tys12, tys13, tys14, tys15, tys16, tys17, tys18, Try.ntmps19, Try.results19]
      refine RunL.callgp rfl rfl ok_f62 rfl hc (by simp only [pureL, pureB, elems_pure, Bool.and_self]) rfl ?_
      simp only [run0, run1, run2, run3, run4, run5, run6, run7, run8, run9, run10, run11, run12, run13, run14, run15, run16, run17, run18, run19, run20, run21, run22, reduceCtorEq, Nat.reduceEqDiff, Nat.reduceAdd, Nat.reduceSub, Nat.reduceLeDiff, indexAddrA, indexRefA, appendA, strA, Nat.reduceMul, Nat.zero_mul, Nat.reduceMod, Int.reduceEq, Int.reduceLT, Int.reduceLE, Nat.reduceLT, Nat.lt_irrefl, Nat.reduceBEq, tys0, tys1, tys2, tys3, tys4, tys5, tys6, tys7, tys8, tys9, tys10, tys11, tys12, tys13, tys14, tys15, tys16, tys17, tys18, Try.ntmps19, Try.results19, nilV, shA, shL]
      exact Fin.keep (S.map (· + 3)) rfl rfl
    · exact ⟨S.map (· + 3), (OwnR.sh (k := 3) (fun id => by simp) ho).keep fun _ h => h, nodup_add 3 hn, keepS_okSO _ _⟩
  · refine ⟨.ref (id + 3) [] g n, ?_⟩
    apply ex1
    · apply Ct.by_ hmix [] Try.func19 rfl
      simp only [run0, run1, run2, run3, run4, run5, run6, run7, run8, run9, run10, run11, run12, run13, run14, run15, run16, run17, run18, run19, run20, run21, run22, reduceCtorEq, Nat.reduceEqDiff, Nat.reduceAdd, Nat.reduceSub, Nat.reduceLeDiff, indexAddrA, indexRefA, appendA, strA, Nat.reduceMul, Nat.zero_mul, Nat.reduceMod, Int.reduceEq, Int.reduceLT, Int.reduceLE, Nat.reduceLT, Nat.lt_irrefl, Nat.reduceBEq, tys0, tys1, tys2, tys3, tys4, tys5, tys6, tys7, tys8, tys9, tys10, tys11, tys12, tys13, tys14, tys15, tys16, tys17, tys18, Try.ntmps19, Try.results19]
      refine RunL.callgp rfl rfl ok_f62 rfl hc (by simp only [pureL, pureB, elems_pure, Bool.and_self]) rfl ?_
      simp only [run0, run1, run2, run3, run4, run5, run6, run7, run8, run9, run10, run11, run12, run13, run14, run15, run16, run17, run18, run19, run20, run21, run22, reduceCtorEq, Nat.reduceEqDiff, Nat.reduceAdd, Nat.reduceSub, Nat.reduceLeDiff, indexAddrA, indexRefA, appendA, strA, Nat.reduceMul, Nat.zero_mul, Nat.reduceMod, Int.reduceEq, Int.reduceLT, Int.reduceLE, Nat.reduceLT, Nat.lt_irrefl, Nat.reduceBEq, tys0, tys1, tys2, tys3, tys4, tys5, tys6, tys7, tys8, tys9, tys10, tys11, tys12, tys13, tys14, tys15, tys16, tys17, tys18, Try.ntmps19, Try.results19, shA, shL]
      exact Fin.keep (S.map (· + 3)) rfl rfl
    · exact ⟨S.map (· + 3), (OwnR.sh (k := 3) (fun id => by simp) ho).keep fun _ h => h, nodup_add 3 hn, keepS_okSO _ _⟩

theorem toOrdinalTerm_of {a : Od} {c : Int} (h : ∃ x M, Ct Try.prog 62 [.sl false (elems a)] [] x M ∧ Own M a x) :
    ∃ x M, Ct Try.prog 98 [.agg (.sl false (elems a) :: pay c)] [] (.agg (x :: pay c)) M ∧ Own M a x := by
  obtain ⟨x, M, hc, S, ho, hn, hM⟩ := toOrdinal_of h
  rcases ho.shape with rfl | ⟨id, g, n, rfl⟩
  · refine ⟨nilV, ?_⟩
    apply ex1
    · apply Ct.by_ hmix [] Try.func98 rfl
      simp only [run0, run1, run2, run3, run4, run5, run6, run7, run8, run9, run10, run11, run12, run13, run14, run15, run16, run17, run18, run19, run20, run21, run22, reduceCtorEq, Nat.reduceEqDiff, Nat.reduceAdd, Nat.reduceSub, Nat.reduceLeDiff, indexAddrA, indexRefA, appendA, strA, Nat.reduceMul, Nat.zero_mul, Nat.reduceMod, Int.reduceEq, Int.reduceLT, Int.reduceLE, Nat.reduceLT, Nat.lt_irrefl, Nat.reduceBEq, tys0, tys1, tys2, tys3, tys4, tys5, tys6, tys7, tys8, tys9, tys10, tys11, tys12, tys13, tys14, tys15, tys16, tys17, tys18, Try.ntmps98, Try.results98, pay]
      refine RunL.callgp rfl rfl ok_f19 rfl hc (by simp only [pureL, pureB, elems_pure, Bool.and_self]) rfl ?_
      simp only [run0, run1, run2, run3, run4, run5, run6, run7, run8, run9, run10, run11, run12, run13, run14, run15, run16, run17, run18, run19, run20, run21, run22, reduceCtorEq, Nat.reduceEqDiff, Nat.reduceAdd, Nat.reduceSub, Nat.reduceLeDiff, indexAddrA, indexRefA, appendA, strA, Nat.reduceMul, Nat.zero_mul, Nat.reduceMod, Int.reduceEq, Int.reduceLT, Int.reduceLE, Nat.reduceLT, Nat.lt_irrefl, Nat.reduceBEq, tys0, tys1, tys2, tys3, tys4, tys5, tys6, tys7, tys8, tys9, tys10, tys11, tys12, tys13, tys14, tys15, tys16, tys17, tys18, Try.ntmps98, Try.results98, nilV, shA, shL]
      exact Fin.keep (S.map (· + 3)) rfl rfl
    · exact ⟨S.map (· + 3), (OwnR.sh (k := 3) (fun id => by simp) ho).keep fun _ h => h, nodup_add 3 hn, keepS_okSO _ _⟩
  · refine ⟨.ref (id + 3) [] g n, ?_⟩
    apply ex1
    · apply Ct.by_ hmix [] Try.func98 rfl
      simp only [run0, run1, run2, run3, run4, run5, run6, run7, run8, run9, run10, run11, run12, run13, run14, run15, run16, run17, run18, run19, run20, run21, run22, reduceCtorEq, Nat.reduceEqDiff, Nat.reduceAdd, Nat.reduceSub, Nat.reduceLeDiff, indexAddrA, indexRefA, appendA, strA, Nat.reduceMul, Nat.zero_mul, Nat.reduceMod, Int.reduceEq, Int.reduceLT, Int.reduceLE, Nat.reduceLT, Nat.lt_irrefl, Nat.reduceBEq, tys0, tys1, tys2, tys3, tys4, tys5, tys6, tys7, tys8, tys9, tys10, tys11, tys12, tys13, tys14, tys15, tys16, tys17, tys18, Try.ntmps98, Try.results98, pay]
      refine RunL.callgp rfl rfl ok_f19 rfl hc (by simp only [pureL, pureB, elems_pure, Bool.and_self]) rfl ?_
      simp only [run0, run1, run2, run3, run4, run5, run6, run7, run8, run9, run10, run11, run12, run13, run14, run15, run16, run17, run18, run19, run20, run21, run22, reduceCtorEq, Nat.reduceEqDiff, Nat.reduceAdd, Nat.reduceSub, Nat.reduceLeDiff, indexAddrA, indexRefA, appendA, strA, Nat.reduceMul, Nat.zero_mul, Nat.reduceMod, Int.reduceEq, Int.reduceLT, Int.reduceLE, Nat.reduceLT, Nat.lt_irrefl, Nat.reduceBEq, tys0, tys1, tys2, tys3, tys4, tys5, tys6, tys7, tys8, tys9, tys10, tys11, tys12, tys13, tys14, tys15, tys16, tys17, tys18, Try.ntmps98, Try.results98, shA, shL]
      exact Fin.keep (S.map (· + 3)) rfl rfl
    · exact ⟨S.map (· + 3), (OwnR.sh (k := 3) (fun id => by simp) ho).keep fun _ h => h, nodup_add 3 hn, keepS_okSO _ _⟩

end Go.Proofs.Ytphmkhaboghagaa
/-
  Ordinals: the laws' copies of lists of terms.
-/
namespace Go.Proofs.Ytphmkhaboghagaa
open Go K Od
set_option linter.unusedSimpArgs false
set_option linter.unusedVariables false
set_option maxHeartbeats 400000

structure ToS where
  d : Od
  r : Od
  es : List AV
  X : List AObj
  S : List Nat

def zE : AV := .agg [nilV, .int .i64 0]
theorem zE_c : zE.cells = [.lit (.slice none 0 0), .int .i64 0] := rfl
theorem zE_a : aggB zE = true := rfl
theorem zE_s (off n : Nat) (x : AV) : setE zE off n x = .agg ([.lit (.slice none 0 0), .int .i64 0].take off ++ x.cells ++ [.lit (.slice none 0 0), .int .i64 0].drop (off + n)) := rfl
theorem zE_noOwn (es : List AV) (n : Nat) (h : noOwn es = true) : noOwn (es ++ List.replicate n zE) = true := by
  refine List.all_eq_true.2 fun e he => ?_
  rcases List.mem_append.1 he with he | he
  · exact List.all_eq_true.1 h e he
  · rw [(List.mem_replicate.1 he).2]; rfl
theorem set_next (es : List AV) (n k : Nat) (z y : AV) (h : es.length = k) : (es ++ List.replicate (n + 1) z).set k y = (es ++ [y]) ++ List.replicate n z := by
  subst h
  simp [List.set_append, List.replicate_succ]
theorem get_next (es : List AV) (n k : Nat) (z : AV) (h : es.length = k) : (es ++ List.replicate (n + 1) z)[k]? = some z := by
  subst h
  simp [List.replicate_succ]

theorem toS_ok (a : Od) (hs : a.sz ≤ 1048576) : ∃ x M, Ct Try.prog 62 [.sl false (elems a)] [] x M ∧ Own M a x := by
  have hl := len_le a
  refine Ct.ex hmix [] Try.func62 rfl ?_
  have b0 : (a.len : Int) ≤ 137438953472 := by omega
  simp only [run0, run1, run2, run3, run4, run5, run6, run7, run8, run9, run10, run11, run12, run13, run14, run15, run16, run17, run18, run19, run20, run21, run22, reduceCtorEq, Nat.reduceEqDiff, Nat.reduceAdd, Nat.reduceSub, Nat.reduceLeDiff, indexAddrA, indexRefA, appendA, strA, Nat.reduceMul, Nat.zero_mul, Nat.reduceMod, Int.reduceEq, Int.reduceLT, Int.reduceLE, Nat.reduceLT, Nat.lt_irrefl, Nat.reduceBEq, tys0, tys1, tys2, tys3, tys4, tys5, tys6, tys7, tys8, tys9, tys10, tys11, tys12, tys13, tys14, tys15, tys16, tys17, tys18, Try.ntmps62, Try.results62, elems_length, b0, Int.natCast_nonneg, Int.le_refl, Int.toNat_natCast]
  refine AWp.loop_exK (ι := ToS) (fun p => ⟨[.sl false (elems a), .junk, .junk, .ref 0 [] 0 a.len, .int .i64 p.d.len, .junk, .junk, .junk, .junk, .junk, .junk, .junk, .junk, .junk, .junk, .junk, .junk, .junk, .junk, .junk, .junk, .junk, .junk], .vec 88 2 0 (p.es ++ List.replicate p.r.len zE) :: p.X⟩)
    (fun p => a = p.d.app p.r ∧ OwnE (.vec 88 2 0 (p.es ++ List.replicate p.r.len zE) :: p.X) 88 2 p.d p.es p.S ∧ p.S.Nodup ∧ 0 ∉ p.S) (fun p => p.r.len) ⟨.nil, a, [], [], []⟩ ⟨rfl, ⟨rfl, rfl⟩, by simp, by simp⟩ ⟨by repeat constructor, rfl⟩ ?_
  rintro ⟨d, r, es, X, S⟩ ⟨ha, ho, hn, h0⟩
  simp only at ha ho hn h0
  have hda : d.len + r.len = a.len := by rw [ha, len_app]
  have hel := ho.length
  cases r with
  | nil =>
    left
    have e1 : ¬ ((d.len : Int) < (a.len : Int)) := by simp [len] at hda; omega
    have e2 : a.len = (es ++ List.replicate (len .nil) zE).length := by simp [len] at hda ⊢; omega
    refine ⟨.ref 0 [] 0 a.len, ?_⟩
    apply ex1
    · refine W.sound hmix (E := []) ?_
      simp only [run0, run1, run2, run3, run4, run5, run6, run7, run8, run9, run10, run11, run12, run13, run14, run15, run16, run17, run18, run19, run20, run21, run22, reduceCtorEq, Nat.reduceEqDiff, Nat.reduceAdd, Nat.reduceSub, Nat.reduceLeDiff, indexAddrA, indexRefA, appendA, strA, Nat.reduceMul, Nat.zero_mul, Nat.reduceMod, Int.reduceEq, Int.reduceLT, Int.reduceLE, Nat.reduceLT, Nat.lt_irrefl, Nat.reduceBEq, tys0, tys1, tys2, tys3, tys4, tys5, tys6, tys7, tys8, tys9, tys10, tys11, tys12, tys13, tys14, tys15, tys16, tys17, tys18, Try.ntmps62, Try.results62, elems_length, e1]
      exact Fin.keep (0 :: S) rfl rfl
    · simp only [len, List.replicate_zero, List.append_nil] at ho ⊢
      refine ⟨0 :: S, OwnR.keep (.inr ⟨0, 0, es, S, by rw [hel]; simp [len] at hda; rw [hda], rfl, rfl, ?_⟩) fun _ h => h, List.nodup_cons.2 ⟨h0, hn⟩, keepS_okSO _ _⟩
      rw [ha, app_nil]; exact ho
  | cons e c r =>
    right
    simp only [len] at hda ho ⊢
    have e1 : (d.len : Int) < (a.len : Int) := by omega
    have e2 : (elems a)[d.len]? = some (.agg (.sl false (elems e) :: pay c)) := by rw [ha]; exact elems_get d e c r
    have hlt : e.sz < a.sz := by rw [ha, sz_app]; simp only [sz]; omega
    have e5 : IntKind.i64.wrap ((d.len : Int) + 1) = ((d.app (cons e c nil)).len : Int) := by
      rw [w64_id (by omega) (by omega), len_app]; simp [len]
    obtain ⟨x, M, hc, S1, hx, hn1, hM⟩ := toOrdinalTerm_of (c := c) (toS_ok e (by omega))
    have e6 : (es ++ zE :: List.replicate r.len zE)[d.len]? = some zE := get_next es r.len d.len zE hel
    have e7 : noOwn (es ++ zE :: List.replicate r.len zE) = true := zE_noOwn es (r.len + 1) ho.form.2.1
    have e8 : (es ++ zE :: List.replicate r.len zE).set d.len (.agg [shA (X.length + 1) x, .int .i64 c]) = _ := set_next es r.len d.len zE (.agg [shA (X.length + 1) x, .int .i64 c]) hel
    have e9 : (d.len : Int) < ((a.len : Nat) : Int) := e1
    have hx' : OwnR (.vec 88 2 0 ((es ++ [.agg (shA (X.length + 1) x :: pay c)]) ++ List.replicate r.len zE) :: (X ++ M.map (shO (X.length + 1)))) 88 2 e (shA (X.length + 1) x) (S1.map (· + (X.length + 1))) :=
      OwnR.sh (fun id => by
        rw [show id + (X.length + 1) = (id + X.length) + 1 by omega, List.getElem?_cons_succ, List.getElem?_append_right (by omega), List.getElem?_map]
        congr 2; omega) hx
    have hlt0 := ho.lt
    simp only [List.length_cons] at hlt0
    refine ⟨⟨d.app (cons e c nil), r, es ++ [.agg (shA (X.length + 1) x :: pay c)], X ++ M.map (shO (X.length + 1)), S ++ S1.map (· + (X.length + 1))⟩, ⟨by rw [app_assoc]; exact ha, ?_, ?_, ?_⟩, by simp only []; omega, ?_⟩
    · refine OwnE.app (OwnE.one hx' c) (ho.mono fun id hid g es1 hL => ?_)
      cases id with
      | zero => exact absurd hid h0
      | succ id =>
        simp only [List.getElem?_cons_succ] at hL ⊢
        rw [List.getElem?_append_left (List.getElem?_eq_some_iff.1 hL).1]; exact hL
    · refine List.nodup_append.2 ⟨hn, nodup_add _ hn1, fun u hu v hv => ?_⟩
      have := hlt0 u hu
      simp only [List.mem_map] at hv
      obtain ⟨q, _, rfl⟩ := hv
      omega
    · simp only [List.mem_append, not_or, List.mem_map]
      exact ⟨h0, fun ⟨q, _, hq⟩ => by omega⟩
    · refine W.sound hmix (E := []) ?_
      rcases hx.shape with rfl | ⟨id, g, n, rfl⟩
      · simp only [run0, run1, run2, run3, run4, run5, run6, run7, run8, run9, run10, run11, run12, run13, run14, run15, run16, run17, run18, run19, run20, run21, run22, reduceCtorEq, Nat.reduceEqDiff, Nat.reduceAdd, Nat.reduceSub, Nat.reduceLeDiff, indexAddrA, indexRefA, appendA, strA, Nat.reduceMul, Nat.zero_mul, Nat.reduceMod, Int.reduceEq, Int.reduceLT, Int.reduceLE, Nat.reduceLT, Nat.lt_irrefl, Nat.reduceBEq, tys0, tys1, tys2, tys3, tys4, tys5, tys6, tys7, tys8, tys9, tys10, tys11, tys12, tys13, tys14, tys15, tys16, tys17, tys18, Try.ntmps62, Try.results62, elems_length, e1, e2, pay, Int.toNat_natCast, Int.natCast_nonneg]
        refine RunL.callgp rfl rfl ok_f98 rfl hc (by simp only [pureL, pureB, elems_pure, pay_pure, Bool.and_self]) rfl ?_
        simp only [nilV, shA] at e8
        simp only [run0, run1, run2, run3, run4, run5, run6, run7, run8, run9, run10, run11, run12, run13, run14, run15, run16, run17, run18, run19, run20, run21, run22, reduceCtorEq, Nat.reduceEqDiff, Nat.reduceAdd, Nat.reduceSub, Nat.reduceLeDiff, indexAddrA, indexRefA, appendA, strA, Nat.reduceMul, Nat.zero_mul, Nat.reduceMod, Int.reduceEq, Int.reduceLT, Int.reduceLE, Nat.reduceLT, Nat.lt_irrefl, Nat.reduceBEq, tys0, tys1, tys2, tys3, tys4, tys5, tys6, tys7, tys8, tys9, tys10, tys11, tys12, tys13, tys14, tys15, tys16, tys17, tys18, Try.ntmps62, Try.results62, nilV, shA, shL, pay, e5, e6, e7, e8, zE_c, zE_a, zE_s, Int.toNat_natCast, Int.natCast_nonneg, e1]
        repeat constructor
      · simp only [run0, run1, run2, run3, run4, run5, run6, run7, run8, run9, run10, run11, run12, run13, run14, run15, run16, run17, run18, run19, run20, run21, run22, reduceCtorEq, Nat.reduceEqDiff, Nat.reduceAdd, Nat.reduceSub, Nat.reduceLeDiff, indexAddrA, indexRefA, appendA, strA, Nat.reduceMul, Nat.zero_mul, Nat.reduceMod, Int.reduceEq, Int.reduceLT, Int.reduceLE, Nat.reduceLT, Nat.lt_irrefl, Nat.reduceBEq, tys0, tys1, tys2, tys3, tys4, tys5, tys6, tys7, tys8, tys9, tys10, tys11, tys12, tys13, tys14, tys15, tys16, tys17, tys18, Try.ntmps62, Try.results62, elems_length, e1, e2, pay, Int.toNat_natCast, Int.natCast_nonneg]
        refine RunL.callgp rfl rfl ok_f98 rfl hc (by simp only [pureL, pureB, elems_pure, pay_pure, Bool.and_self]) rfl ?_
        simp only [shA] at e8
        simp only [run0, run1, run2, run3, run4, run5, run6, run7, run8, run9, run10, run11, run12, run13, run14, run15, run16, run17, run18, run19, run20, run21, run22, reduceCtorEq, Nat.reduceEqDiff, Nat.reduceAdd, Nat.reduceSub, Nat.reduceLeDiff, indexAddrA, indexRefA, appendA, strA, Nat.reduceMul, Nat.zero_mul, Nat.reduceMod, Int.reduceEq, Int.reduceLT, Int.reduceLE, Nat.reduceLT, Nat.lt_irrefl, Nat.reduceBEq, tys0, tys1, tys2, tys3, tys4, tys5, tys6, tys7, tys8, tys9, tys10, tys11, tys12, tys13, tys14, tys15, tys16, tys17, tys18, Try.ntmps62, Try.results62, nilV, shA, shL, pay, e5, e6, e7, e8, zE_c, zE_a, zE_s, Int.toNat_natCast, Int.natCast_nonneg, e1]
        repeat constructor
termination_by a.sz

end Go.Proofs.Ytphmkhaboghagaa
/-
  Ordinals: the laws' comparing of two.
-/
namespace Go.Proofs.Ytphmkhaboghagaa
open Go K Od
set_option linter.unusedSimpArgs false
set_option linter.unusedVariables false
set_option maxHeartbeats 400000

theorem eqOrdinal_of {a b : Od} {q : Bool} (h : Ct Try.prog 54 [.sl false (elems a), .sl false (elems b)] [] (.bool q) []) :
    Ct Try.prog 14 [.agg [.sl false (elems a)], .agg [.sl false (elems b)]] [] (.bool q) [] := by
  refine Ct.by_ hmix [] Try.func14 rfl ?_
  simp only [run0, run1, run2, run3, run4, run5, run6, run7, run8, run9, run10, run11, run12, run13, run14, run15, run16, run17, run18, run19, run20, run21, run22, reduceCtorEq, Nat.reduceEqDiff, Nat.reduceAdd, Nat.reduceSub, Nat.reduceLeDiff, indexAddrA, indexRefA, appendA, strA, Nat.reduceMul, Nat.zero_mul, Nat.reduceMod, Int.reduceEq, Int.reduceLT, Int.reduceLE, Nat.reduceLT, Nat.lt_irrefl, Nat.reduceBEq, tys0, tys1, tys2, tys3, tys4, tys5, tys6, tys7, tys8, tys9, tys10, tys11, tys12, tys13, tys14, tys15, tys16, tys17, tys18, Try.ntmps14, Try.results14]
  refine RunL.callp rfl rfl ok_f54 (h) (by first | rfl | simp only [pureL, pureB, Bool.and_self, Bool.and_true, Bool.true_and, Od.elems_pure, Od.pay_pure, Od.av_pure]) rfl ?_
  simp only [run0, run1, run2, run3, run4, run5, run6, run7, run8, run9, run10, run11, run12, run13, run14, run15, run16, run17, run18, run19, run20, run21, run22, reduceCtorEq, Nat.reduceEqDiff, Nat.reduceAdd, Nat.reduceSub, Nat.reduceLeDiff, indexAddrA, indexRefA, appendA, strA, Nat.reduceMul, Nat.zero_mul, Nat.reduceMod, Int.reduceEq, Int.reduceLT, Int.reduceLE, Nat.reduceLT, Nat.lt_irrefl, Nat.reduceBEq, tys0, tys1, tys2, tys3, tys4, tys5, tys6, tys7, tys8, tys9, tys10, tys11, tys12, tys13, tys14, tys15, tys16, tys17, tys18, Try.ntmps14, Try.results14]
  cases q
  · simp only [run0, run1, run2, run3, run4, run5, run6, run7, run8, run9, run10, run11, run12, run13, run14, run15, run16, run17, run18, run19, run20, run21, run22, reduceCtorEq, Nat.reduceEqDiff, Nat.reduceAdd, Nat.reduceSub, Nat.reduceLeDiff, indexAddrA, indexRefA, appendA, strA, Nat.reduceMul, Nat.zero_mul, Nat.reduceMod, Int.reduceEq, Int.reduceLT, Int.reduceLE, Nat.reduceLT, Nat.lt_irrefl, Nat.reduceBEq, tys0, tys1, tys2, tys3, tys4, tys5, tys6, tys7, tys8, tys9, tys10, tys11, tys12, tys13, tys14, tys15, tys16, tys17, tys18, Try.ntmps14, Try.results14]
    exact Fin.eq rfl rfl
  · simp only [run0, run1, run2, run3, run4, run5, run6, run7, run8, run9, run10, run11, run12, run13, run14, run15, run16, run17, run18, run19, run20, run21, run22, reduceCtorEq, Nat.reduceEqDiff, Nat.reduceAdd, Nat.reduceSub, Nat.reduceLeDiff, indexAddrA, indexRefA, appendA, strA, Nat.reduceMul, Nat.zero_mul, Nat.reduceMod, Int.reduceEq, Int.reduceLT, Int.reduceLE, Nat.reduceLT, Nat.lt_irrefl, Nat.reduceBEq, tys0, tys1, tys2, tys3, tys4, tys5, tys6, tys7, tys8, tys9, tys10, tys11, tys12, tys13, tys14, tys15, tys16, tys17, tys18, Try.ntmps14, Try.results14]
    exact Fin.eq rfl rfl
theorem eqOrdinalTerm_of {a b : Od} {c d : Int} {q : Bool} (h : Ct Try.prog 54 [.sl false (elems a), .sl false (elems b)] [] (.bool q) []) :
    Ct Try.prog 93 [.agg (.sl false (elems a) :: pay c), .agg (.sl false (elems b) :: pay d)] [] (.bool (q && (c == d))) [] := by
  refine Ct.by_ hmix [] Try.func93 rfl ?_
  simp only [run0, run1, run2, run3, run4, run5, run6, run7, run8, run9, run10, run11, run12, run13, run14, run15, run16, run17, run18, run19, run20, run21, run22, reduceCtorEq, Nat.reduceEqDiff, Nat.reduceAdd, Nat.reduceSub, Nat.reduceLeDiff, indexAddrA, indexRefA, appendA, strA, Nat.reduceMul, Nat.zero_mul, Nat.reduceMod, Int.reduceEq, Int.reduceLT, Int.reduceLE, Nat.reduceLT, Nat.lt_irrefl, Nat.reduceBEq, tys0, tys1, tys2, tys3, tys4, tys5, tys6, tys7, tys8, tys9, tys10, tys11, tys12, tys13, tys14, tys15, tys16, tys17, tys18, Try.ntmps93, Try.results93, pay]
  refine RunL.callp rfl rfl ok_f14 (eqOrdinal_of h) (by first | rfl | simp only [pureL, pureB, Bool.and_self, Bool.and_true, Bool.true_and, Od.elems_pure, Od.pay_pure, Od.av_pure]) rfl ?_
  simp only [run0, run1, run2, run3, run4, run5, run6, run7, run8, run9, run10, run11, run12, run13, run14, run15, run16, run17, run18, run19, run20, run21, run22, reduceCtorEq, Nat.reduceEqDiff, Nat.reduceAdd, Nat.reduceSub, Nat.reduceLeDiff, indexAddrA, indexRefA, appendA, strA, Nat.reduceMul, Nat.zero_mul, Nat.reduceMod, Int.reduceEq, Int.reduceLT, Int.reduceLE, Nat.reduceLT, Nat.lt_irrefl, Nat.reduceBEq, tys0, tys1, tys2, tys3, tys4, tys5, tys6, tys7, tys8, tys9, tys10, tys11, tys12, tys13, tys14, tys15, tys16, tys17, tys18, Try.ntmps93, Try.results93]
  cases q
  · simp only [run0, run1, run2, run3, run4, run5, run6, run7, run8, run9, run10, run11, run12, run13, run14, run15, run16, run17, run18, run19, run20, run21, run22, reduceCtorEq, Nat.reduceEqDiff, Nat.reduceAdd, Nat.reduceSub, Nat.reduceLeDiff, indexAddrA, indexRefA, appendA, strA, Nat.reduceMul, Nat.zero_mul, Nat.reduceMod, Int.reduceEq, Int.reduceLT, Int.reduceLE, Nat.reduceLT, Nat.lt_irrefl, Nat.reduceBEq, tys0, tys1, tys2, tys3, tys4, tys5, tys6, tys7, tys8, tys9, tys10, tys11, tys12, tys13, tys14, tys15, tys16, tys17, tys18, Try.ntmps93, Try.results93]
    exact Fin.eq rfl rfl
  · simp only [run0, run1, run2, run3, run4, run5, run6, run7, run8, run9, run10, run11, run12, run13, run14, run15, run16, run17, run18, run19, run20, run21, run22, reduceCtorEq, Nat.reduceEqDiff, Nat.reduceAdd, Nat.reduceSub, Nat.reduceLeDiff, indexAddrA, indexRefA, appendA, strA, Nat.reduceMul, Nat.zero_mul, Nat.reduceMod, Int.reduceEq, Int.reduceLT, Int.reduceLE, Nat.reduceLT, Nat.lt_irrefl, Nat.reduceBEq, tys0, tys1, tys2, tys3, tys4, tys5, tys6, tys7, tys8, tys9, tys10, tys11, tys12, tys13, tys14, tys15, tys16, tys17, tys18, Try.ntmps93, Try.results93]
    by_cases hc : c = d
    · subst hc
      simp only [run0, run1, run2, run3, run4, run5, run6, run7, run8, run9, run10, run11, run12, run13, run14, run15, run16, run17, run18, run19, run20, run21, run22, reduceCtorEq, Nat.reduceEqDiff, Nat.reduceAdd, Nat.reduceSub, Nat.reduceLeDiff, indexAddrA, indexRefA, appendA, strA, Nat.reduceMul, Nat.zero_mul, Nat.reduceMod, Int.reduceEq, Int.reduceLT, Int.reduceLE, Nat.reduceLT, Nat.lt_irrefl, Nat.reduceBEq, tys0, tys1, tys2, tys3, tys4, tys5, tys6, tys7, tys8, tys9, tys10, tys11, tys12, tys13, tys14, tys15, tys16, tys17, tys18, Try.ntmps93, Try.results93, bne_self_eq_false]
      exact Fin.eq (by simp) rfl
    · have e1 : (c != d) = true := by simp [hc]
      simp only [run0, run1, run2, run3, run4, run5, run6, run7, run8, run9, run10, run11, run12, run13, run14, run15, run16, run17, run18, run19, run20, run21, run22, reduceCtorEq, Nat.reduceEqDiff, Nat.reduceAdd, Nat.reduceSub, Nat.reduceLeDiff, indexAddrA, indexRefA, appendA, strA, Nat.reduceMul, Nat.zero_mul, Nat.reduceMod, Int.reduceEq, Int.reduceLT, Int.reduceLE, Nat.reduceLT, Nat.lt_irrefl, Nat.reduceBEq, tys0, tys1, tys2, tys3, tys4, tys5, tys6, tys7, tys8, tys9, tys10, tys11, tys12, tys13, tys14, tys15, tys16, tys17, tys18, Try.ntmps93, Try.results93, e1]
      exact Fin.eq (by simp [hc]) rfl

theorem eqTermS_ok (a b : Od) (ha : a.sz ≤ 1048576) : Ct Try.prog 54 [.sl false (elems a), .sl false (elems b)] [] (.bool (eqT a b)) [] := by
  have hal := len_le a
  refine Ct.by_ hmix [] Try.func54 rfl ?_
  by_cases hl : a.len = b.len
  case neg =>
    have e0 : ((a.len : Int) != (b.len : Int)) = true := by simp; omega
    have e1 : eqT a b = false := by
      cases h : eqT a b
      · rfl
      · exact absurd (eqT_len h) hl
    simp only [run0, run1, run2, run3, run4, run5, run6, run7, run8, run9, run10, run11, run12, run13, run14, run15, run16, run17, run18, run19, run20, run21, run22, reduceCtorEq, Nat.reduceEqDiff, Nat.reduceAdd, Nat.reduceSub, Nat.reduceLeDiff, indexAddrA, indexRefA, appendA, strA, Nat.reduceMul, Nat.zero_mul, Nat.reduceMod, Int.reduceEq, Int.reduceLT, Int.reduceLE, Nat.reduceLT, Nat.lt_irrefl, Nat.reduceBEq, tys0, tys1, tys2, tys3, tys4, tys5, tys6, tys7, tys8, tys9, tys10, tys11, tys12, tys13, tys14, tys15, tys16, tys17, tys18, Try.ntmps54, Try.results54, elems_length, e0]
    exact Fin.eq (by rw [e1]) rfl
  have e0 : ((a.len : Int) != (b.len : Int)) = false := by simp; omega
  simp only [run0, run1, run2, run3, run4, run5, run6, run7, run8, run9, run10, run11, run12, run13, run14, run15, run16, run17, run18, run19, run20, run21, run22, reduceCtorEq, Nat.reduceEqDiff, Nat.reduceAdd, Nat.reduceSub, Nat.reduceLeDiff, indexAddrA, indexRefA, appendA, strA, Nat.reduceMul, Nat.zero_mul, Nat.reduceMod, Int.reduceEq, Int.reduceLT, Int.reduceLE, Nat.reduceLT, Nat.lt_irrefl, Nat.reduceBEq, tys0, tys1, tys2, tys3, tys4, tys5, tys6, tys7, tys8, tys9, tys10, tys11, tys12, tys13, tys14, tys15, tys16, tys17, tys18, Try.ntmps54, Try.results54, elems_length, e0]
  refine AWp.loop_inv (ι := (Od × Od) × (Od × Od)) (fun p => ⟨[.sl false (elems a), .sl false (elems b), .junk, .junk, .bool false, .int .i64 p.1.1.len, .junk, .junk, .junk, .junk, .junk, .junk, .junk, .junk, .junk, .junk, .junk, .junk, .junk, .junk, .junk, .junk, .junk, .junk, .junk, .junk, .junk], []⟩)
    (fun p => a = p.1.1.app p.1.2 ∧ b = p.2.1.app p.2.2 ∧ p.1.1.len = p.2.1.len ∧ eqT p.1.2 p.2.2 = eqT a b) (fun p => p.1.2.len) ((.nil, a), (.nil, b)) ⟨rfl, rfl, rfl, rfl⟩ ⟨by repeat constructor, rfl⟩ ?_
  rintro ⟨⟨d, r⟩, ⟨d', r'⟩⟩ ⟨h1, h2, h3, h4⟩
  refine W.sound hmix (E := []) ?_
  simp only at h1 h2 h3 h4
  have hda : d.len + r.len = a.len := by rw [h1, len_app]
  have hdb : d'.len + r'.len = b.len := by rw [h2, len_app]
  cases r with
  | nil =>
    have e1 : ¬ ((d.len : Int) < (a.len : Int)) := by simp [len] at hda; omega
    simp only [run0, run1, run2, run3, run4, run5, run6, run7, run8, run9, run10, run11, run12, run13, run14, run15, run16, run17, run18, run19, run20, run21, run22, reduceCtorEq, Nat.reduceEqDiff, Nat.reduceAdd, Nat.reduceSub, Nat.reduceLeDiff, indexAddrA, indexRefA, appendA, strA, Nat.reduceMul, Nat.zero_mul, Nat.reduceMod, Int.reduceEq, Int.reduceLT, Int.reduceLE, Nat.reduceLT, Nat.lt_irrefl, Nat.reduceBEq, tys0, tys1, tys2, tys3, tys4, tys5, tys6, tys7, tys8, tys9, tys10, tys11, tys12, tys13, tys14, tys15, tys16, tys17, tys18, Try.ntmps54, Try.results54, elems_length, e1]
    refine Fin.eq ?_ rfl
    cases r' with
    | nil => rw [← h4]; rfl
    | cons e c r => simp [len] at hda hdb; omega
  | cons e c r =>
    cases r' with
    | nil => simp [len] at hda hdb; omega
    | cons e' c' r' =>
      simp only [len] at hda hdb
      have e1 : (d.len : Int) < (a.len : Int) := by omega
      have e2 : (elems a)[d.len]? = some (.agg (.sl false (elems e) :: pay c)) := by rw [h1]; exact elems_get d e c r
      have e3 : (elems b)[d.len]? = some (.agg (.sl false (elems e') :: pay c')) := by rw [h2, h3]; exact elems_get d' e' c' r'
      have e5 : IntKind.i64.wrap ((d.len : Int) + 1) = ((d.app (cons e c nil)).len : Int) := by
        rw [w64_id (by omega) (by omega), len_app]; simp [len]
      have hlt : e.sz < a.sz := by rw [h1, sz_app]; simp only [sz]; omega
      simp only [run0, run1, run2, run3, run4, run5, run6, run7, run8, run9, run10, run11, run12, run13, run14, run15, run16, run17, run18, run19, run20, run21, run22, reduceCtorEq, Nat.reduceEqDiff, Nat.reduceAdd, Nat.reduceSub, Nat.reduceLeDiff, indexAddrA, indexRefA, appendA, strA, Nat.reduceMul, Nat.zero_mul, Nat.reduceMod, Int.reduceEq, Int.reduceLT, Int.reduceLE, Nat.reduceLT, Nat.lt_irrefl, Nat.reduceBEq, tys0, tys1, tys2, tys3, tys4, tys5, tys6, tys7, tys8, tys9, tys10, tys11, tys12, tys13, tys14, tys15, tys16, tys17, tys18, Try.ntmps54, Try.results54, elems_length, e1, e2, e3, pay, Int.toNat_natCast, Int.natCast_nonneg]
      refine ⟨by kernel_rfl, ?_⟩
      refine RunL.callp rfl rfl ok_f93 (eqOrdinalTerm_of (c := c) (d := c') (eqTermS_ok e e' (by omega))) (by first | rfl | simp only [pureL, pureB, Bool.and_self, Bool.and_true, Bool.true_and, Od.elems_pure, Od.pay_pure, Od.av_pure]) rfl ?_
      simp only [run0, run1, run2, run3, run4, run5, run6, run7, run8, run9, run10, run11, run12, run13, run14, run15, run16, run17, run18, run19, run20, run21, run22, reduceCtorEq, Nat.reduceEqDiff, Nat.reduceAdd, Nat.reduceSub, Nat.reduceLeDiff, indexAddrA, indexRefA, appendA, strA, Nat.reduceMul, Nat.zero_mul, Nat.reduceMod, Int.reduceEq, Int.reduceLT, Int.reduceLE, Nat.reduceLT, Nat.lt_irrefl, Nat.reduceBEq, tys0, tys1, tys2, tys3, tys4, tys5, tys6, tys7, tys8, tys9, tys10, tys11, tys12, tys13, tys14, tys15, tys16, tys17, tys18, Try.ntmps54, Try.results54]
      simp only [eqT] at h4
      cases h6 : (eqT e e' && (c == c'))
      · simp only [run0, run1, run2, run3, run4, run5, run6, run7, run8, run9, run10, run11, run12, run13, run14, run15, run16, run17, run18, run19, run20, run21, run22, reduceCtorEq, Nat.reduceEqDiff, Nat.reduceAdd, Nat.reduceSub, Nat.reduceLeDiff, indexAddrA, indexRefA, appendA, strA, Nat.reduceMul, Nat.zero_mul, Nat.reduceMod, Int.reduceEq, Int.reduceLT, Int.reduceLE, Nat.reduceLT, Nat.lt_irrefl, Nat.reduceBEq, tys0, tys1, tys2, tys3, tys4, tys5, tys6, tys7, tys8, tys9, tys10, tys11, tys12, tys13, tys14, tys15, tys16, tys17, tys18, Try.ntmps54, Try.results54, h6]
        rw [h6, Bool.false_and] at h4
        exact Fin.eq (by rw [← h4]) rfl
      · simp only [run0, run1, run2, run3, run4, run5, run6, run7, run8, run9, run10, run11, run12, run13, run14, run15, run16, run17, run18, run19, run20, run21, run22, reduceCtorEq, Nat.reduceEqDiff, Nat.reduceAdd, Nat.reduceSub, Nat.reduceLeDiff, indexAddrA, indexRefA, appendA, strA, Nat.reduceMul, Nat.zero_mul, Nat.reduceMod, Int.reduceEq, Int.reduceLT, Int.reduceLE, Nat.reduceLT, Nat.lt_irrefl, Nat.reduceBEq, tys0, tys1, tys2, tys3, tys4, tys5, tys6, tys7, tys8, tys9, tys10, tys11, tys12, tys13, tys14, tys15, tys16, tys17, tys18, Try.ntmps54, Try.results54, h6, e5]
        rw [h6, Bool.true_and] at h4
        refine ⟨((d.app (cons e c nil), r), (d'.app (cons e' c' nil), r')), ⟨by rw [app_assoc]; exact h1, by rw [app_assoc]; exact h2, by simp only [len_app, len, h3], h4⟩, by simp [len], by repeat constructor⟩
termination_by a.sz

end Go.Proofs.Ytphmkhaboghagaa
/-
  Ordinals: the laws' marks.
-/
namespace Go.Proofs.Ytphmkhaboghagaa
open Go K Od
set_option linter.unusedSimpArgs false
set_option linter.unusedVariables false
set_option maxHeartbeats 400000

/-- A tree whose coefficients are the numbers from 'k' on. -/
def mk : Od → Int → Od
  | .nil, _ => .nil
  | .cons e _ r, k => .cons (mk e k) (k + e.sz) (mk r (k + e.sz + 1))
theorem mk_len : ∀ (a : Od) (k : Int), (mk a k).len = a.len
  | .nil, _ => rfl
  | .cons e c r, k => by simp [mk, len, mk_len r]
theorem mk_sz : ∀ (a : Od) (k : Int), (mk a k).sz = a.sz
  | .nil, _ => rfl
  | .cons e c r, k => by simp [mk, sz, mk_sz e, mk_sz r]
theorem mk_app : ∀ (d r : Od) (k : Int), mk (d.app r) k = (mk d k).app (mk r (k + d.sz))
  | .nil, r, k => by simp [mk, app, sz]
  | .cons e c d, r, k => by
    simp only [mk, app, sz, mk_app d r]
    rw [show k + (e.sz : Int) + 1 + (d.sz : Int) = k + ((e.sz + d.sz + 1 : Nat) : Int) by omega]

theorem held_ok (a : Od) (k : Int) (h0 : 0 ≤ k) (hk : k + a.sz ≤ 4611686018427387904) : Ct Try.prog 56 [.sl false (elems (mk a k)), .int .i64 k] [] (.int .i64 (k + a.sz)) [] := by
  have hl := len_le a
  refine Ct.by_ hmix [] Try.func56 rfl ?_
  simp only [run0, run1, run2, run3, run4, run5, run6, run7, run8, run9, run10, run11, run12, run13, run14, run15, run16, run17, run18, run19, run20, run21, run22, reduceCtorEq, Nat.reduceEqDiff, Nat.reduceAdd, Nat.reduceSub, Nat.reduceLeDiff, indexAddrA, indexRefA, appendA, strA, Nat.reduceMul, Nat.zero_mul, Nat.reduceMod, Int.reduceEq, Int.reduceLT, Int.reduceLE, Nat.reduceLT, Nat.lt_irrefl, Nat.reduceBEq, tys0, tys1, tys2, tys3, tys4, tys5, tys6, tys7, tys8, tys9, tys10, tys11, tys12, tys13, tys14, tys15, tys16, tys17, tys18, Try.ntmps56, Try.results56]
  refine AWp.loop_inv (ι := Od × Od) (fun p => ⟨[.sl false (elems (mk a k)), .int .i64 (k + p.1.sz), .junk, .junk, .int .i64 0, .int .i64 p.1.len, .junk, .junk, .junk, .junk, .junk, .junk, .junk, .junk, .junk, .junk, .junk, .junk, .junk, .junk, .junk, .junk, .junk, .junk, .junk, .junk, .junk, .junk, .junk, .junk, .junk, .junk], []⟩)
    (fun p => a = p.1.app p.2) (fun p => p.2.len) (.nil, a) rfl ⟨by simp only [sz, len, Int.natCast_zero, Int.add_zero]; repeat constructor, rfl⟩ ?_
  rintro ⟨d, r⟩ ha
  refine W.sound hmix (E := []) ?_
  simp only at ha
  have hda : d.len + r.len = a.len := by rw [ha, len_app]
  cases r with
  | nil =>
    have e1 : ¬ ((d.len : Int) < (a.len : Int)) := by simp [len] at hda; omega
    simp only [run0, run1, run2, run3, run4, run5, run6, run7, run8, run9, run10, run11, run12, run13, run14, run15, run16, run17, run18, run19, run20, run21, run22, reduceCtorEq, Nat.reduceEqDiff, Nat.reduceAdd, Nat.reduceSub, Nat.reduceLeDiff, indexAddrA, indexRefA, appendA, strA, Nat.reduceMul, Nat.zero_mul, Nat.reduceMod, Int.reduceEq, Int.reduceLT, Int.reduceLE, Nat.reduceLT, Nat.lt_irrefl, Nat.reduceBEq, tys0, tys1, tys2, tys3, tys4, tys5, tys6, tys7, tys8, tys9, tys10, tys11, tys12, tys13, tys14, tys15, tys16, tys17, tys18, Try.ntmps56, Try.results56, elems_length, mk_len, e1]
    refine Fin.eq ?_ rfl
    rw [ha, app_nil]
  | cons e c r =>
    simp only [len] at hda
    have e1 : (d.len : Int) < (a.len : Int) := by omega
    have hsz : a.sz = d.sz + (e.sz + r.sz + 1) := by rw [ha, sz_app]; rfl
    have e2 : (elems (mk a k))[d.len]? = some (.agg (.sl false (elems (mk e (k + d.sz))) :: pay (k + d.sz + e.sz))) := by
      rw [ha, mk_app, ← mk_len d k]; exact elems_get _ _ _ _
    have e5 : IntKind.i64.wrap ((d.len : Int) + 1) = ((d.app (cons e c nil)).len : Int) := by
      rw [w64_id (by omega) (by omega), len_app]; simp [len]
    have e6 : IntKind.i64.wrap (k + (d.sz : Int) + (e.sz : Int) + 1) = k + ((d.app (cons e c nil)).sz : Int) := by
      rw [w64_id (by omega) (by omega), sz_app]; simp only [sz]; omega
    have e7 : ¬ (k + (d.sz : Int) + (e.sz : Int) < 0) := by omega
    have hlt : e.sz < a.sz := by omega
    simp only [run0, run1, run2, run3, run4, run5, run6, run7, run8, run9, run10, run11, run12, run13, run14, run15, run16, run17, run18, run19, run20, run21, run22, reduceCtorEq, Nat.reduceEqDiff, Nat.reduceAdd, Nat.reduceSub, Nat.reduceLeDiff, indexAddrA, indexRefA, appendA, strA, Nat.reduceMul, Nat.zero_mul, Nat.reduceMod, Int.reduceEq, Int.reduceLT, Int.reduceLE, Nat.reduceLT, Nat.lt_irrefl, Nat.reduceBEq, tys0, tys1, tys2, tys3, tys4, tys5, tys6, tys7, tys8, tys9, tys10, tys11, tys12, tys13, tys14, tys15, tys16, tys17, tys18, Try.ntmps56, Try.results56, elems_length, mk_len, e1, e2, pay, Int.toNat_natCast, Int.natCast_nonneg]
    refine RunL.callp rfl rfl ok_f56 (held_ok e (k + d.sz) (by omega) (by omega)) (by first | rfl | simp only [pureL, pureB, Bool.and_self, Bool.and_true, Bool.true_and, Od.elems_pure, Od.pay_pure, Od.av_pure]) rfl ?_
    simp only [run0, run1, run2, run3, run4, run5, run6, run7, run8, run9, run10, run11, run12, run13, run14, run15, run16, run17, run18, run19, run20, run21, run22, reduceCtorEq, Nat.reduceEqDiff, Nat.reduceAdd, Nat.reduceSub, Nat.reduceLeDiff, indexAddrA, indexRefA, appendA, strA, Nat.reduceMul, Nat.zero_mul, Nat.reduceMod, Int.reduceEq, Int.reduceLT, Int.reduceLE, Nat.reduceLT, Nat.lt_irrefl, Nat.reduceBEq, tys0, tys1, tys2, tys3, tys4, tys5, tys6, tys7, tys8, tys9, tys10, tys11, tys12, tys13, tys14, tys15, tys16, tys17, tys18, Try.ntmps56, Try.results56, elems_length, mk_len, e1, e2, pay, Int.toNat_natCast, Int.natCast_nonneg, e7, e5, e6, bne_self_eq_false]
    exact ⟨(d.app (cons e c nil), r), by rw [app_assoc]; exact ha, by simp [len], by repeat constructor⟩
termination_by a.sz

theorem heldOrdinal_ok (a : Od) (k : Int) (h0 : 0 ≤ k) (hk : k + a.sz ≤ 4611686018427387904) : Ct Try.prog 16 [.agg [.sl false (elems (mk a k))], .int .i64 k] [] (.int .i64 (k + a.sz)) [] := by
  have e7 : ¬ (k + (a.sz : Int) < 0) := by omega
  refine Ct.by_ hmix [] Try.func16 rfl ?_
  simp only [run0, run1, run2, run3, run4, run5, run6, run7, run8, run9, run10, run11, run12, run13, run14, run15, run16, run17, run18, run19, run20, run21, run22, reduceCtorEq, Nat.reduceEqDiff, Nat.reduceAdd, Nat.reduceSub, Nat.reduceLeDiff, indexAddrA, indexRefA, appendA, strA, Nat.reduceMul, Nat.zero_mul, Nat.reduceMod, Int.reduceEq, Int.reduceLT, Int.reduceLE, Nat.reduceLT, Nat.lt_irrefl, Nat.reduceBEq, tys0, tys1, tys2, tys3, tys4, tys5, tys6, tys7, tys8, tys9, tys10, tys11, tys12, tys13, tys14, tys15, tys16, tys17, tys18, Try.ntmps16, Try.results16]
  refine RunL.callp rfl rfl ok_f56 (held_ok a k h0 hk) (by first | rfl | simp only [pureL, pureB, Bool.and_self, Bool.and_true, Bool.true_and, Od.elems_pure, Od.pay_pure, Od.av_pure]) rfl ?_
  simp only [run0, run1, run2, run3, run4, run5, run6, run7, run8, run9, run10, run11, run12, run13, run14, run15, run16, run17, run18, run19, run20, run21, run22, reduceCtorEq, Nat.reduceEqDiff, Nat.reduceAdd, Nat.reduceSub, Nat.reduceLeDiff, indexAddrA, indexRefA, appendA, strA, Nat.reduceMul, Nat.zero_mul, Nat.reduceMod, Int.reduceEq, Int.reduceLT, Int.reduceLE, Nat.reduceLT, Nat.lt_irrefl, Nat.reduceBEq, tys0, tys1, tys2, tys3, tys4, tys5, tys6, tys7, tys8, tys9, tys10, tys11, tys12, tys13, tys14, tys15, tys16, tys17, tys18, Try.ntmps16, Try.results16, e7]
  exact Fin.eq rfl rfl

/-! ### marks laid -/
structure MkS where
  d : Od
  r : Od
  es : List AV
  fs : List AV
  L : List AObj
  S1 : List Nat
  S2 : List Nat

theorem mk_one (d : Od) (e : Od) (c k : Int) : mk (d.app (cons e c nil)) k = (mk d k).app (cons (mk e (k + d.sz)) (k + d.sz + e.sz) nil) := by
  rw [mk_app]; rfl

theorem mark_ok (a : Od) (x : AV) (S : List Nat) (L0 : List AObj) (k : Int) (ho : OwnR L0 88 2 a x S) (hn : S.Nodup) (h0 : 0 ≤ k) (hk : k + a.sz ≤ 4611686018427387904) :
    ∃ L', Ct Try.prog 55 [x, .int .i64 k] L0 (.int .i64 (k + a.sz)) L' ∧ OwnR L' 88 2 (mk a k) x S ∧ (∀ id, id ∉ S → L'[id]? = L0[id]?) ∧ L'.length = L0.length := by
  have hl := len_le a
  rcases ho with ⟨rfl, rfl, rfl⟩ | ⟨id, g, es0, S0, rfl, hL, rfl, ho⟩
  · refine ⟨L0, ?_, .inl ⟨rfl, rfl, rfl⟩, fun _ _ => rfl, rfl⟩
    refine Ct.by_ hmix [] Try.func55 rfl ?_
    simp only [run0, run1, run2, run3, run4, run5, run6, run7, run8, run9, run10, run11, run12, run13, run14, run15, run16, run17, run18, run19, run20, run21, run22, reduceCtorEq, Nat.reduceEqDiff, Nat.reduceAdd, Nat.reduceSub, Nat.reduceLeDiff, indexAddrA, indexRefA, appendA, strA, Nat.reduceMul, Nat.zero_mul, Nat.reduceMod, Int.reduceEq, Int.reduceLT, Int.reduceLE, Nat.reduceLT, Nat.lt_irrefl, Nat.reduceBEq, tys0, tys1, tys2, tys3, tys4, tys5, tys6, tys7, tys8, tys9, tys10, tys11, tys12, tys13, tys14, tys15, tys16, tys17, tys18, Try.ntmps55, Try.results55, nilV]
    refine AWp.loop_inv (ι := Unit) (fun _ => ⟨[.lit (.slice none 0 0), .int .i64 k, .junk, .junk, .int .i64 0, .int .i64 0, .junk, .junk, .junk, .junk, .junk, .junk, .junk, .junk, .junk, .junk, .junk, .junk, .junk, .junk, .junk, .junk, .junk, .junk, .junk, .junk, .junk, .junk], L0⟩) (fun _ => True) (fun _ => 0) () trivial ⟨by repeat constructor, rfl⟩ ?_
    rintro _ _
    refine W.sound hmix (E := []) ?_
    simp only [run0, run1, run2, run3, run4, run5, run6, run7, run8, run9, run10, run11, run12, run13, run14, run15, run16, run17, run18, run19, run20, run21, run22, reduceCtorEq, Nat.reduceEqDiff, Nat.reduceAdd, Nat.reduceSub, Nat.reduceLeDiff, indexAddrA, indexRefA, appendA, strA, Nat.reduceMul, Nat.zero_mul, Nat.reduceMod, Int.reduceEq, Int.reduceLT, Int.reduceLE, Nat.reduceLT, Nat.lt_irrefl, Nat.reduceBEq, tys0, tys1, tys2, tys3, tys4, tys5, tys6, tys7, tys8, tys9, tys10, tys11, tys12, tys13, tys14, tys15, tys16, tys17, tys18, Try.ntmps55, Try.results55, Int.lt_irrefl]
    exact Fin.own rfl (by simp [sz])
  suffices h : ∃ r L', Ct Try.prog 55 [.ref id [] g es0.length, .int .i64 k] L0 r L' ∧ (r = .int .i64 (k + a.sz) ∧ OwnR L' 88 2 (mk a k) (.ref id [] g es0.length) (id :: S0) ∧ (∀ id1, id1 ∉ id :: S0 → L'[id1]? = L0[id1]?) ∧ L'.length = L0.length) by
    obtain ⟨r, L', h1, rfl, h2⟩ := h
    exact ⟨L', h1, h2⟩
  have hel0 := ho.length
  refine Ct.ex hmix [] Try.func55 rfl ?_
  simp only [run0, run1, run2, run3, run4, run5, run6, run7, run8, run9, run10, run11, run12, run13, run14, run15, run16, run17, run18, run19, run20, run21, run22, reduceCtorEq, Nat.reduceEqDiff, Nat.reduceAdd, Nat.reduceSub, Nat.reduceLeDiff, indexAddrA, indexRefA, appendA, strA, Nat.reduceMul, Nat.zero_mul, Nat.reduceMod, Int.reduceEq, Int.reduceLT, Int.reduceLE, Nat.reduceLT, Nat.lt_irrefl, Nat.reduceBEq, tys0, tys1, tys2, tys3, tys4, tys5, tys6, tys7, tys8, tys9, tys10, tys11, tys12, tys13, tys14, tys15, tys16, tys17, tys18, Try.ntmps55, Try.results55]
  rw [hel0]
  refine AWp.loop_exK (ι := MkS) (fun p => ⟨[.ref id [] g a.len, .int .i64 (k + p.d.sz), .junk, .junk, .int .i64 0, .int .i64 p.d.len, .junk, .junk, .junk, .junk, .junk, .junk, .junk, .junk, .junk, .junk, .junk, .junk, .junk, .junk, .junk, .junk, .junk, .junk, .junk, .junk, .junk, .junk], p.L⟩)
    (fun p => a = p.d.app p.r ∧ p.L[id]? = some (.vec 88 2 g (p.es ++ p.fs)) ∧ OwnE p.L 88 2 (mk p.d k) p.es p.S1 ∧ OwnE p.L 88 2 p.r p.fs p.S2 ∧ S0 = p.S1 ++ p.S2 ∧
      (∀ id1, id1 ∉ id :: S0 → p.L[id1]? = L0[id1]?) ∧ p.L.length = L0.length) (fun p => p.r.len) ⟨.nil, a, [], es0, L0, [], S0⟩
    ⟨rfl, hL, ⟨rfl, rfl⟩, ho, rfl, fun _ _ => rfl, rfl⟩ ⟨by simp only [sz, len, Int.natCast_zero, Int.add_zero]; repeat constructor, rfl⟩ ?_
  rintro ⟨d, r, es, fs, L, S1, S2⟩ ⟨ha, hLid, h1, h2, hS, hfr, hLl⟩
  simp only at ha hLid h1 h2 hS hfr hLl
  have hda : d.len + r.len = a.len := by rw [ha, len_app]
  have hel := h1.length
  rw [mk_len] at hel
  obtain ⟨hid, hn0⟩ := List.nodup_cons.1 hn
  have hnow : eptrNow L id g = true := by simp [eptrNow, hLid]
  cases r with
  | nil =>
    left
    obtain ⟨rfl, rfl⟩ := h2
    have e1 : ¬ ((d.len : Int) < (a.len : Int)) := by simp [len] at hda; omega
    refine ⟨.int .i64 (k + d.sz), L, ?_, by rw [ha, app_nil], .inr ⟨id, g, es, S1, by rw [hel]; simp [len] at hda; rw [hda], by simpa using hLid, by rw [hS]; simp, by rw [ha, app_nil]; exact h1⟩, hfr, hLl⟩
    refine W.sound hmix (E := []) ?_
    simp only [run0, run1, run2, run3, run4, run5, run6, run7, run8, run9, run10, run11, run12, run13, run14, run15, run16, run17, run18, run19, run20, run21, run22, reduceCtorEq, Nat.reduceEqDiff, Nat.reduceAdd, Nat.reduceSub, Nat.reduceLeDiff, indexAddrA, indexRefA, appendA, strA, Nat.reduceMul, Nat.zero_mul, Nat.reduceMod, Int.reduceEq, Int.reduceLT, Int.reduceLE, Nat.reduceLT, Nat.lt_irrefl, Nat.reduceBEq, tys0, tys1, tys2, tys3, tys4, tys5, tys6, tys7, tys8, tys9, tys10, tys11, tys12, tys13, tys14, tys15, tys16, tys17, tys18, Try.ntmps55, Try.results55, e1, hLid]
    exact Fin.own rfl rfl
  | cons e c r =>
    right
    simp only [len] at hda
    rw [OwnE_cons] at h2
    obtain ⟨y, fs, Sy, S2, rfl, rfl, hy, h2⟩ := h2
    have e1 : (d.len : Int) < (a.len : Int) := by omega
    have hsz : a.sz = d.sz + (e.sz + r.sz + 1) := by rw [ha, sz_app]; rfl
    have hlt : e.sz < a.sz := by omega
    have e5 : IntKind.i64.wrap ((d.len : Int) + 1) = ((d.app (cons e c nil)).len : Int) := by
      rw [w64_id (by omega) (by omega), len_app]; simp [len]
    have e6 : IntKind.i64.wrap (k + (d.sz : Int) + (e.sz : Int) + 1) = k + ((d.app (cons e c nil)).sz : Int) := by
      rw [w64_id (by omega) (by omega), sz_app]; simp only [sz]; omega
    rw [hS] at hn0 hid
    simp only [List.nodup_append, List.mem_append, not_or] at hn0 hid
    obtain ⟨hn1, ⟨hny, hn2, hd2⟩, hd1⟩ := hn0
    obtain ⟨hid1, hidy, hid2⟩ := hid
    obtain ⟨L1, hc, hy1, hfr1, hLl1⟩ := mark_ok e y Sy L (k + d.sz) hy hny (by omega) (by omega)
    have hL1id : L1[id]? = some (.vec 88 2 g (es ++ .agg (y :: pay c) :: fs)) := by rw [hfr1 id hidy]; exact hLid
    have hidlt : id < L1.length := (List.getElem?_eq_some_iff.1 hL1id).1
    have e2 : (es ++ .agg (y :: pay c) :: fs)[d.len]? = some (.agg (y :: pay c)) := by rw [← hel]; simp
    have e3 : noOwn (es ++ .agg (y :: pay c) :: fs) = true := by
      have h3 := h1.form.2.1
      have h4 := (OwnE.app h2 (OwnE.one hy c)).form.2.1
      refine List.all_eq_true.2 fun z hz => ?_
      rcases List.mem_append.1 hz with hz | hz
      · exact List.all_eq_true.1 h3 z hz
      · exact List.all_eq_true.1 h4 z hz
    have e4 : (es ++ .agg (y :: pay c) :: fs).set d.len (.agg [y, .int .i64 (k + d.sz + e.sz)]) = (es ++ [.agg [y, .int .i64 (k + d.sz + e.sz)]]) ++ fs := by
      rw [← hel]; simp [List.set_append]
    have hm1 : ∀ id1 ∈ S1, ∀ g1 es1, L[id1]? = some (.vec 88 2 g1 es1) → (L1.set id (.vec 88 2 g ((es ++ [.agg [y, .int .i64 (k + d.sz + e.sz)]]) ++ fs)))[id1]? = some (.vec 88 2 g1 es1) := by
      intro id1 hi g1 es1 h
      rw [List.getElem?_set_ne (fun q : id = id1 => hid1 (by rw [q]; exact hi)), hfr1 id1 (fun q => hd1 id1 hi id1 (.inl q) rfl)]
      exact h
    have hm2 : ∀ id1 ∈ S2, ∀ g1 es1, L[id1]? = some (.vec 88 2 g1 es1) → (L1.set id (.vec 88 2 g ((es ++ [.agg [y, .int .i64 (k + d.sz + e.sz)]]) ++ fs)))[id1]? = some (.vec 88 2 g1 es1) := by
      intro id1 hi g1 es1 h
      rw [List.getElem?_set_ne (fun q : id = id1 => hid2 (by rw [q]; exact hi)), hfr1 id1 (fun q => hd2 id1 q id1 hi rfl)]
      exact h
    refine ⟨⟨d.app (cons e c nil), r, es ++ [.agg [y, .int .i64 (k + d.sz + e.sz)]], fs, L1.set id (.vec 88 2 g ((es ++ [.agg [y, .int .i64 (k + d.sz + e.sz)]]) ++ fs)), S1 ++ Sy, S2⟩,
      ⟨by rw [app_assoc]; exact ha, by simp [hidlt], ?_, h2.mono hm2, by rw [hS]; simp, fun id1 hi => ?_, by simp [hLl1, hLl]⟩, by simp [len], ?_⟩
    · rw [mk_one]
      exact OwnE.app (OwnE.one (hy1.set hidy) _) (h1.mono hm1)
    · have hi' := hi
      rw [hS] at hi'
      simp only [List.mem_cons, List.mem_append, not_or] at hi'
      rw [List.getElem?_set_ne (fun q => hi'.1 q.symm), hfr1 id1 hi'.2.2.1]
      exact hfr id1 hi
    · refine W.sound hmix (E := []) ?_
      simp only [pay] at hLid hL1id e2 e3 e4
      rcases hy.shape with rfl | ⟨id2, g2, n2, rfl⟩
      · simp only [nilV] at hLid hL1id e2 e3 e4 hc
        simp only [run0, run1, run2, run3, run4, run5, run6, run7, run8, run9, run10, run11, run12, run13, run14, run15, run16, run17, run18, run19, run20, run21, run22, reduceCtorEq, Nat.reduceEqDiff, Nat.reduceAdd, Nat.reduceSub, Nat.reduceLeDiff, indexAddrA, indexRefA, appendA, strA, Nat.reduceMul, Nat.zero_mul, Nat.reduceMod, Int.reduceEq, Int.reduceLT, Int.reduceLE, Nat.reduceLT, Nat.lt_irrefl, Nat.reduceBEq, tys0, tys1, tys2, tys3, tys4, tys5, tys6, tys7, tys8, tys9, tys10, tys11, tys12, tys13, tys14, tys15, tys16, tys17, tys18, Try.ntmps55, Try.results55, e1, hLid, e2, Int.toNat_natCast, Int.natCast_nonneg, List.mapIdx_cons, List.mapIdx_nil, viewC]
        refine RunL.call rfl rfl rfl ok_f55 rfl (.inl rfl) hc ?_
        simp only [run0, run1, run2, run3, run4, run5, run6, run7, run8, run9, run10, run11, run12, run13, run14, run15, run16, run17, run18, run19, run20, run21, run22, reduceCtorEq, Nat.reduceEqDiff, Nat.reduceAdd, Nat.reduceSub, Nat.reduceLeDiff, indexAddrA, indexRefA, appendA, strA, Nat.reduceMul, Nat.zero_mul, Nat.reduceMod, Int.reduceEq, Int.reduceLT, Int.reduceLE, Nat.reduceLT, Nat.lt_irrefl, Nat.reduceBEq, tys0, tys1, tys2, tys3, tys4, tys5, tys6, tys7, tys8, tys9, tys10, tys11, tys12, tys13, tys14, tys15, tys16, tys17, tys18, Try.ntmps55, Try.results55, e1, hL1id, e2, e3, e4, e5, e6, Int.toNat_natCast, Int.natCast_nonneg, setE]
        repeat constructor
      · simp only [run0, run1, run2, run3, run4, run5, run6, run7, run8, run9, run10, run11, run12, run13, run14, run15, run16, run17, run18, run19, run20, run21, run22, reduceCtorEq, Nat.reduceEqDiff, Nat.reduceAdd, Nat.reduceSub, Nat.reduceLeDiff, indexAddrA, indexRefA, appendA, strA, Nat.reduceMul, Nat.zero_mul, Nat.reduceMod, Int.reduceEq, Int.reduceLT, Int.reduceLE, Nat.reduceLT, Nat.lt_irrefl, Nat.reduceBEq, tys0, tys1, tys2, tys3, tys4, tys5, tys6, tys7, tys8, tys9, tys10, tys11, tys12, tys13, tys14, tys15, tys16, tys17, tys18, Try.ntmps55, Try.results55, e1, hLid, e2, Int.toNat_natCast, Int.natCast_nonneg, List.mapIdx_cons, List.mapIdx_nil, viewC]
        refine RunL.call rfl rfl rfl ok_f55 rfl (.inl rfl) hc ?_
        simp only [run0, run1, run2, run3, run4, run5, run6, run7, run8, run9, run10, run11, run12, run13, run14, run15, run16, run17, run18, run19, run20, run21, run22, reduceCtorEq, Nat.reduceEqDiff, Nat.reduceAdd, Nat.reduceSub, Nat.reduceLeDiff, indexAddrA, indexRefA, appendA, strA, Nat.reduceMul, Nat.zero_mul, Nat.reduceMod, Int.reduceEq, Int.reduceLT, Int.reduceLE, Nat.reduceLT, Nat.lt_irrefl, Nat.reduceBEq, tys0, tys1, tys2, tys3, tys4, tys5, tys6, tys7, tys8, tys9, tys10, tys11, tys12, tys13, tys14, tys15, tys16, tys17, tys18, Try.ntmps55, Try.results55, e1, hL1id, e2, e3, e4, e5, e6, Int.toNat_natCast, Int.natCast_nonneg, setE]
        repeat constructor
termination_by a.sz

theorem markOrdinal_ok (a : Od) (x : AV) (S : List Nat) (L0 : List AObj) (k : Int) (ho : OwnR L0 88 2 a x S) (hn : S.Nodup) (h0 : 0 ≤ k) (hk : k + a.sz ≤ 4611686018427387904) :
    ∃ L', Ct Try.prog 15 [.agg [x], .int .i64 k] L0 (.int .i64 (k + a.sz)) L' ∧ OwnR L' 88 2 (mk a k) x S ∧ (∀ id, id ∉ S → id < L0.length → L'[id]? = L0[id]?) ∧ L0.length ≤ L'.length := by
  obtain ⟨L1, hc, h1, h2, h3⟩ := mark_ok a x S (L0 ++ [.box 24 [x]]) k (ho.more _) hn h0 hk
  have hb : L1[L0.length]? = some (.box 24 [x]) := by
    rw [h2 _ (fun hi => by have := ho.lt _ hi; omega)]; simp
  refine ⟨L1, ?_, h1, fun id hi hlt => by rw [h2 id hi, List.getElem?_append_left hlt], by simp at h3; omega⟩
  rcases ho.shape with rfl | ⟨id2, g2, n2, rfl⟩
  · simp only [nilV] at hc hb
    refine Ct.by_ hmix [] Try.func15 rfl ?_
    simp only [run0, run1, run2, run3, run4, run5, run6, run7, run8, run9, run10, run11, run12, run13, run14, run15, run16, run17, run18, run19, run20, run21, run22, reduceCtorEq, Nat.reduceEqDiff, Nat.reduceAdd, Nat.reduceSub, Nat.reduceLeDiff, indexAddrA, indexRefA, appendA, strA, Nat.reduceMul, Nat.zero_mul, Nat.reduceMod, Int.reduceEq, Int.reduceLT, Int.reduceLE, Nat.reduceLT, Nat.lt_irrefl, Nat.reduceBEq, tys0, tys1, tys2, tys3, tys4, tys5, tys6, tys7, tys8, tys9, tys10, tys11, tys12, tys13, tys14, tys15, tys16, tys17, tys18, Try.ntmps15, Try.results15, nilV, List.getElem?_concat_length]
    refine RunL.call rfl rfl rfl ok_f55 rfl (.inl rfl) hc ?_
    simp only [run0, run1, run2, run3, run4, run5, run6, run7, run8, run9, run10, run11, run12, run13, run14, run15, run16, run17, run18, run19, run20, run21, run22, reduceCtorEq, Nat.reduceEqDiff, Nat.reduceAdd, Nat.reduceSub, Nat.reduceLeDiff, indexAddrA, indexRefA, appendA, strA, Nat.reduceMul, Nat.zero_mul, Nat.reduceMod, Int.reduceEq, Int.reduceLT, Int.reduceLE, Nat.reduceLT, Nat.lt_irrefl, Nat.reduceBEq, tys0, tys1, tys2, tys3, tys4, tys5, tys6, tys7, tys8, tys9, tys10, tys11, tys12, tys13, tys14, tys15, tys16, tys17, tys18, Try.ntmps15, Try.results15]
    exact Fin.own rfl rfl
  · refine Ct.by_ hmix [] Try.func15 rfl ?_
    simp only [run0, run1, run2, run3, run4, run5, run6, run7, run8, run9, run10, run11, run12, run13, run14, run15, run16, run17, run18, run19, run20, run21, run22, reduceCtorEq, Nat.reduceEqDiff, Nat.reduceAdd, Nat.reduceSub, Nat.reduceLeDiff, indexAddrA, indexRefA, appendA, strA, Nat.reduceMul, Nat.zero_mul, Nat.reduceMod, Int.reduceEq, Int.reduceLT, Int.reduceLE, Nat.reduceLT, Nat.lt_irrefl, Nat.reduceBEq, tys0, tys1, tys2, tys3, tys4, tys5, tys6, tys7, tys8, tys9, tys10, tys11, tys12, tys13, tys14, tys15, tys16, tys17, tys18, Try.ntmps15, Try.results15, List.getElem?_concat_length]
    refine RunL.call rfl rfl rfl ok_f55 rfl (.inl rfl) hc ?_
    simp only [run0, run1, run2, run3, run4, run5, run6, run7, run8, run9, run10, run11, run12, run13, run14, run15, run16, run17, run18, run19, run20, run21, run22, reduceCtorEq, Nat.reduceEqDiff, Nat.reduceAdd, Nat.reduceSub, Nat.reduceLeDiff, indexAddrA, indexRefA, appendA, strA, Nat.reduceMul, Nat.zero_mul, Nat.reduceMod, Int.reduceEq, Int.reduceLT, Int.reduceLE, Nat.reduceLT, Nat.lt_irrefl, Nat.reduceBEq, tys0, tys1, tys2, tys3, tys4, tys5, tys6, tys7, tys8, tys9, tys10, tys11, tys12, tys13, tys14, tys15, tys16, tys17, tys18, Try.ntmps15, Try.results15]
    exact Fin.own rfl rfl
end Go.Proofs.Ytphmkhaboghagaa
/-
  Ordinals as trees: their order, and which are right. No program in sight.
-/
namespace Go.Proofs.Ytphmkhaboghagaa
open Go K Od
set_option linter.unusedSimpArgs false
set_option linter.unusedVariables false

def inB (n lo hi : Int) : Bool := decide (lo ≤ n) && decide (n ≤ hi)
def cmpI (a b : Int) : Int := if a < b then -1 else if b < a then 1 else 0
theorem cmpI_cases (a b : Int) : (a < b ∧ cmpI a b = -1) ∨ (a = b ∧ cmpI a b = 0) ∨ (b < a ∧ cmpI a b = 1) := by
  unfold cmpI; omega

/-- The order of two. -/
def cmpT : Od → Od → Int
  | .nil, .nil => 0
  | .nil, .cons _ _ _ => -1
  | .cons _ _ _, .nil => 1
  | .cons e c r, .cons e' c' r' => if cmpT e e' ≠ 0 then cmpT e e' else if c ≠ c' then cmpI c c' else cmpT r r'

theorem cmpT_cons (e e' : Od) (c c' : Int) (r r' : Od) : cmpT (.cons e c r) (.cons e' c' r') = if cmpT e e' ≠ 0 then cmpT e e' else if c ≠ c' then cmpI c c' else cmpT r r' := rfl
theorem cmpT_refl : ∀ a : Od, cmpT a a = 0
  | .nil => rfl
  | .cons e c r => by simp [cmpT, cmpT_refl e, cmpT_refl r]
theorem cmpT_range : ∀ a b : Od, cmpT a b = -1 ∨ cmpT a b = 0 ∨ cmpT a b = 1
  | .nil, .nil => .inr (.inl rfl)
  | .nil, .cons _ _ _ => .inl rfl
  | .cons _ _ _, .nil => .inr (.inr rfl)
  | .cons e c r, .cons e' c' r' => by
    unfold cmpT
    split
    · exact cmpT_range e e'
    · split
      · rcases cmpI_cases c c' with h | h | h <;> omega
      · exact cmpT_range r r'
theorem cmpT_zero : ∀ {a b : Od}, cmpT a b = 0 → a = b
  | .nil, .nil, _ => rfl
  | .nil, .cons _ _ _, h => by simp [cmpT] at h
  | .cons _ _ _, .nil, h => by simp [cmpT] at h
  | .cons e c r, .cons e' c' r', h => by
    unfold cmpT at h
    split at h
    · contradiction
    · rename_i h1
      split at h
      · rcases cmpI_cases c c' with h2 | h2 | h2 <;> omega
      · rename_i h2
        rw [cmpT_zero (a := e) (b := e') (by omega), cmpT_zero h, Decidable.not_not.1 h2]
theorem cmpT_anti : ∀ a b : Od, cmpT b a = - cmpT a b
  | .nil, .nil => rfl
  | .nil, .cons _ _ _ => rfl
  | .cons _ _ _, .nil => rfl
  | .cons e c r, .cons e' c' r' => by
    have h1 := cmpT_anti e e'
    have h2 := cmpT_anti r r'
    unfold cmpT
    by_cases h : cmpT e e' = 0
    · have e1 : cmpT e' e = 0 := by omega
      simp only [e1, h, ne_eq, not_true_eq_false, if_false]
      by_cases hc : c = c'
      · subst hc; simpa using h2
      · have hc' : ¬ c' = c := fun q => hc q.symm
        simp only [hc, hc', not_false_eq_true, if_true]
        rcases cmpI_cases c c' with h3 | h3 | h3 <;> rcases cmpI_cases c' c with h4 | h4 | h4 <;> omega
    · have e1 : ¬ cmpT e' e = 0 := by omega
      simp only [e1, h, ne_eq, not_false_eq_true, if_true]; exact h1
theorem cmpT_trans : ∀ {a b c : Od}, 0 < cmpT a b → 0 < cmpT b c → 0 < cmpT a c
  | .nil, .nil, _, h, _ => by simp [cmpT] at h
  | .nil, .cons _ _ _, _, h, _ => by simp [cmpT] at h
  | .cons _ _ _, .nil, .nil, _, h => by simp [cmpT] at h
  | .cons _ _ _, .nil, .cons _ _ _, _, h => by simp [cmpT] at h
  | .cons _ _ _, .cons _ _ _, .nil, _, _ => by simp [cmpT]
  | .cons e c r, .cons e1 c1 r1, .cons e2 c2 r2, h1, h2 => by
    unfold cmpT at h1 h2 ⊢
    by_cases q1 : cmpT e e1 = 0
    · have := cmpT_zero q1
      subst this
      rw [if_neg (by omega)] at h1
      by_cases q2 : cmpT e e2 = 0
      · rw [if_neg (by omega)] at h2 ⊢
        rcases cmpI_cases c c1 with k1 | k1 | k1 <;> rcases cmpI_cases c1 c2 with k2 | k2 | k2 <;> rcases cmpI_cases c c2 with k3 | k3 | k3 <;> (repeat' split at h1) <;> (repeat' split at h2) <;> (repeat' split) <;> (try omega)
        exact cmpT_trans h1 h2
      · rw [if_pos (by omega)] at h2 ⊢; exact h2
    · rw [if_pos (by omega)] at h1
      by_cases q2 : cmpT e1 e2 = 0
      · have := cmpT_zero q2
        subst this
        rw [if_pos (by omega)]; exact h1
      · rw [if_pos (by omega)] at h2
        have := cmpT_trans h1 h2
        rw [if_pos (by omega)]; exact this

/-- Terms fall, and coefficients are in their range, down to a depth; 'p': the exponent ahead. -/
def below (p : Option Od) (e : Od) : Bool := match p with | none => true | some q => decide (0 < cmpT q e)
def formG : Od → Nat → Option Od → Bool
  | .nil, _, _ => true
  | .cons e c r, n, p => inB c 1 1000000 && (match n with | 0 => false | n + 1 => formG e n none) && below p e && formG r n (some e)
def formP (e : Od) : Nat → Bool
  | 0 => false
  | n + 1 => formG e n none
theorem formG_cons (e r : Od) (c : Int) (n : Nat) (p : Option Od) : formG (.cons e c r) n p = (inB c 1 1000000 && formP e n && below p e && formG r n (some e)) := by
  cases n <;> rfl
/-- What is left of nodes. -/
def leftL : Od → Nat → Int → Int
  | .nil, _, l => l
  | .cons e _ r, n, l => if l < 0 ∨ n = 0 then -1 else leftL r n (leftL e (n - 1) (l - 2))
theorem leftL_cons (e r : Od) (c : Int) (n : Nat) (l : Int) : leftL (.cons e c r) n l = if l < 0 ∨ n = 0 then -1 else leftL r n (leftL e (n - 1) (l - 2)) := rfl
/-- A right ordinal. -/
def goodT (a : Od) : Bool := decide (2 * a.sz ≤ 59) && formG a 6 none
/-- How nodes are counted on the way. -/
def atL : Od → Nat → Int → Option Od → Bool × Int
  | .nil, _, k, _ => (true, k)
  | .cons e c r, d, k, p =>
    if 60 < k + 1 ∨ inB c 1 1000000 = false then (false, k + 1)
    else if 60 < k + 2 ∨ 6 < d + 1 then (false, k + 2)
    else if (atL e (d + 1) (k + 2) none).1 = false then (false, (atL e (d + 1) (k + 2) none).2)
    else if below p e = false then (false, (atL e (d + 1) (k + 2) none).2)
    else atL r d (atL e (d + 1) (k + 2) none).2 (some e)

theorem leftL_spec : ∀ (a : Od) (n : Nat) (l : Int), 0 ≤ leftL a n l → leftL a n l = l - 2 * a.sz
  | .nil, n, l => by simp [leftL, sz]
  | .cons e c r, n, l => by
    have h1 := leftL_spec e (n - 1) (l - 2)
    have h2 := leftL_spec r n (leftL e (n - 1) (l - 2))
    unfold leftL
    split
    · omega
    · simp only [sz]
      intro h
      have h3 := h2 h
      have h4 : 0 ≤ leftL e (n - 1) (l - 2) := by
        cases r with
        | nil => simpa [leftL] using h
        | cons e2 c2 r2 =>
          by_cases h5 : leftL e (n - 1) (l - 2) < 0
          · unfold leftL at h; rw [if_pos (.inl h5)] at h; omega
          · omega
      have h6 := h1 h4
      omega
theorem leftL_form : ∀ (a : Od) (n : Nat) (l : Int) (p : Option Od), formG a n p = true → 2 * (a.sz : Int) ≤ l → leftL a n l = l - 2 * a.sz
  | .nil, n, l, p, _, h => by simp [leftL, sz]
  | .cons e c r, 0, l, p, hf, h => by simp [formG] at hf
  | .cons e c r, n + 1, l, p, hf, h => by
    simp only [formG, Bool.and_eq_true] at hf
    simp only [sz] at h ⊢
    unfold leftL
    have hc : ¬ (l < 0 ∨ n + 1 = 0) := by omega
    have h1 := leftL_form e n (l - 2) none hf.1.1.2 (by omega)
    have h2 := leftL_form r (n + 1) (l - 2 - 2 * e.sz) (some e) hf.2 (by omega)
    rw [if_neg hc]
    simp only [Nat.add_sub_cancel]
    rw [h1, h2]
    omega
theorem left_good (a : Od) : (decide (0 ≤ leftL a 6 59) && formG a 6 none) = goodT a := by
  unfold goodT
  cases hf : formG a 6 none
  · simp
  · simp only [Bool.and_true]
    rw [Bool.eq_iff_iff, decide_eq_true_eq, decide_eq_true_eq]
    constructor
    · intro h; have := leftL_spec a 6 59 h; omega
    · intro h; have := leftL_form a 6 59 none hf (by omega); omega
theorem atL_spec : ∀ (a : Od) (d n : Nat) (k : Int) (p : Option Od), d + n = 6 → k ≤ 60 → (((atL a d k p).1 = true ↔ (formG a n p = true ∧ k + 2 * a.sz ≤ 60)) ∧ ((atL a d k p).1 = true → (atL a d k p).2 = k + 2 * a.sz))
  | .nil, d, n, k, p, _, h => by simp [atL, formG, sz]; omega
  | .cons e c r, d, 0, k, p, hd, h => by
    unfold atL
    split
    · simp [formG]
    · rw [if_pos (.inr (by omega))]; simp [formG]
  | .cons e c r, d, n + 1, k, p, hd, h => by
    have h1 := atL_spec e (d + 1) n (k + 2) none (by omega)
    unfold atL
    simp only [formG, sz, Bool.and_eq_true]
    split
    · rename_i hc
      rcases hc with hc | hc
      · simp; intros; omega
      · simp [hc]
    · rename_i hc
      simp only [not_or, Bool.not_eq_false] at hc
      split
      · simp; intros; omega
      · rename_i hk
        simp only [not_or] at hk
        have h1 := h1 (by omega)
        split
        · rename_i hb
          simp only [Bool.false_eq_true, false_iff, not_and, false_implies, and_true]
          intro q
          have h3 := h1.1
          rw [hb] at h3
          simp only [Bool.false_eq_true, false_iff, not_and] at h3
          have := h3 q.1.1.2
          omega
        · rename_i hb
          simp only [Bool.not_eq_false] at hb
          have h3 := h1.1.1 hb
          have h4 := h1.2 hb
          split
          · rename_i hbl
            simp [hbl]
          · rename_i hbl
            simp only [Bool.not_eq_false] at hbl
            rw [h4]
            have h5 := atL_spec r d (n + 1) (k + 2 + 2 * e.sz) (some e) hd (by omega)
            rw [h5.1]
            constructor
            · constructor
              · rintro ⟨q1, q2⟩; exact ⟨⟨⟨⟨hc.2, h3.1⟩, hbl⟩, q1⟩, by omega⟩
              · rintro ⟨⟨⟨⟨_, _⟩, _⟩, q1⟩, q2⟩; exact ⟨q1, by omega⟩
            · intro q
              rw [h5.2 (h5.1.2 q)]; omega

theorem at_good (a : Od) : (atL a 0 1 none).1 = goodT a := by
  have h := (atL_spec a 0 6 1 none rfl (by omega)).1
  unfold goodT
  rw [Bool.eq_iff_iff, h, Bool.and_eq_true, decide_eq_true_eq]
  constructor
  · rintro ⟨h1, h2⟩; exact ⟨by omega, h1⟩
  · rintro ⟨h1, h2⟩; exact ⟨h2, by omega⟩
theorem at_nodes {a : Od} (h : goodT a = true) : (atL a 0 1 none).2 = 1 + 2 * a.sz := (atL_spec a 0 6 1 none rfl (by omega)).2 (by rw [at_good]; exact h)

/-- Coefficients in their range, down to all depths. -/
def rng : Od → Prop
  | .nil => True
  | .cons e c r => 1 ≤ c ∧ c ≤ 1000000 ∧ rng e ∧ rng r
theorem formG_rng : ∀ {a : Od} {n : Nat} {p : Option Od}, formG a n p = true → rng a
  | .nil, _, _, _ => trivial
  | .cons e c r, 0, p, h => by simp [formG] at h
  | .cons e c r, n + 1, p, h => by
    simp only [formG, Bool.and_eq_true, inB, decide_eq_true_eq] at h
    exact ⟨h.1.1.1.1, h.1.1.1.2, formG_rng h.1.1.2, formG_rng h.2⟩
theorem goodT_rng {a : Od} (h : goodT a = true) : rng a := by
  simp only [goodT, Bool.and_eq_true] at h; exact formG_rng h.2

end Go.Proofs.Ytphmkhaboghagaa
/-
  Ordinals: the comparing of the program and of the reference.
-/
namespace Go.Proofs.Ytphmkhaboghagaa
open Go K Od
set_option linter.unusedSimpArgs false
set_option linter.unusedVariables false
set_option maxHeartbeats 400000

theorem od_step {a d e r : Od} {c : Int} (ha : a = d.app (cons e c r)) (hs : a.sz ≤ 1048576) :
    (d.len : Int) < (a.len : Int) ∧ (elems a)[d.len]? = some (.agg [.sl false (elems e), .int .i64 c]) ∧ IntKind.i64.wrap ((d.len : Int) + 1) = ((d.app (cons e c nil)).len : Int) ∧ e.sz < a.sz ∧
      (d.app (cons e c nil)).app r = a ∧ r.sz < a.sz := by
  have hda : d.len + (r.len + 1) = a.len := by rw [ha, len_app]; rfl
  have hsz : a.sz = d.sz + (e.sz + r.sz + 1) := by rw [ha, sz_app]; rfl
  have hl := len_le a
  refine ⟨by omega, ?_, ?_, by omega, ?_, by omega⟩
  · rw [ha]; exact elems_get d e c r
  · rw [w64_id (by omega) (by omega), len_app]; simp [len]
  · rw [app_assoc]; exact ha.symm
theorem od_end {a d : Od} (ha : a = d.app nil) : ¬ ((d.len : Int) < (a.len : Int)) ∧ a = d := by
  rw [app_nil] at ha; subst ha; exact ⟨by omega, rfl⟩

theorem in_ok (n lo hi : Int) : Ct Try.prog 50 [.int .i64 n, .int .i64 lo, .int .i64 hi] [] (.bool (inB n lo hi)) [] := by
  refine Ct.by_ hmix [] Try.func50 rfl ?_
  simp only [run0, run1, run2, run3, run4, run5, run6, run7, run8, run9, run10, run11, run12, run13, run14, run15, run16, run17, run18, run19, run20, run21, run22, reduceCtorEq, Nat.reduceEqDiff, Nat.reduceAdd, Nat.reduceSub, Nat.reduceLeDiff, indexAddrA, indexRefA, appendA, strA, Nat.reduceMul, Nat.zero_mul, Nat.reduceMod, Int.reduceEq, Int.reduceLT, Int.reduceLE, Nat.reduceLT, Nat.lt_irrefl, Nat.reduceBEq, tys0, tys1, tys2, tys3, tys4, tys5, tys6, tys7, tys8, tys9, tys10, tys11, tys12, tys13, tys14, tys15, tys16, tys17, tys18, Try.ntmps50, Try.results50]
  refine Rg.split (fun h => ?_) (fun h => ?_) <;> simp only [run0, run1, run2, run3, run4, run5, run6, run7, run8, run9, run10, run11, run12, run13, run14, run15, run16, run17, run18, run19, run20, run21, run22, reduceCtorEq, Nat.reduceEqDiff, Nat.reduceAdd, Nat.reduceSub, Nat.reduceLeDiff, indexAddrA, indexRefA, appendA, strA, Nat.reduceMul, Nat.zero_mul, Nat.reduceMod, Int.reduceEq, Int.reduceLT, Int.reduceLE, Nat.reduceLT, Nat.lt_irrefl, Nat.reduceBEq, tys0, tys1, tys2, tys3, tys4, tys5, tys6, tys7, tys8, tys9, tys10, tys11, tys12, tys13, tys14, tys15, tys16, tys17, tys18, Try.ntmps50, Try.results50, h] <;> exact Fin.eq (by simp [inB, h]) rfl
theorem l1In_ok (n lo hi : Int) : Ct Try.prog 59 [.int .i64 n, .int .i64 lo, .int .i64 hi] [] (.bool (inB n lo hi)) [] := by
  refine Ct.by_ hmix [] Try.func59 rfl ?_
  simp only [run0, run1, run2, run3, run4, run5, run6, run7, run8, run9, run10, run11, run12, run13, run14, run15, run16, run17, run18, run19, run20, run21, run22, reduceCtorEq, Nat.reduceEqDiff, Nat.reduceAdd, Nat.reduceSub, Nat.reduceLeDiff, indexAddrA, indexRefA, appendA, strA, Nat.reduceMul, Nat.zero_mul, Nat.reduceMod, Int.reduceEq, Int.reduceLT, Int.reduceLE, Nat.reduceLT, Nat.lt_irrefl, Nat.reduceBEq, tys0, tys1, tys2, tys3, tys4, tys5, tys6, tys7, tys8, tys9, tys10, tys11, tys12, tys13, tys14, tys15, tys16, tys17, tys18, Try.ntmps59, Try.results59]
  refine Rg.split (fun h => ?_) (fun h => ?_) <;> simp only [run0, run1, run2, run3, run4, run5, run6, run7, run8, run9, run10, run11, run12, run13, run14, run15, run16, run17, run18, run19, run20, run21, run22, reduceCtorEq, Nat.reduceEqDiff, Nat.reduceAdd, Nat.reduceSub, Nat.reduceLeDiff, indexAddrA, indexRefA, appendA, strA, Nat.reduceMul, Nat.zero_mul, Nat.reduceMod, Int.reduceEq, Int.reduceLT, Int.reduceLE, Nat.reduceLT, Nat.lt_irrefl, Nat.reduceBEq, tys0, tys1, tys2, tys3, tys4, tys5, tys6, tys7, tys8, tys9, tys10, tys11, tys12, tys13, tys14, tys15, tys16, tys17, tys18, Try.ntmps59, Try.results59, h] <;> exact Fin.eq (by simp [inB, h]) rfl
theorem compare_ok (a b : Int) : Ct Try.prog 122 [.int .i64 a, .int .i64 b] [] (.int .i64 (cmpI a b)) [] := by
  refine Ct.by_ hmix [] Try.func122 rfl ?_
  simp only [run0, run1, run2, run3, run4, run5, run6, run7, run8, run9, run10, run11, run12, run13, run14, run15, run16, run17, run18, run19, run20, run21, run22, reduceCtorEq, Nat.reduceEqDiff, Nat.reduceAdd, Nat.reduceSub, Nat.reduceLeDiff, indexAddrA, indexRefA, appendA, strA, Nat.reduceMul, Nat.zero_mul, Nat.reduceMod, Int.reduceEq, Int.reduceLT, Int.reduceLE, Nat.reduceLT, Nat.lt_irrefl, Nat.reduceBEq, tys0, tys1, tys2, tys3, tys4, tys5, tys6, tys7, tys8, tys9, tys10, tys11, tys12, tys13, tys14, tys15, tys16, tys17, tys18, Try.ntmps122, Try.results122]
  refine Wc.split (fun h => ?_) (fun h => ?_) <;> simp only [run0, run1, run2, run3, run4, run5, run6, run7, run8, run9, run10, run11, run12, run13, run14, run15, run16, run17, run18, run19, run20, run21, run22, reduceCtorEq, Nat.reduceEqDiff, Nat.reduceAdd, Nat.reduceSub, Nat.reduceLeDiff, indexAddrA, indexRefA, appendA, strA, Nat.reduceMul, Nat.zero_mul, Nat.reduceMod, Int.reduceEq, Int.reduceLT, Int.reduceLE, Nat.reduceLT, Nat.lt_irrefl, Nat.reduceBEq, tys0, tys1, tys2, tys3, tys4, tys5, tys6, tys7, tys8, tys9, tys10, tys11, tys12, tys13, tys14, tys15, tys16, tys17, tys18, Try.ntmps122, Try.results122, h]
  · simp at h; exact Fin.eq (by simp [cmpI]; omega) rfl
  · refine Wc.split (fun h2 => ?_) (fun h2 => ?_) <;> simp only [run0, run1, run2, run3, run4, run5, run6, run7, run8, run9, run10, run11, run12, run13, run14, run15, run16, run17, run18, run19, run20, run21, run22, reduceCtorEq, Nat.reduceEqDiff, Nat.reduceAdd, Nat.reduceSub, Nat.reduceLeDiff, indexAddrA, indexRefA, appendA, strA, Nat.reduceMul, Nat.zero_mul, Nat.reduceMod, Int.reduceEq, Int.reduceLT, Int.reduceLE, Nat.reduceLT, Nat.lt_irrefl, Nat.reduceBEq, tys0, tys1, tys2, tys3, tys4, tys5, tys6, tys7, tys8, tys9, tys10, tys11, tys12, tys13, tys14, tys15, tys16, tys17, tys18, Try.ntmps122, Try.results122, h2] <;> simp at h h2 <;> exact Fin.eq (by simp [cmpI]; omega) rfl
theorem l1Sign_ok (a : Int) : Ct Try.prog 105 [.int .i64 a] [] (.int .i64 (cmpI a 0)) [] := by
  refine Ct.by_ hmix [] Try.func105 rfl ?_
  simp only [run0, run1, run2, run3, run4, run5, run6, run7, run8, run9, run10, run11, run12, run13, run14, run15, run16, run17, run18, run19, run20, run21, run22, reduceCtorEq, Nat.reduceEqDiff, Nat.reduceAdd, Nat.reduceSub, Nat.reduceLeDiff, indexAddrA, indexRefA, appendA, strA, Nat.reduceMul, Nat.zero_mul, Nat.reduceMod, Int.reduceEq, Int.reduceLT, Int.reduceLE, Nat.reduceLT, Nat.lt_irrefl, Nat.reduceBEq, tys0, tys1, tys2, tys3, tys4, tys5, tys6, tys7, tys8, tys9, tys10, tys11, tys12, tys13, tys14, tys15, tys16, tys17, tys18, Try.ntmps105, Try.results105]
  refine Wc.split (fun h => ?_) (fun h => ?_) <;> simp only [run0, run1, run2, run3, run4, run5, run6, run7, run8, run9, run10, run11, run12, run13, run14, run15, run16, run17, run18, run19, run20, run21, run22, reduceCtorEq, Nat.reduceEqDiff, Nat.reduceAdd, Nat.reduceSub, Nat.reduceLeDiff, indexAddrA, indexRefA, appendA, strA, Nat.reduceMul, Nat.zero_mul, Nat.reduceMod, Int.reduceEq, Int.reduceLT, Int.reduceLE, Nat.reduceLT, Nat.lt_irrefl, Nat.reduceBEq, tys0, tys1, tys2, tys3, tys4, tys5, tys6, tys7, tys8, tys9, tys10, tys11, tys12, tys13, tys14, tys15, tys16, tys17, tys18, Try.ntmps105, Try.results105, h]
  · simp at h; exact Fin.eq (by simp [cmpI]; omega) rfl
  · refine Wc.split (fun h2 => ?_) (fun h2 => ?_) <;> simp only [run0, run1, run2, run3, run4, run5, run6, run7, run8, run9, run10, run11, run12, run13, run14, run15, run16, run17, run18, run19, run20, run21, run22, reduceCtorEq, Nat.reduceEqDiff, Nat.reduceAdd, Nat.reduceSub, Nat.reduceLeDiff, indexAddrA, indexRefA, appendA, strA, Nat.reduceMul, Nat.zero_mul, Nat.reduceMod, Int.reduceEq, Int.reduceLT, Int.reduceLE, Nat.reduceLT, Nat.lt_irrefl, Nat.reduceBEq, tys0, tys1, tys2, tys3, tys4, tys5, tys6, tys7, tys8, tys9, tys10, tys11, tys12, tys13, tys14, tys15, tys16, tys17, tys18, Try.ntmps105, Try.results105, h2] <;> simp at h h2 <;> exact Fin.eq (by simp [cmpI]; omega) rfl

theorem rng_app : ∀ {d r : Od}, rng (d.app r) → rng r
  | .nil, r, h => h
  | .cons e c d, r, h => rng_app (d := d) h.2.2.2
theorem cmpI_sub {c c' : Int} : cmpI (c - c') 0 = cmpI c c' := by unfold cmpI; omega

theorem odCmp_ok (a b : Od) (ha : a.sz ≤ 1048576) (hb : b.sz ≤ 1048576) (ra : rng a) (rb : rng b) : Ct Try.prog 68 [av a, av b] [] (.int .i64 (cmpT a b)) [] := by
  refine Ct.by_ hmix [] Try.func68 rfl ?_
  simp only [run0, run1, run2, run3, run4, run5, run6, run7, run8, run9, run10, run11, run12, run13, run14, run15, run16, run17, run18, run19, run20, run21, run22, reduceCtorEq, Nat.reduceEqDiff, Nat.reduceAdd, Nat.reduceSub, Nat.reduceLeDiff, indexAddrA, indexRefA, appendA, strA, Nat.reduceMul, Nat.zero_mul, Nat.reduceMod, Int.reduceEq, Int.reduceLT, Int.reduceLE, Nat.reduceLT, Nat.lt_irrefl, Nat.reduceBEq, tys0, tys1, tys2, tys3, tys4, tys5, tys6, tys7, tys8, tys9, tys10, tys11, tys12, tys13, tys14, tys15, tys16, tys17, tys18, Try.ntmps68, Try.results68, av, elems_length]
  refine AWp.loop_inv (ι := (Od × Od) × (Od × Od) × List AObj) (fun p => ⟨[.agg [.sl false (elems a)], .agg [.sl false (elems b)], .ptr 0 0, .ptr 1 0, .int .i64 0, .junk, .junk, .junk, .junk, .sl false (elems a), .int .i64 a.len, .int .i64 p.1.1.len, .junk, .junk, .junk, .junk, .junk, .junk, .junk, .junk, .junk, .junk, .junk, .junk, .junk, .junk, .junk, .junk, .junk, .junk, .junk, .junk, .junk, .junk, .junk, .junk, .junk, .junk, .junk, .junk, .junk, .junk, .junk, .junk, .junk, .junk, .junk, .junk, .junk, .junk, .junk, .junk, .junk, .junk, .junk, .junk, .junk, .junk, .junk, .junk], .box 24 [.sl false (elems a)] :: .box 24 [.sl false (elems b)] :: p.2.2⟩)
    (fun p => a = p.1.1.app p.1.2 ∧ b = p.2.1.1.app p.2.1.2 ∧ p.1.1.len = p.2.1.1.len ∧ cmpT p.1.2 p.2.1.2 = cmpT a b) (fun p => p.1.2.len) ((.nil, a), (.nil, b), []) ⟨rfl, rfl, rfl, rfl⟩ ⟨by simp only [len, Int.natCast_zero]; repeat constructor, rfl⟩ ?_
  rintro ⟨⟨d, r⟩, ⟨d', r'⟩, X⟩ ⟨h1, h2, h3, h4⟩
  refine W.sound hmix (E := []) ?_
  simp only at h1 h2 h3 h4
  cases r with
  | nil =>
    obtain ⟨e1, rfl⟩ := od_end h1
    simp only [run0, run1, run2, run3, run4, run5, run6, run7, run8, run9, run10, run11, run12, run13, run14, run15, run16, run17, run18, run19, run20, run21, run22, reduceCtorEq, Nat.reduceEqDiff, Nat.reduceAdd, Nat.reduceSub, Nat.reduceLeDiff, indexAddrA, indexRefA, appendA, strA, Nat.reduceMul, Nat.zero_mul, Nat.reduceMod, Int.reduceEq, Int.reduceLT, Int.reduceLE, Nat.reduceLT, Nat.lt_irrefl, Nat.reduceBEq, tys0, tys1, tys2, tys3, tys4, tys5, tys6, tys7, tys8, tys9, tys10, tys11, tys12, tys13, tys14, tys15, tys16, tys17, tys18, Try.ntmps68, Try.results68, elems_length, e1]
    cases r' with
    | nil =>
      obtain ⟨_, rfl⟩ := od_end h2
      have e2 : ¬ ((a.len : Int) < (b.len : Int)) := by omega
      simp only [run0, run1, run2, run3, run4, run5, run6, run7, run8, run9, run10, run11, run12, run13, run14, run15, run16, run17, run18, run19, run20, run21, run22, reduceCtorEq, Nat.reduceEqDiff, Nat.reduceAdd, Nat.reduceSub, Nat.reduceLeDiff, indexAddrA, indexRefA, appendA, strA, Nat.reduceMul, Nat.zero_mul, Nat.reduceMod, Int.reduceEq, Int.reduceLT, Int.reduceLE, Nat.reduceLT, Nat.lt_irrefl, Nat.reduceBEq, tys0, tys1, tys2, tys3, tys4, tys5, tys6, tys7, tys8, tys9, tys10, tys11, tys12, tys13, tys14, tys15, tys16, tys17, tys18, Try.ntmps68, Try.results68, elems_length, e2]
      exact Fin.eq (by rw [← h4]; rfl) rfl
    | cons e' c' r' =>
      have e2 := (od_step h2 hb).1
      rw [← h3] at e2
      simp only [run0, run1, run2, run3, run4, run5, run6, run7, run8, run9, run10, run11, run12, run13, run14, run15, run16, run17, run18, run19, run20, run21, run22, reduceCtorEq, Nat.reduceEqDiff, Nat.reduceAdd, Nat.reduceSub, Nat.reduceLeDiff, indexAddrA, indexRefA, appendA, strA, Nat.reduceMul, Nat.zero_mul, Nat.reduceMod, Int.reduceEq, Int.reduceLT, Int.reduceLE, Nat.reduceLT, Nat.lt_irrefl, Nat.reduceBEq, tys0, tys1, tys2, tys3, tys4, tys5, tys6, tys7, tys8, tys9, tys10, tys11, tys12, tys13, tys14, tys15, tys16, tys17, tys18, Try.ntmps68, Try.results68, elems_length, e2]
      exact Fin.eq (by rw [← h4]; rfl) rfl
  | cons e c r =>
    obtain ⟨e1, e2, e5, hlt, hn, _⟩ := od_step h1 ha
    rw [h1] at ra
    have ra := rng_app ra
    cases r' with
    | nil =>
      obtain ⟨_, rfl⟩ := od_end h2
      have e3 : ((d.len : Int) == (b.len : Int)) = true := by simp; omega
      simp only [run0, run1, run2, run3, run4, run5, run6, run7, run8, run9, run10, run11, run12, run13, run14, run15, run16, run17, run18, run19, run20, run21, run22, reduceCtorEq, Nat.reduceEqDiff, Nat.reduceAdd, Nat.reduceSub, Nat.reduceLeDiff, indexAddrA, indexRefA, appendA, strA, Nat.reduceMul, Nat.zero_mul, Nat.reduceMod, Int.reduceEq, Int.reduceLT, Int.reduceLE, Nat.reduceLT, Nat.lt_irrefl, Nat.reduceBEq, tys0, tys1, tys2, tys3, tys4, tys5, tys6, tys7, tys8, tys9, tys10, tys11, tys12, tys13, tys14, tys15, tys16, tys17, tys18, Try.ntmps68, Try.results68, elems_length, e1, e2, e3, Int.toNat_natCast, Int.natCast_nonneg]
      exact Fin.eq (by rw [← h4]; rfl) rfl
    | cons e' c' r' =>
      obtain ⟨f1, f2, f5, hlt', hn', _⟩ := od_step h2 hb
      rw [h2] at rb
      have rb := rng_app rb
      rw [← h3] at f1 f2
      have e3 : ((d.len : Int) == (b.len : Int)) = false := by simp; omega
      have hw : IntKind.i64.wrap (c - c') = c - c' := w64_id (by have := ra.1; have := rb.2.1; omega) (by have := ra.2.1; have := rb.1; omega)
      simp only [run0, run1, run2, run3, run4, run5, run6, run7, run8, run9, run10, run11, run12, run13, run14, run15, run16, run17, run18, run19, run20, run21, run22, reduceCtorEq, Nat.reduceEqDiff, Nat.reduceAdd, Nat.reduceSub, Nat.reduceLeDiff, indexAddrA, indexRefA, appendA, strA, Nat.reduceMul, Nat.zero_mul, Nat.reduceMod, Int.reduceEq, Int.reduceLT, Int.reduceLE, Nat.reduceLT, Nat.lt_irrefl, Nat.reduceBEq, tys0, tys1, tys2, tys3, tys4, tys5, tys6, tys7, tys8, tys9, tys10, tys11, tys12, tys13, tys14, tys15, tys16, tys17, tys18, Try.ntmps68, Try.results68, elems_length, e1, e2, e3, f2, Int.toNat_natCast, Int.natCast_nonneg]
      refine ⟨by kernel_rfl, ?_⟩
      refine RunL.callp rfl rfl ok_f68 (odCmp_ok e e' (by omega) (by omega) ra.2.2.1 rb.2.2.1) (by first | rfl | simp only [pureL, pureB, Bool.and_self, Bool.and_true, Bool.true_and, Od.elems_pure, Od.pay_pure, Od.av_pure]) rfl ?_
      simp only [run0, run1, run2, run3, run4, run5, run6, run7, run8, run9, run10, run11, run12, run13, run14, run15, run16, run17, run18, run19, run20, run21, run22, reduceCtorEq, Nat.reduceEqDiff, Nat.reduceAdd, Nat.reduceSub, Nat.reduceLeDiff, indexAddrA, indexRefA, appendA, strA, Nat.reduceMul, Nat.zero_mul, Nat.reduceMod, Int.reduceEq, Int.reduceLT, Int.reduceLE, Nat.reduceLT, Nat.lt_irrefl, Nat.reduceBEq, tys0, tys1, tys2, tys3, tys4, tys5, tys6, tys7, tys8, tys9, tys10, tys11, tys12, tys13, tys14, tys15, tys16, tys17, tys18, Try.ntmps68, Try.results68, elems_length, e1, e2, e3, f2, Int.toNat_natCast, Int.natCast_nonneg]
      rw [cmpT_cons] at h4
      by_cases q : cmpT e e' = 0
      · simp only [q, ne_eq, not_true_eq_false, if_false] at h4
        have q1 : (cmpT e e' != 0) = false := by simp [q]
        simp only [run0, run1, run2, run3, run4, run5, run6, run7, run8, run9, run10, run11, run12, run13, run14, run15, run16, run17, run18, run19, run20, run21, run22, reduceCtorEq, Nat.reduceEqDiff, Nat.reduceAdd, Nat.reduceSub, Nat.reduceLeDiff, indexAddrA, indexRefA, appendA, strA, Nat.reduceMul, Nat.zero_mul, Nat.reduceMod, Int.reduceEq, Int.reduceLT, Int.reduceLE, Nat.reduceLT, Nat.lt_irrefl, Nat.reduceBEq, tys0, tys1, tys2, tys3, tys4, tys5, tys6, tys7, tys8, tys9, tys10, tys11, tys12, tys13, tys14, tys15, tys16, tys17, tys18, Try.ntmps68, Try.results68, elems_length, q1, f2, Int.toNat_natCast, Int.natCast_nonneg]
        refine ⟨by kernel_rfl, ?_⟩
        by_cases qc : c = c'
        · subst qc
          simp only [ne_eq, not_true_eq_false, if_false] at h4
          simp only [run0, run1, run2, run3, run4, run5, run6, run7, run8, run9, run10, run11, run12, run13, run14, run15, run16, run17, run18, run19, run20, run21, run22, reduceCtorEq, Nat.reduceEqDiff, Nat.reduceAdd, Nat.reduceSub, Nat.reduceLeDiff, indexAddrA, indexRefA, appendA, strA, Nat.reduceMul, Nat.zero_mul, Nat.reduceMod, Int.reduceEq, Int.reduceLT, Int.reduceLE, Nat.reduceLT, Nat.lt_irrefl, Nat.reduceBEq, tys0, tys1, tys2, tys3, tys4, tys5, tys6, tys7, tys8, tys9, tys10, tys11, tys12, tys13, tys14, tys15, tys16, tys17, tys18, Try.ntmps68, Try.results68, bne_self_eq_false, e5]
          exact ⟨((d.app (cons e c nil), r), (d'.app (cons e' c nil), r'), _), ⟨hn.symm, hn'.symm, by simp only [len_app, len, h3], h4⟩, by simp [len], by repeat constructor, rfl⟩
        · simp only [qc, ne_eq, not_false_eq_true, if_true] at h4
          have q2 : (c != c') = true := by simp [qc]
          simp only [run0, run1, run2, run3, run4, run5, run6, run7, run8, run9, run10, run11, run12, run13, run14, run15, run16, run17, run18, run19, run20, run21, run22, reduceCtorEq, Nat.reduceEqDiff, Nat.reduceAdd, Nat.reduceSub, Nat.reduceLeDiff, indexAddrA, indexRefA, appendA, strA, Nat.reduceMul, Nat.zero_mul, Nat.reduceMod, Int.reduceEq, Int.reduceLT, Int.reduceLE, Nat.reduceLT, Nat.lt_irrefl, Nat.reduceBEq, tys0, tys1, tys2, tys3, tys4, tys5, tys6, tys7, tys8, tys9, tys10, tys11, tys12, tys13, tys14, tys15, tys16, tys17, tys18, Try.ntmps68, Try.results68, q2, f2, hw, Int.toNat_natCast, Int.natCast_nonneg]
          refine ⟨by kernel_rfl, ?_⟩
          refine RunL.callp rfl rfl ok_f105 (l1Sign_ok (c - c')) (by first | rfl | simp only [pureL, pureB, Bool.and_self, Bool.and_true, Bool.true_and, Od.elems_pure, Od.pay_pure, Od.av_pure]) rfl ?_
          simp only [run0, run1, run2, run3, run4, run5, run6, run7, run8, run9, run10, run11, run12, run13, run14, run15, run16, run17, run18, run19, run20, run21, run22, reduceCtorEq, Nat.reduceEqDiff, Nat.reduceAdd, Nat.reduceSub, Nat.reduceLeDiff, indexAddrA, indexRefA, appendA, strA, Nat.reduceMul, Nat.zero_mul, Nat.reduceMod, Int.reduceEq, Int.reduceLT, Int.reduceLE, Nat.reduceLT, Nat.lt_irrefl, Nat.reduceBEq, tys0, tys1, tys2, tys3, tys4, tys5, tys6, tys7, tys8, tys9, tys10, tys11, tys12, tys13, tys14, tys15, tys16, tys17, tys18, Try.ntmps68, Try.results68]
          exact Fin.eq (by rw [cmpI_sub, h4]) rfl
      · simp only [q, ne_eq, not_false_eq_true, if_true] at h4
        have q1 : (cmpT e e' != 0) = true := by simp [q]
        simp only [run0, run1, run2, run3, run4, run5, run6, run7, run8, run9, run10, run11, run12, run13, run14, run15, run16, run17, run18, run19, run20, run21, run22, reduceCtorEq, Nat.reduceEqDiff, Nat.reduceAdd, Nat.reduceSub, Nat.reduceLeDiff, indexAddrA, indexRefA, appendA, strA, Nat.reduceMul, Nat.zero_mul, Nat.reduceMod, Int.reduceEq, Int.reduceLT, Int.reduceLE, Nat.reduceLT, Nat.lt_irrefl, Nat.reduceBEq, tys0, tys1, tys2, tys3, tys4, tys5, tys6, tys7, tys8, tys9, tys10, tys11, tys12, tys13, tys14, tys15, tys16, tys17, tys18, Try.ntmps68, Try.results68, q1]
        exact Fin.eq (by rw [h4]) rfl
termination_by a.sz

end Go.Proofs.Ytphmkhaboghagaa
/-
  Ordinals: the program's comparing.
-/
namespace Go.Proofs.Ytphmkhaboghagaa
open Go K Od
set_option linter.unusedSimpArgs false
set_option linter.unusedVariables false
set_option maxHeartbeats 400000

def termQ (e e' : Od) (c c' : Int) : Int := if cmpT e e' ≠ 0 then cmpT e e' else cmpI c c'
theorem termQ_cons (e e' r r' : Od) (c c' : Int) : cmpT (cons e c r) (cons e' c' r') = if termQ e e' c c' ≠ 0 then termQ e e' c c' else cmpT r r' := by
  rw [cmpT_cons]
  unfold termQ
  by_cases q : cmpT e e' = 0
  · simp only [q, ne_eq, not_true_eq_false, if_false]
    by_cases h : c = c'
    · subst h; simp [cmpI]
    · have : ¬ cmpI c c' = 0 := by rcases cmpI_cases c c' with h2 | h2 | h2 <;> omega
      simp only [h, this, not_false_eq_true, if_true]
  · simp only [q, ne_eq, not_false_eq_true, if_true]

theorem cmpTerms_of {e e' : Od} {c c' : Int} (h : Ct Try.prog 71 [av e, av e'] [] (.int .i64 (cmpT e e')) []) :
    Ct Try.prog 108 [.agg [.sl false (elems e), .int .i64 c], .agg [.sl false (elems e'), .int .i64 c']] [] (.int .i64 (termQ e e' c c')) [] := by
  refine Ct.by_ hmix [] Try.func108 rfl ?_
  simp only [run0, run1, run2, run3, run4, run5, run6, run7, run8, run9, run10, run11, run12, run13, run14, run15, run16, run17, run18, run19, run20, run21, run22, reduceCtorEq, Nat.reduceEqDiff, Nat.reduceAdd, Nat.reduceSub, Nat.reduceLeDiff, indexAddrA, indexRefA, appendA, strA, Nat.reduceMul, Nat.zero_mul, Nat.reduceMod, Int.reduceEq, Int.reduceLT, Int.reduceLE, Nat.reduceLT, Nat.lt_irrefl, Nat.reduceBEq, tys0, tys1, tys2, tys3, tys4, tys5, tys6, tys7, tys8, tys9, tys10, tys11, tys12, tys13, tys14, tys15, tys16, tys17, tys18, Try.ntmps108, Try.results108, pay]
  refine RunL.callp rfl rfl ok_f71 (h) (by first | rfl | simp only [pureL, pureB, Bool.and_self, Bool.and_true, Bool.true_and, Od.elems_pure, Od.pay_pure, Od.av_pure]) rfl ?_
  simp only [run0, run1, run2, run3, run4, run5, run6, run7, run8, run9, run10, run11, run12, run13, run14, run15, run16, run17, run18, run19, run20, run21, run22, reduceCtorEq, Nat.reduceEqDiff, Nat.reduceAdd, Nat.reduceSub, Nat.reduceLeDiff, indexAddrA, indexRefA, appendA, strA, Nat.reduceMul, Nat.zero_mul, Nat.reduceMod, Int.reduceEq, Int.reduceLT, Int.reduceLE, Nat.reduceLT, Nat.lt_irrefl, Nat.reduceBEq, tys0, tys1, tys2, tys3, tys4, tys5, tys6, tys7, tys8, tys9, tys10, tys11, tys12, tys13, tys14, tys15, tys16, tys17, tys18, Try.ntmps108, Try.results108]
  by_cases q : cmpT e e' = 0
  · have q1 : (cmpT e e' != 0) = false := by simp [q]
    simp only [run0, run1, run2, run3, run4, run5, run6, run7, run8, run9, run10, run11, run12, run13, run14, run15, run16, run17, run18, run19, run20, run21, run22, reduceCtorEq, Nat.reduceEqDiff, Nat.reduceAdd, Nat.reduceSub, Nat.reduceLeDiff, indexAddrA, indexRefA, appendA, strA, Nat.reduceMul, Nat.zero_mul, Nat.reduceMod, Int.reduceEq, Int.reduceLT, Int.reduceLE, Nat.reduceLT, Nat.lt_irrefl, Nat.reduceBEq, tys0, tys1, tys2, tys3, tys4, tys5, tys6, tys7, tys8, tys9, tys10, tys11, tys12, tys13, tys14, tys15, tys16, tys17, tys18, Try.ntmps108, Try.results108, q1]
    refine RunL.callp rfl rfl ok_f122 (compare_ok c c') (by first | rfl | simp only [pureL, pureB, Bool.and_self, Bool.and_true, Bool.true_and, Od.elems_pure, Od.pay_pure, Od.av_pure]) rfl ?_
    simp only [run0, run1, run2, run3, run4, run5, run6, run7, run8, run9, run10, run11, run12, run13, run14, run15, run16, run17, run18, run19, run20, run21, run22, reduceCtorEq, Nat.reduceEqDiff, Nat.reduceAdd, Nat.reduceSub, Nat.reduceLeDiff, indexAddrA, indexRefA, appendA, strA, Nat.reduceMul, Nat.zero_mul, Nat.reduceMod, Int.reduceEq, Int.reduceLT, Int.reduceLE, Nat.reduceLT, Nat.lt_irrefl, Nat.reduceBEq, tys0, tys1, tys2, tys3, tys4, tys5, tys6, tys7, tys8, tys9, tys10, tys11, tys12, tys13, tys14, tys15, tys16, tys17, tys18, Try.ntmps108, Try.results108]
    exact Fin.eq (by simp [termQ, q]) rfl
  · have q1 : (cmpT e e' != 0) = true := by simp [q]
    simp only [run0, run1, run2, run3, run4, run5, run6, run7, run8, run9, run10, run11, run12, run13, run14, run15, run16, run17, run18, run19, run20, run21, run22, reduceCtorEq, Nat.reduceEqDiff, Nat.reduceAdd, Nat.reduceSub, Nat.reduceLeDiff, indexAddrA, indexRefA, appendA, strA, Nat.reduceMul, Nat.zero_mul, Nat.reduceMod, Int.reduceEq, Int.reduceLT, Int.reduceLE, Nat.reduceLT, Nat.lt_irrefl, Nat.reduceBEq, tys0, tys1, tys2, tys3, tys4, tys5, tys6, tys7, tys8, tys9, tys10, tys11, tys12, tys13, tys14, tys15, tys16, tys17, tys18, Try.ntmps108, Try.results108, q1]
    exact Fin.eq (by simp [termQ, q]) rfl

theorem compareFunc_of {a b : Od} (ha : a.sz ≤ 1048576) (hb : b.sz ≤ 1048576) (h : ∀ e e' : Od, e.sz < a.sz → e'.sz ≤ b.sz → Ct Try.prog 71 [av e, av e'] [] (.int .i64 (cmpT e e')) []) :
    Ct Try.prog 107 [.sl false (elems a), .sl false (elems b), .fn 108 []] [] (.int .i64 (cmpT a b)) [] := by
  refine Ct.by_ hmix [] Try.func107 rfl ?_
  simp only [run0, run1, run2, run3, run4, run5, run6, run7, run8, run9, run10, run11, run12, run13, run14, run15, run16, run17, run18, run19, run20, run21, run22, reduceCtorEq, Nat.reduceEqDiff, Nat.reduceAdd, Nat.reduceSub, Nat.reduceLeDiff, indexAddrA, indexRefA, appendA, strA, Nat.reduceMul, Nat.zero_mul, Nat.reduceMod, Int.reduceEq, Int.reduceLT, Int.reduceLE, Nat.reduceLT, Nat.lt_irrefl, Nat.reduceBEq, tys0, tys1, tys2, tys3, tys4, tys5, tys6, tys7, tys8, tys9, tys10, tys11, tys12, tys13, tys14, tys15, tys16, tys17, tys18, Try.ntmps107, Try.results107, elems_length]
  refine AWp.loop_inv (ι := (Od × Od) × (Od × Od) × List AObj) (fun p => ⟨[.sl false (elems a), .sl false (elems b), .fn 108 [], .junk, .junk, .junk, .int .i64 0, .junk, .junk, .junk, .junk, .sl false (elems a), .int .i64 a.len, .int .i64 p.1.1.len, .junk, .junk, .junk, .junk, .junk, .junk, .junk, .junk, .junk, .junk, .junk, .junk, .junk, .junk, .junk, .junk, .junk, .junk, .junk, .junk, .junk, .junk, .junk, .junk, .junk], p.2.2⟩)
    (fun p => a = p.1.1.app p.1.2 ∧ b = p.2.1.1.app p.2.1.2 ∧ p.1.1.len = p.2.1.1.len ∧ cmpT p.1.2 p.2.1.2 = cmpT a b) (fun p => p.1.2.len) ((.nil, a), (.nil, b), []) ⟨rfl, rfl, rfl, rfl⟩ ⟨by simp only [len, Int.natCast_zero]; repeat constructor, rfl⟩ ?_
  rintro ⟨⟨d, r⟩, ⟨d', r'⟩, X⟩ ⟨h1, h2, h3, h4⟩
  refine W.sound hmix (E := []) ?_
  simp only at h1 h2 h3 h4
  cases r with
  | nil =>
    obtain ⟨e1, rfl⟩ := od_end h1
    simp only [run0, run1, run2, run3, run4, run5, run6, run7, run8, run9, run10, run11, run12, run13, run14, run15, run16, run17, run18, run19, run20, run21, run22, reduceCtorEq, Nat.reduceEqDiff, Nat.reduceAdd, Nat.reduceSub, Nat.reduceLeDiff, indexAddrA, indexRefA, appendA, strA, Nat.reduceMul, Nat.zero_mul, Nat.reduceMod, Int.reduceEq, Int.reduceLT, Int.reduceLE, Nat.reduceLT, Nat.lt_irrefl, Nat.reduceBEq, tys0, tys1, tys2, tys3, tys4, tys5, tys6, tys7, tys8, tys9, tys10, tys11, tys12, tys13, tys14, tys15, tys16, tys17, tys18, Try.ntmps107, Try.results107, elems_length, e1]
    cases r' with
    | nil =>
      obtain ⟨_, rfl⟩ := od_end h2
      have e2 : ¬ ((a.len : Int) < (b.len : Int)) := by omega
      simp only [run0, run1, run2, run3, run4, run5, run6, run7, run8, run9, run10, run11, run12, run13, run14, run15, run16, run17, run18, run19, run20, run21, run22, reduceCtorEq, Nat.reduceEqDiff, Nat.reduceAdd, Nat.reduceSub, Nat.reduceLeDiff, indexAddrA, indexRefA, appendA, strA, Nat.reduceMul, Nat.zero_mul, Nat.reduceMod, Int.reduceEq, Int.reduceLT, Int.reduceLE, Nat.reduceLT, Nat.lt_irrefl, Nat.reduceBEq, tys0, tys1, tys2, tys3, tys4, tys5, tys6, tys7, tys8, tys9, tys10, tys11, tys12, tys13, tys14, tys15, tys16, tys17, tys18, Try.ntmps107, Try.results107, elems_length, e2]
      exact Fin.eq (by rw [← h4]; rfl) rfl
    | cons e' c' r' =>
      have e2 := (od_step h2 hb).1
      rw [← h3] at e2
      simp only [run0, run1, run2, run3, run4, run5, run6, run7, run8, run9, run10, run11, run12, run13, run14, run15, run16, run17, run18, run19, run20, run21, run22, reduceCtorEq, Nat.reduceEqDiff, Nat.reduceAdd, Nat.reduceSub, Nat.reduceLeDiff, indexAddrA, indexRefA, appendA, strA, Nat.reduceMul, Nat.zero_mul, Nat.reduceMod, Int.reduceEq, Int.reduceLT, Int.reduceLE, Nat.reduceLT, Nat.lt_irrefl, Nat.reduceBEq, tys0, tys1, tys2, tys3, tys4, tys5, tys6, tys7, tys8, tys9, tys10, tys11, tys12, tys13, tys14, tys15, tys16, tys17, tys18, Try.ntmps107, Try.results107, elems_length, e2]
      exact Fin.eq (by rw [← h4]; rfl) rfl
  | cons e c r =>
    obtain ⟨e1, e2, e5, hlt, hn, _⟩ := od_step h1 ha
    cases r' with
    | nil =>
      obtain ⟨_, rfl⟩ := od_end h2
      have e3 : (b.len : Int) ≤ (d.len : Int) := by omega
      simp only [run0, run1, run2, run3, run4, run5, run6, run7, run8, run9, run10, run11, run12, run13, run14, run15, run16, run17, run18, run19, run20, run21, run22, reduceCtorEq, Nat.reduceEqDiff, Nat.reduceAdd, Nat.reduceSub, Nat.reduceLeDiff, indexAddrA, indexRefA, appendA, strA, Nat.reduceMul, Nat.zero_mul, Nat.reduceMod, Int.reduceEq, Int.reduceLT, Int.reduceLE, Nat.reduceLT, Nat.lt_irrefl, Nat.reduceBEq, tys0, tys1, tys2, tys3, tys4, tys5, tys6, tys7, tys8, tys9, tys10, tys11, tys12, tys13, tys14, tys15, tys16, tys17, tys18, Try.ntmps107, Try.results107, elems_length, e1, e2, e3, Int.toNat_natCast, Int.natCast_nonneg]
      exact Fin.eq (by rw [← h4]; rfl) rfl
    | cons e' c' r' =>
      obtain ⟨f1, f2, f5, hlt', hn', _⟩ := od_step h2 hb
      rw [← h3] at f1 f2
      have e3 : ¬ ((b.len : Int) ≤ (d.len : Int)) := by omega
      simp only [run0, run1, run2, run3, run4, run5, run6, run7, run8, run9, run10, run11, run12, run13, run14, run15, run16, run17, run18, run19, run20, run21, run22, reduceCtorEq, Nat.reduceEqDiff, Nat.reduceAdd, Nat.reduceSub, Nat.reduceLeDiff, indexAddrA, indexRefA, appendA, strA, Nat.reduceMul, Nat.zero_mul, Nat.reduceMod, Int.reduceEq, Int.reduceLT, Int.reduceLE, Nat.reduceLT, Nat.lt_irrefl, Nat.reduceBEq, tys0, tys1, tys2, tys3, tys4, tys5, tys6, tys7, tys8, tys9, tys10, tys11, tys12, tys13, tys14, tys15, tys16, tys17, tys18, Try.ntmps107, Try.results107, elems_length, e1, e2, e3, f2, Int.toNat_natCast, Int.natCast_nonneg]
      refine RunL.callcp rfl rfl rfl ok_f108 rfl (cmpTerms_of (c := c) (c' := c') (h e e' hlt (by omega))) (by first | rfl | simp only [pureL, pureB, Bool.and_self, Bool.and_true, Bool.true_and, Od.elems_pure, Od.pay_pure, Od.av_pure]) rfl ?_
      simp only [run0, run1, run2, run3, run4, run5, run6, run7, run8, run9, run10, run11, run12, run13, run14, run15, run16, run17, run18, run19, run20, run21, run22, reduceCtorEq, Nat.reduceEqDiff, Nat.reduceAdd, Nat.reduceSub, Nat.reduceLeDiff, indexAddrA, indexRefA, appendA, strA, Nat.reduceMul, Nat.zero_mul, Nat.reduceMod, Int.reduceEq, Int.reduceLT, Int.reduceLE, Nat.reduceLT, Nat.lt_irrefl, Nat.reduceBEq, tys0, tys1, tys2, tys3, tys4, tys5, tys6, tys7, tys8, tys9, tys10, tys11, tys12, tys13, tys14, tys15, tys16, tys17, tys18, Try.ntmps107, Try.results107]
      rw [termQ_cons] at h4
      by_cases q : termQ e e' c c' = 0
      · simp only [q, ne_eq, not_true_eq_false, if_false] at h4
        have q1 : (termQ e e' c c' != 0) = false := by simp [q]
        simp only [run0, run1, run2, run3, run4, run5, run6, run7, run8, run9, run10, run11, run12, run13, run14, run15, run16, run17, run18, run19, run20, run21, run22, reduceCtorEq, Nat.reduceEqDiff, Nat.reduceAdd, Nat.reduceSub, Nat.reduceLeDiff, indexAddrA, indexRefA, appendA, strA, Nat.reduceMul, Nat.zero_mul, Nat.reduceMod, Int.reduceEq, Int.reduceLT, Int.reduceLE, Nat.reduceLT, Nat.lt_irrefl, Nat.reduceBEq, tys0, tys1, tys2, tys3, tys4, tys5, tys6, tys7, tys8, tys9, tys10, tys11, tys12, tys13, tys14, tys15, tys16, tys17, tys18, Try.ntmps107, Try.results107, q1, e5]
        exact ⟨((d.app (cons e c nil), r), (d'.app (cons e' c' nil), r'), _), ⟨hn.symm, hn'.symm, by simp only [len_app, len, h3], h4⟩, by simp [len], by repeat constructor, rfl⟩
      · simp only [q, ne_eq, not_false_eq_true, if_true] at h4
        have q1 : (termQ e e' c c' != 0) = true := by simp [q]
        simp only [run0, run1, run2, run3, run4, run5, run6, run7, run8, run9, run10, run11, run12, run13, run14, run15, run16, run17, run18, run19, run20, run21, run22, reduceCtorEq, Nat.reduceEqDiff, Nat.reduceAdd, Nat.reduceSub, Nat.reduceLeDiff, indexAddrA, indexRefA, appendA, strA, Nat.reduceMul, Nat.zero_mul, Nat.reduceMod, Int.reduceEq, Int.reduceLT, Int.reduceLE, Nat.reduceLT, Nat.lt_irrefl, Nat.reduceBEq, tys0, tys1, tys2, tys3, tys4, tys5, tys6, tys7, tys8, tys9, tys10, tys11, tys12, tys13, tys14, tys15, tys16, tys17, tys18, Try.ntmps107, Try.results107, q1]
        exact Fin.eq (by rw [h4]) rfl

theorem cmp_ok (a b : Od) (ha : a.sz ≤ 1048576) (hb : b.sz ≤ 1048576) : Ct Try.prog 71 [av a, av b] [] (.int .i64 (cmpT a b)) [] := by
  refine Ct.by_ hmix [] Try.func71 rfl ?_
  simp only [run0, run1, run2, run3, run4, run5, run6, run7, run8, run9, run10, run11, run12, run13, run14, run15, run16, run17, run18, run19, run20, run21, run22, reduceCtorEq, Nat.reduceEqDiff, Nat.reduceAdd, Nat.reduceSub, Nat.reduceLeDiff, indexAddrA, indexRefA, appendA, strA, Nat.reduceMul, Nat.zero_mul, Nat.reduceMod, Int.reduceEq, Int.reduceLT, Int.reduceLE, Nat.reduceLT, Nat.lt_irrefl, Nat.reduceBEq, tys0, tys1, tys2, tys3, tys4, tys5, tys6, tys7, tys8, tys9, tys10, tys11, tys12, tys13, tys14, tys15, tys16, tys17, tys18, Try.ntmps71, Try.results71, av]
  refine RunL.callp rfl rfl ok_f107 (compareFunc_of ha hb (fun e e' h1 h2 => cmp_ok e e' (by omega) (by omega))) (by first | rfl | simp only [pureL, pureB, Bool.and_self, Bool.and_true, Bool.true_and, Od.elems_pure, Od.pay_pure, Od.av_pure]) rfl ?_
  simp only [run0, run1, run2, run3, run4, run5, run6, run7, run8, run9, run10, run11, run12, run13, run14, run15, run16, run17, run18, run19, run20, run21, run22, reduceCtorEq, Nat.reduceEqDiff, Nat.reduceAdd, Nat.reduceSub, Nat.reduceLeDiff, indexAddrA, indexRefA, appendA, strA, Nat.reduceMul, Nat.zero_mul, Nat.reduceMod, Int.reduceEq, Int.reduceLT, Int.reduceLE, Nat.reduceLT, Nat.lt_irrefl, Nat.reduceBEq, tys0, tys1, tys2, tys3, tys4, tys5, tys6, tys7, tys8, tys9, tys10, tys11, tys12, tys13, tys14, tys15, tys16, tys17, tys18, Try.ntmps71, Try.results71]
  exact Fin.eq rfl rfl
termination_by a.sz

end Go.Proofs.Ytphmkhaboghagaa
/-
  Ordinals: which are right, by the reference.
-/
namespace Go.Proofs.Ytphmkhaboghagaa
open Go K Od
set_option linter.unusedSimpArgs false
set_option linter.unusedVariables false
set_option maxHeartbeats 400000

theorem leftL_lo : ∀ (a : Od) (n : Nat) (l B : Int), -3 ≤ l → l ≤ B → 0 ≤ B → -3 ≤ leftL a n l ∧ leftL a n l ≤ B
  | .nil, n, l, B, h1, h2, _ => ⟨h1, h2⟩
  | .cons e c r, n, l, B, h1, h2, h3 => by
    unfold leftL
    split
    · omega
    · have := leftL_lo e (n - 1) (l - 2) B (by omega) (by omega) h3
      exact leftL_lo r n _ B this.1 this.2 h3

theorem odLeft_ok (a : Od) (n : Nat) (l : Int) (hs : a.sz ≤ 1048576) (hn : n ≤ 6) (h0 : -2 ≤ l) (h1 : l ≤ 1000) : Ct Try.prog 95 [av a, .int .i64 n, .int .i64 l] [] (.int .i64 (leftL a n (l - 1))) [] := by
  refine Ct.by_ hmix [] Try.func95 rfl ?_
  have hw : IntKind.i64.wrap (l - 1) = l - 1 := w64_id (by omega) (by omega)
  simp only [run0, run1, run2, run3, run4, run5, run6, run7, run8, run9, run10, run11, run12, run13, run14, run15, run16, run17, run18, run19, run20, run21, run22, reduceCtorEq, Nat.reduceEqDiff, Nat.reduceAdd, Nat.reduceSub, Nat.reduceLeDiff, indexAddrA, indexRefA, appendA, strA, Nat.reduceMul, Nat.zero_mul, Nat.reduceMod, Int.reduceEq, Int.reduceLT, Int.reduceLE, Nat.reduceLT, Nat.lt_irrefl, Nat.reduceBEq, tys0, tys1, tys2, tys3, tys4, tys5, tys6, tys7, tys8, tys9, tys10, tys11, tys12, tys13, tys14, tys15, tys16, tys17, tys18, Try.ntmps95, Try.results95, av, elems_length, hw]
  refine AWp.loop_inv (ι := Od × Od × Int × List AObj) (fun p => ⟨[.agg [.sl false (elems a)], .int .i64 n, .int .i64 p.2.2.1, .ptr 0 0, .junk, .junk, .int .i64 0, .junk, .junk, .junk, .junk, .junk, .sl false (elems a), .int .i64 a.len, .int .i64 p.1.len, .junk, .junk, .junk, .junk, .junk, .junk, .junk, .junk, .junk, .junk, .junk, .junk, .junk, .junk, .junk, .junk, .junk, .junk], .box 24 [.sl false (elems a)] :: p.2.2.2⟩)
    (fun p => a = p.1.app p.2.1 ∧ leftL p.2.1 n p.2.2.1 = leftL a n (l - 1) ∧ -3 ≤ p.2.2.1 ∧ p.2.2.1 ≤ 1000) (fun p => p.2.1.len) (.nil, a, l - 1, []) ⟨rfl, rfl, by simp only; omega, by simp only; omega⟩ ⟨by simp only [len, Int.natCast_zero]; repeat constructor, rfl⟩ ?_
  rintro ⟨d, r, l', X⟩ ⟨ha, h2, h3, h4⟩
  refine W.sound hmix (E := []) ?_
  simp only at ha h2 h3 h4
  cases r with
  | nil =>
    obtain ⟨e1, rfl⟩ := od_end ha
    simp only [run0, run1, run2, run3, run4, run5, run6, run7, run8, run9, run10, run11, run12, run13, run14, run15, run16, run17, run18, run19, run20, run21, run22, reduceCtorEq, Nat.reduceEqDiff, Nat.reduceAdd, Nat.reduceSub, Nat.reduceLeDiff, indexAddrA, indexRefA, appendA, strA, Nat.reduceMul, Nat.zero_mul, Nat.reduceMod, Int.reduceEq, Int.reduceLT, Int.reduceLE, Nat.reduceLT, Nat.lt_irrefl, Nat.reduceBEq, tys0, tys1, tys2, tys3, tys4, tys5, tys6, tys7, tys8, tys9, tys10, tys11, tys12, tys13, tys14, tys15, tys16, tys17, tys18, Try.ntmps95, Try.results95, elems_length, e1]
    exact Fin.eq (by rw [← h2]; rfl) rfl
  | cons e c r =>
    obtain ⟨e1, e2, e5, hlt, hnx, _⟩ := od_step ha hs
    rw [leftL_cons] at h2
    by_cases hl : l' < 0
    · rw [if_pos (.inl hl)] at h2
      simp only [run0, run1, run2, run3, run4, run5, run6, run7, run8, run9, run10, run11, run12, run13, run14, run15, run16, run17, run18, run19, run20, run21, run22, reduceCtorEq, Nat.reduceEqDiff, Nat.reduceAdd, Nat.reduceSub, Nat.reduceLeDiff, indexAddrA, indexRefA, appendA, strA, Nat.reduceMul, Nat.zero_mul, Nat.reduceMod, Int.reduceEq, Int.reduceLT, Int.reduceLE, Nat.reduceLT, Nat.lt_irrefl, Nat.reduceBEq, tys0, tys1, tys2, tys3, tys4, tys5, tys6, tys7, tys8, tys9, tys10, tys11, tys12, tys13, tys14, tys15, tys16, tys17, tys18, Try.ntmps95, Try.results95, elems_length, e1, e2, hl, Int.toNat_natCast, Int.natCast_nonneg]
      exact Fin.eq (by rw [← h2]) rfl
    cases n with
    | zero =>
      rw [if_pos (.inr rfl)] at h2
      simp only [run0, run1, run2, run3, run4, run5, run6, run7, run8, run9, run10, run11, run12, run13, run14, run15, run16, run17, run18, run19, run20, run21, run22, reduceCtorEq, Nat.reduceEqDiff, Nat.reduceAdd, Nat.reduceSub, Nat.reduceLeDiff, indexAddrA, indexRefA, appendA, strA, Nat.reduceMul, Nat.zero_mul, Nat.reduceMod, Int.reduceEq, Int.reduceLT, Int.reduceLE, Nat.reduceLT, Nat.lt_irrefl, Nat.reduceBEq, tys0, tys1, tys2, tys3, tys4, tys5, tys6, tys7, tys8, tys9, tys10, tys11, tys12, tys13, tys14, tys15, tys16, tys17, tys18, Try.ntmps95, Try.results95, elems_length, e1, e2, hl, Int.toNat_natCast, Int.natCast_nonneg, Int.natCast_zero]
      exact Fin.eq (by rw [← h2]) rfl
    | succ n =>
      rw [if_neg (by omega)] at h2
      have hn0 : (((n + 1 : Nat) : Int) == 0) = false := by simp; omega
      have w1 : IntKind.i64.wrap (((n + 1 : Nat) : Int) - 1) = (n : Int) := by rw [w64_id (by omega) (by omega)]; omega
      have w2 : IntKind.i64.wrap (l' - 1) = l' - 1 := w64_id (by omega) (by omega)
      have hb := leftL_lo e n (l' - 2) 1000 (by omega) (by omega) (by omega)
      simp only [run0, run1, run2, run3, run4, run5, run6, run7, run8, run9, run10, run11, run12, run13, run14, run15, run16, run17, run18, run19, run20, run21, run22, reduceCtorEq, Nat.reduceEqDiff, Nat.reduceAdd, Nat.reduceSub, Nat.reduceLeDiff, indexAddrA, indexRefA, appendA, strA, Nat.reduceMul, Nat.zero_mul, Nat.reduceMod, Int.reduceEq, Int.reduceLT, Int.reduceLE, Nat.reduceLT, Nat.lt_irrefl, Nat.reduceBEq, tys0, tys1, tys2, tys3, tys4, tys5, tys6, tys7, tys8, tys9, tys10, tys11, tys12, tys13, tys14, tys15, tys16, tys17, tys18, Try.ntmps95, Try.results95, elems_length, e1, e2, hl, hn0, w1, w2, Int.toNat_natCast, Int.natCast_nonneg]
      refine RunL.callp rfl rfl ok_f95 (odLeft_ok e n (l' - 1) (by omega) (by omega) (by omega) (by omega)) (by first | rfl | simp only [pureL, pureB, Bool.and_self, Bool.and_true, Bool.true_and, Od.elems_pure, Od.pay_pure, Od.av_pure]) rfl ?_
      simp only [run0, run1, run2, run3, run4, run5, run6, run7, run8, run9, run10, run11, run12, run13, run14, run15, run16, run17, run18, run19, run20, run21, run22, reduceCtorEq, Nat.reduceEqDiff, Nat.reduceAdd, Nat.reduceSub, Nat.reduceLeDiff, indexAddrA, indexRefA, appendA, strA, Nat.reduceMul, Nat.zero_mul, Nat.reduceMod, Int.reduceEq, Int.reduceLT, Int.reduceLE, Nat.reduceLT, Nat.lt_irrefl, Nat.reduceBEq, tys0, tys1, tys2, tys3, tys4, tys5, tys6, tys7, tys8, tys9, tys10, tys11, tys12, tys13, tys14, tys15, tys16, tys17, tys18, Try.ntmps95, Try.results95, e5]
      exact ⟨(d.app (cons e c nil), r, leftL e n (l' - 1 - 1), _), ⟨hnx.symm, by rw [← h2, show l' - 1 - 1 = l' - 2 by omega]; rfl, by rw [show l' - 1 - 1 = l' - 2 by omega]; exact hb.1, by rw [show l' - 1 - 1 = l' - 2 by omega]; exact hb.2⟩, by simp [len], by repeat constructor, rfl⟩
termination_by a.sz

theorem odForm_neg (a : Od) : Ct Try.prog 96 [av a, .int .i64 (-1)] [] (.bool false) [] := by
  refine Ct.by_ hmix [] Try.func96 rfl ?_
  simp only [run0, run1, run2, run3, run4, run5, run6, run7, run8, run9, run10, run11, run12, run13, run14, run15, run16, run17, run18, run19, run20, run21, run22, reduceCtorEq, Nat.reduceEqDiff, Nat.reduceAdd, Nat.reduceSub, Nat.reduceLeDiff, indexAddrA, indexRefA, appendA, strA, Nat.reduceMul, Nat.zero_mul, Nat.reduceMod, Int.reduceEq, Int.reduceLT, Int.reduceLE, Nat.reduceLT, Nat.lt_irrefl, Nat.reduceBEq, tys0, tys1, tys2, tys3, tys4, tys5, tys6, tys7, tys8, tys9, tys10, tys11, tys12, tys13, tys14, tys15, tys16, tys17, tys18, Try.ntmps96, Try.results96, av, elems_length, Int.reduceLT]
  exact Fin.eq rfl rfl

/-- The term ahead. -/
def Ahead (d : Od) : Option (Od × Od × Int) → Prop
  | none => d = nil
  | some (d0, p, c) => d = d0.app (cons p c nil)
def aheadE : Option (Od × Od × Int) → Option Od
  | none => none
  | some (_, p, _) => some p

theorem odForm_ok (a : Od) (n : Nat) (hs : a.sz ≤ 1048576) (hn : n ≤ 6) : Ct Try.prog 96 [av a, .int .i64 n] [] (.bool (formG a n none)) [] := by
  refine Ct.by_ hmix [] Try.func96 rfl ?_
  have hn0 : ¬ ((n : Int) < 0) := by omega
  simp only [run0, run1, run2, run3, run4, run5, run6, run7, run8, run9, run10, run11, run12, run13, run14, run15, run16, run17, run18, run19, run20, run21, run22, reduceCtorEq, Nat.reduceEqDiff, Nat.reduceAdd, Nat.reduceSub, Nat.reduceLeDiff, indexAddrA, indexRefA, appendA, strA, Nat.reduceMul, Nat.zero_mul, Nat.reduceMod, Int.reduceEq, Int.reduceLT, Int.reduceLE, Nat.reduceLT, Nat.lt_irrefl, Nat.reduceBEq, tys0, tys1, tys2, tys3, tys4, tys5, tys6, tys7, tys8, tys9, tys10, tys11, tys12, tys13, tys14, tys15, tys16, tys17, tys18, Try.ntmps96, Try.results96, av, elems_length, hn0]
  refine AWp.loop_inv (ι := Od × Od × Option (Od × Od × Int) × List AObj) (fun p => ⟨[.agg [.sl false (elems a)], .int .i64 n, .ptr 0 0, .junk, .bool false, .junk, .junk, .junk, .junk, .junk, .sl false (elems a), .int .i64 a.len, .int .i64 p.1.len, .junk, .junk, .junk, .junk, .junk, .junk, .junk, .junk, .junk, .junk, .junk, .junk, .junk, .junk, .junk, .junk, .junk, .junk, .junk, .junk, .junk, .junk, .junk, .junk, .junk, .junk, .junk, .junk, .junk, .junk, .junk, .junk, .junk, .junk], .box 24 [.sl false (elems a)] :: p.2.2.2⟩)
    (fun p => a = p.1.app p.2.1 ∧ Ahead p.1 p.2.2.1 ∧ formG p.2.1 n (aheadE p.2.2.1) = formG a n none ∧ (formG a n none = true → rng a) ∧ (∀ d0 q c, p.2.2.1 = some (d0, q, c) → rng q ∧ q.sz < a.sz)) (fun p => p.2.1.len) (.nil, a, none, []) ⟨rfl, rfl, rfl, formG_rng, by intro _ _ _ h; cases h⟩ ⟨by simp only [len, Int.natCast_zero]; repeat constructor, rfl⟩ ?_
  rintro ⟨d, r, P, X⟩ ⟨ha, hA, h2, hr, hq⟩
  refine W.sound hmix (E := []) ?_
  simp only at ha hA h2 hr hq
  cases r with
  | nil =>
    obtain ⟨e1, rfl⟩ := od_end ha
    simp only [run0, run1, run2, run3, run4, run5, run6, run7, run8, run9, run10, run11, run12, run13, run14, run15, run16, run17, run18, run19, run20, run21, run22, reduceCtorEq, Nat.reduceEqDiff, Nat.reduceAdd, Nat.reduceSub, Nat.reduceLeDiff, indexAddrA, indexRefA, appendA, strA, Nat.reduceMul, Nat.zero_mul, Nat.reduceMod, Int.reduceEq, Int.reduceLT, Int.reduceLE, Nat.reduceLT, Nat.lt_irrefl, Nat.reduceBEq, tys0, tys1, tys2, tys3, tys4, tys5, tys6, tys7, tys8, tys9, tys10, tys11, tys12, tys13, tys14, tys15, tys16, tys17, tys18, Try.ntmps96, Try.results96, elems_length, e1]
    exact Fin.eq (by rw [← h2]; rfl) rfl
  | cons e c r =>
    obtain ⟨e1, e2, e5, hlt, hnx, _⟩ := od_step ha hs
    simp only [run0, run1, run2, run3, run4, run5, run6, run7, run8, run9, run10, run11, run12, run13, run14, run15, run16, run17, run18, run19, run20, run21, run22, reduceCtorEq, Nat.reduceEqDiff, Nat.reduceAdd, Nat.reduceSub, Nat.reduceLeDiff, indexAddrA, indexRefA, appendA, strA, Nat.reduceMul, Nat.zero_mul, Nat.reduceMod, Int.reduceEq, Int.reduceLT, Int.reduceLE, Nat.reduceLT, Nat.lt_irrefl, Nat.reduceBEq, tys0, tys1, tys2, tys3, tys4, tys5, tys6, tys7, tys8, tys9, tys10, tys11, tys12, tys13, tys14, tys15, tys16, tys17, tys18, Try.ntmps96, Try.results96, elems_length, e1, e2, Int.toNat_natCast, Int.natCast_nonneg]
    refine ⟨by kernel_rfl, ?_⟩
    refine RunL.callp rfl rfl ok_f59 (l1In_ok c 1 1000000) (by first | rfl | simp only [pureL, pureB, Bool.and_self, Bool.and_true, Bool.true_and, Od.elems_pure, Od.pay_pure, Od.av_pure]) rfl ?_
    cases hc : inB c 1 1000000
    · have hf : formG a n none = false := by rw [← h2]; simp [formG_cons, hc]
      simp only [run0, run1, run2, run3, run4, run5, run6, run7, run8, run9, run10, run11, run12, run13, run14, run15, run16, run17, run18, run19, run20, run21, run22, reduceCtorEq, Nat.reduceEqDiff, Nat.reduceAdd, Nat.reduceSub, Nat.reduceLeDiff, indexAddrA, indexRefA, appendA, strA, Nat.reduceMul, Nat.zero_mul, Nat.reduceMod, Int.reduceEq, Int.reduceLT, Int.reduceLE, Nat.reduceLT, Nat.lt_irrefl, Nat.reduceBEq, tys0, tys1, tys2, tys3, tys4, tys5, tys6, tys7, tys8, tys9, tys10, tys11, tys12, tys13, tys14, tys15, tys16, tys17, tys18, Try.ntmps96, Try.results96, hc]
      exact Fin.eq (by rw [hf]) rfl
    have hce : Ct Try.prog 96 [av e, .int .i64 (IntKind.i64.wrap ((n : Int) - 1))] [] (.bool (formP e n)) [] := by
      cases n with
      | zero => rw [show IntKind.i64.wrap (((0 : Nat) : Int) - 1) = -1 from rfl]; exact odForm_neg e
      | succ n =>
        rw [show IntKind.i64.wrap (((n + 1 : Nat) : Int) - 1) = (n : Int) by rw [w64_id (by omega) (by omega)]; omega]
        exact odForm_ok e n (by omega) (by omega)
    rw [formG_cons, hc] at h2
    simp only [Bool.true_and] at h2
    simp only [run0, run1, run2, run3, run4, run5, run6, run7, run8, run9, run10, run11, run12, run13, run14, run15, run16, run17, run18, run19, run20, run21, run22, reduceCtorEq, Nat.reduceEqDiff, Nat.reduceAdd, Nat.reduceSub, Nat.reduceLeDiff, indexAddrA, indexRefA, appendA, strA, Nat.reduceMul, Nat.zero_mul, Nat.reduceMod, Int.reduceEq, Int.reduceLT, Int.reduceLE, Nat.reduceLT, Nat.lt_irrefl, Nat.reduceBEq, tys0, tys1, tys2, tys3, tys4, tys5, tys6, tys7, tys8, tys9, tys10, tys11, tys12, tys13, tys14, tys15, tys16, tys17, tys18, Try.ntmps96, Try.results96, hc]
    refine RunL.callp rfl rfl ok_f96 (hce) (by first | rfl | simp only [pureL, pureB, Bool.and_self, Bool.and_true, Bool.true_and, Od.elems_pure, Od.pay_pure, Od.av_pure]) rfl ?_
    cases hqe : formP e n
    · have hf : formG a n none = false := by rw [← h2]; simp [hqe]
      simp only [run0, run1, run2, run3, run4, run5, run6, run7, run8, run9, run10, run11, run12, run13, run14, run15, run16, run17, run18, run19, run20, run21, run22, reduceCtorEq, Nat.reduceEqDiff, Nat.reduceAdd, Nat.reduceSub, Nat.reduceLeDiff, indexAddrA, indexRefA, appendA, strA, Nat.reduceMul, Nat.zero_mul, Nat.reduceMod, Int.reduceEq, Int.reduceLT, Int.reduceLE, Nat.reduceLT, Nat.lt_irrefl, Nat.reduceBEq, tys0, tys1, tys2, tys3, tys4, tys5, tys6, tys7, tys8, tys9, tys10, tys11, tys12, tys13, tys14, tys15, tys16, tys17, tys18, Try.ntmps96, Try.results96, hqe]
      exact Fin.eq (by rw [hf]) rfl
    have hre : rng e := by
      cases n with
      | zero => cases hqe
      | succ n => exact formG_rng hqe
    simp only [hqe, Bool.true_and] at h2
    cases P with
    | none =>
      simp only [Ahead] at hA
      subst hA
      simp only [aheadE, below, Bool.true_and] at h2
      simp only [run0, run1, run2, run3, run4, run5, run6, run7, run8, run9, run10, run11, run12, run13, run14, run15, run16, run17, run18, run19, run20, run21, run22, reduceCtorEq, Nat.reduceEqDiff, Nat.reduceAdd, Nat.reduceSub, Nat.reduceLeDiff, indexAddrA, indexRefA, appendA, strA, Nat.reduceMul, Nat.zero_mul, Nat.reduceMod, Int.reduceEq, Int.reduceLT, Int.reduceLE, Nat.reduceLT, Nat.lt_irrefl, Nat.reduceBEq, tys0, tys1, tys2, tys3, tys4, tys5, tys6, tys7, tys8, tys9, tys10, tys11, tys12, tys13, tys14, tys15, tys16, tys17, tys18, Try.ntmps96, Try.results96, hqe, e5, len, Int.natCast_zero, Int.lt_irrefl]
      exact ⟨(nil.app (cons e c nil), r, some (nil, e, c), _), ⟨hnx.symm, rfl, h2, hr, by intro _ _ _ h; cases h; exact ⟨hre, hlt⟩⟩, by simp [len], by repeat constructor, rfl⟩
    | some P =>
      obtain ⟨d0, p, cp⟩ := P
      simp only [Ahead] at hA
      obtain ⟨hrp, hps⟩ := hq d0 p cp rfl
      have e6 : (0 : Int) < (d.len : Int) := by rw [hA, len_app]; simp only [len]; omega
      have hap : a = d0.app (cons p cp (cons e c r)) := by rw [ha, hA, app_assoc]; rfl
      obtain ⟨_, e8, _, _, _, _⟩ := od_step hap hs
      have e7 : IntKind.i64.wrap ((d.len : Int) - 1) = (d0.len : Int) := by
        have := len_le a
        rw [w64_id (by omega) (by omega), hA, len_app]; simp [len]
      have e9 : (d0.len : Int) < (a.len : Int) := (od_step hap hs).1
      simp only [run0, run1, run2, run3, run4, run5, run6, run7, run8, run9, run10, run11, run12, run13, run14, run15, run16, run17, run18, run19, run20, run21, run22, reduceCtorEq, Nat.reduceEqDiff, Nat.reduceAdd, Nat.reduceSub, Nat.reduceLeDiff, indexAddrA, indexRefA, appendA, strA, Nat.reduceMul, Nat.zero_mul, Nat.reduceMod, Int.reduceEq, Int.reduceLT, Int.reduceLE, Nat.reduceLT, Nat.lt_irrefl, Nat.reduceBEq, tys0, tys1, tys2, tys3, tys4, tys5, tys6, tys7, tys8, tys9, tys10, tys11, tys12, tys13, tys14, tys15, tys16, tys17, tys18, Try.ntmps96, Try.results96, hqe, e6, e7, e8, e9, elems_length, Int.toNat_natCast, Int.natCast_nonneg]
      refine RunL.callp rfl rfl ok_f68 (odCmp_ok p e (by omega) (by omega) hrp hre) (by first | rfl | simp only [pureL, pureB, Bool.and_self, Bool.and_true, Bool.true_and, Od.elems_pure, Od.pay_pure, Od.av_pure]) rfl ?_
      simp only [aheadE, below] at h2
      by_cases hcm : 0 < cmpT p e
      · simp only [hcm, decide_true, Bool.true_and] at h2
        have e10 : ¬ (cmpT p e ≤ 0) := by omega
        simp only [run0, run1, run2, run3, run4, run5, run6, run7, run8, run9, run10, run11, run12, run13, run14, run15, run16, run17, run18, run19, run20, run21, run22, reduceCtorEq, Nat.reduceEqDiff, Nat.reduceAdd, Nat.reduceSub, Nat.reduceLeDiff, indexAddrA, indexRefA, appendA, strA, Nat.reduceMul, Nat.zero_mul, Nat.reduceMod, Int.reduceEq, Int.reduceLT, Int.reduceLE, Nat.reduceLT, Nat.lt_irrefl, Nat.reduceBEq, tys0, tys1, tys2, tys3, tys4, tys5, tys6, tys7, tys8, tys9, tys10, tys11, tys12, tys13, tys14, tys15, tys16, tys17, tys18, Try.ntmps96, Try.results96, e10, e5]
        exact ⟨(d.app (cons e c nil), r, some (d, e, c), _), ⟨hnx.symm, rfl, h2, hr, by intro _ _ _ h; cases h; exact ⟨hre, hlt⟩⟩, by simp [len], by repeat constructor, rfl⟩
      · simp only [hcm, decide_false, Bool.false_and] at h2
        have e10 : cmpT p e ≤ 0 := by omega
        simp only [run0, run1, run2, run3, run4, run5, run6, run7, run8, run9, run10, run11, run12, run13, run14, run15, run16, run17, run18, run19, run20, run21, run22, reduceCtorEq, Nat.reduceEqDiff, Nat.reduceAdd, Nat.reduceSub, Nat.reduceLeDiff, indexAddrA, indexRefA, appendA, strA, Nat.reduceMul, Nat.zero_mul, Nat.reduceMod, Int.reduceEq, Int.reduceLT, Int.reduceLE, Nat.reduceLT, Nat.lt_irrefl, Nat.reduceBEq, tys0, tys1, tys2, tys3, tys4, tys5, tys6, tys7, tys8, tys9, tys10, tys11, tys12, tys13, tys14, tys15, tys16, tys17, tys18, Try.ntmps96, Try.results96, e10]
        exact Fin.eq (by rw [← h2]) rfl
termination_by a.sz

theorem odGood_ok (a : Od) (hs : a.sz ≤ 1048576) : Ct Try.prog 58 [av a] [] (.bool (goodT a)) [] := by
  have h := left_good a
  have h1 : Ct Try.prog 95 [av a, .int .i64 6, .int .i64 60] [] (.int .i64 (leftL a 6 (60 - 1))) [] := odLeft_ok a 6 60 hs (by omega) (by omega) (by omega)
  have h2 : Ct Try.prog 96 [av a, .int .i64 6] [] (.bool (formG a 6 none)) [] := odForm_ok a 6 hs (by omega)
  refine Ct.by_ hmix [] Try.func58 rfl ?_
  simp only [run0, run1, run2, run3, run4, run5, run6, run7, run8, run9, run10, run11, run12, run13, run14, run15, run16, run17, run18, run19, run20, run21, run22, reduceCtorEq, Nat.reduceEqDiff, Nat.reduceAdd, Nat.reduceSub, Nat.reduceLeDiff, indexAddrA, indexRefA, appendA, strA, Nat.reduceMul, Nat.zero_mul, Nat.reduceMod, Int.reduceEq, Int.reduceLT, Int.reduceLE, Nat.reduceLT, Nat.lt_irrefl, Nat.reduceBEq, tys0, tys1, tys2, tys3, tys4, tys5, tys6, tys7, tys8, tys9, tys10, tys11, tys12, tys13, tys14, tys15, tys16, tys17, tys18, Try.ntmps58, Try.results58, av]
  refine RunL.callp rfl rfl ok_f95 (h1) (by first | rfl | simp only [pureL, pureB, Bool.and_self, Bool.and_true, Bool.true_and, Od.elems_pure, Od.pay_pure, Od.av_pure]) rfl ?_
  simp only [run0, run1, run2, run3, run4, run5, run6, run7, run8, run9, run10, run11, run12, run13, run14, run15, run16, run17, run18, run19, run20, run21, run22, reduceCtorEq, Nat.reduceEqDiff, Nat.reduceAdd, Nat.reduceSub, Nat.reduceLeDiff, indexAddrA, indexRefA, appendA, strA, Nat.reduceMul, Nat.zero_mul, Nat.reduceMod, Int.reduceEq, Int.reduceLT, Int.reduceLE, Nat.reduceLT, Nat.lt_irrefl, Nat.reduceBEq, tys0, tys1, tys2, tys3, tys4, tys5, tys6, tys7, tys8, tys9, tys10, tys11, tys12, tys13, tys14, tys15, tys16, tys17, tys18, Try.ntmps58, Try.results58]
  by_cases hl : 0 ≤ leftL a 6 59
  · have e1 : (0 : Int) ≤ leftL a 6 (60 - 1) := hl
    simp only [hl, decide_true, Bool.true_and] at h
    simp only [run0, run1, run2, run3, run4, run5, run6, run7, run8, run9, run10, run11, run12, run13, run14, run15, run16, run17, run18, run19, run20, run21, run22, reduceCtorEq, Nat.reduceEqDiff, Nat.reduceAdd, Nat.reduceSub, Nat.reduceLeDiff, indexAddrA, indexRefA, appendA, strA, Nat.reduceMul, Nat.zero_mul, Nat.reduceMod, Int.reduceEq, Int.reduceLT, Int.reduceLE, Nat.reduceLT, Nat.lt_irrefl, Nat.reduceBEq, tys0, tys1, tys2, tys3, tys4, tys5, tys6, tys7, tys8, tys9, tys10, tys11, tys12, tys13, tys14, tys15, tys16, tys17, tys18, Try.ntmps58, Try.results58, e1]
    refine RunL.callp rfl rfl ok_f96 (h2) (by first | rfl | simp only [pureL, pureB, Bool.and_self, Bool.and_true, Bool.true_and, Od.elems_pure, Od.pay_pure, Od.av_pure]) rfl ?_
    simp only [run0, run1, run2, run3, run4, run5, run6, run7, run8, run9, run10, run11, run12, run13, run14, run15, run16, run17, run18, run19, run20, run21, run22, reduceCtorEq, Nat.reduceEqDiff, Nat.reduceAdd, Nat.reduceSub, Nat.reduceLeDiff, indexAddrA, indexRefA, appendA, strA, Nat.reduceMul, Nat.zero_mul, Nat.reduceMod, Int.reduceEq, Int.reduceLT, Int.reduceLE, Nat.reduceLT, Nat.lt_irrefl, Nat.reduceBEq, tys0, tys1, tys2, tys3, tys4, tys5, tys6, tys7, tys8, tys9, tys10, tys11, tys12, tys13, tys14, tys15, tys16, tys17, tys18, Try.ntmps58, Try.results58]
    exact Fin.eq (by rw [h]) rfl
  · have e1 : ¬ (0 : Int) ≤ leftL a 6 (60 - 1) := hl
    simp only [hl, decide_false, Bool.false_and] at h
    simp only [run0, run1, run2, run3, run4, run5, run6, run7, run8, run9, run10, run11, run12, run13, run14, run15, run16, run17, run18, run19, run20, run21, run22, reduceCtorEq, Nat.reduceEqDiff, Nat.reduceAdd, Nat.reduceSub, Nat.reduceLeDiff, indexAddrA, indexRefA, appendA, strA, Nat.reduceMul, Nat.zero_mul, Nat.reduceMod, Int.reduceEq, Int.reduceLT, Int.reduceLE, Nat.reduceLT, Nat.lt_irrefl, Nat.reduceBEq, tys0, tys1, tys2, tys3, tys4, tys5, tys6, tys7, tys8, tys9, tys10, tys11, tys12, tys13, tys14, tys15, tys16, tys17, tys18, Try.ntmps58, Try.results58, e1]
    exact Fin.eq (by rw [← h]) rfl

end Go.Proofs.Ytphmkhaboghagaa
/-
  Ordinals: which are right, by the program.
-/
namespace Go.Proofs.Ytphmkhaboghagaa
open Go K Od
set_option linter.unusedSimpArgs false
set_option linter.unusedVariables false
set_option maxHeartbeats 1000000

/-- A node's answer and the count behind it. -/
def atT (a : Od) (d : Nat) (k : Int) : Bool × Int := if 60 < k + 1 ∨ 6 < d then (false, k + 1) else atL a d (k + 1) none
theorem atL_cons (e r : Od) (c : Int) (d : Nat) (k : Int) (p : Option Od) : atL (.cons e c r) d k p =
    if 60 < k + 1 ∨ inB c 1 1000000 = false then (false, k + 1)
    else if (atT e (d + 1) (k + 1)).1 = false then (false, (atT e (d + 1) (k + 1)).2)
    else if below p e = false then (false, (atT e (d + 1) (k + 1)).2)
    else atL r d (atT e (d + 1) (k + 1)).2 (some e) := by
  unfold atT
  rw [atL, show k + 1 + 1 = k + 2 by omega]
  split
  · rfl
  · split
    · simp
    · rfl
theorem atL_some {a : Od} {d : Nat} {k : Int} {p : Option Od} (hd : d ≤ 6) (hk : k ≤ 60) (h : (atL a d k p).1 = true) : (atL a d k p).2 ≤ 60 ∧ k ≤ (atL a d k p).2 := by
  have h1 := atL_spec a d (6 - d) k p (by omega) hk
  have h2 := h1.1.1 h
  have h3 := h1.2 h
  omega
theorem atT_some {a : Od} {d : Nat} {k : Int} (h : (atT a d k).1 = true) : (atT a d k).2 ≤ 60 ∧ k < (atT a d k).2 := by
  unfold atT at *
  split at h
  · cases h
  · rename_i hc
    rw [if_neg hc]
    have := atL_some (by omega) (by omega) h
    omega

theorem ordinalAt_ok (a : Od) (ys : List AV) (d : Nat) (k : Int) (L : List AObj) (id : Nat) (hs : a.sz ≤ 1048576) (hd : d ≤ 7) (h0 : 0 ≤ k) (hk : k ≤ 60) (hL : L[id]? = some (.box 3 [.int .i64 k])) :
    Ct Try.prog 99 [.rptr (.agg (.sl false (elems a) :: ys)) 0, .int .i64 d, .ptr id 0] L (.bool (atT a d k).1) (L.set id (.box 3 [.int .i64 (atT a d k).2])) := by
  have hidl := (List.getElem?_eq_some_iff.1 hL).1
  have hget : ∀ X, (L.set id X)[id]? = some X := fun X => List.getElem?_set_self hidl
  have w1 : IntKind.i64.wrap (k + 1) = k + 1 := w64_id (by omega) (by omega)
  refine Ct.by_ hmix [] Try.func99 rfl ?_
  simp only [run0, run1, run2, run3, run4, run5, run6, run7, run8, run9, run10, run11, run12, run13, run14, run15, run16, run17, run18, run19, run20, run21, run22, reduceCtorEq, Nat.reduceEqDiff, Nat.reduceAdd, Nat.reduceSub, Nat.reduceLeDiff, indexAddrA, indexRefA, appendA, strA, Nat.reduceMul, Nat.zero_mul, Nat.reduceMod, Int.reduceEq, Int.reduceLT, Int.reduceLE, Nat.reduceLT, Nat.lt_irrefl, Nat.reduceBEq, tys0, tys1, tys2, tys3, tys4, tys5, tys6, tys7, tys8, tys9, tys10, tys11, tys12, tys13, tys14, tys15, tys16, tys17, tys18, Try.ntmps99, Try.results99, hL, hget, w1, List.set_set]
  by_cases c1 : 60 < k + 1
  · have hz : atT a d k = (false, k + 1) := by unfold atT; rw [if_pos (.inl c1)]
    simp only [run0, run1, run2, run3, run4, run5, run6, run7, run8, run9, run10, run11, run12, run13, run14, run15, run16, run17, run18, run19, run20, run21, run22, reduceCtorEq, Nat.reduceEqDiff, Nat.reduceAdd, Nat.reduceSub, Nat.reduceLeDiff, indexAddrA, indexRefA, appendA, strA, Nat.reduceMul, Nat.zero_mul, Nat.reduceMod, Int.reduceEq, Int.reduceLT, Int.reduceLE, Nat.reduceLT, Nat.lt_irrefl, Nat.reduceBEq, tys0, tys1, tys2, tys3, tys4, tys5, tys6, tys7, tys8, tys9, tys10, tys11, tys12, tys13, tys14, tys15, tys16, tys17, tys18, Try.ntmps99, Try.results99, c1, hL, hget]
    rw [hz]
    exact Fin.own rfl rfl
  by_cases c2 : 6 < d
  · have hz : atT a d k = (false, k + 1) := by unfold atT; rw [if_pos (.inr c2)]
    have c3 : (6 : Int) < (d : Int) := by omega
    simp only [run0, run1, run2, run3, run4, run5, run6, run7, run8, run9, run10, run11, run12, run13, run14, run15, run16, run17, run18, run19, run20, run21, run22, reduceCtorEq, Nat.reduceEqDiff, Nat.reduceAdd, Nat.reduceSub, Nat.reduceLeDiff, indexAddrA, indexRefA, appendA, strA, Nat.reduceMul, Nat.zero_mul, Nat.reduceMod, Int.reduceEq, Int.reduceLT, Int.reduceLE, Nat.reduceLT, Nat.lt_irrefl, Nat.reduceBEq, tys0, tys1, tys2, tys3, tys4, tys5, tys6, tys7, tys8, tys9, tys10, tys11, tys12, tys13, tys14, tys15, tys16, tys17, tys18, Try.ntmps99, Try.results99, c1, c3, hL, hget]
    rw [hz]
    exact Fin.own rfl rfl
  have hz : atT a d k = atL a d (k + 1) none := by unfold atT; rw [if_neg (by omega)]
  have c3 : ¬ (6 : Int) < (d : Int) := by omega
  rw [hz]
  simp only [run0, run1, run2, run3, run4, run5, run6, run7, run8, run9, run10, run11, run12, run13, run14, run15, run16, run17, run18, run19, run20, run21, run22, reduceCtorEq, Nat.reduceEqDiff, Nat.reduceAdd, Nat.reduceSub, Nat.reduceLeDiff, indexAddrA, indexRefA, appendA, strA, Nat.reduceMul, Nat.zero_mul, Nat.reduceMod, Int.reduceEq, Int.reduceLT, Int.reduceLE, Nat.reduceLT, Nat.lt_irrefl, Nat.reduceBEq, tys0, tys1, tys2, tys3, tys4, tys5, tys6, tys7, tys8, tys9, tys10, tys11, tys12, tys13, tys14, tys15, tys16, tys17, tys18, Try.ntmps99, Try.results99, c1, c3, hL, hget, elems_length]
  refine AWp.loop_inv (ι := Od × Od × Option (Od × Od × Int) × Int) (fun p => ⟨[.rptr (.agg (.sl false (elems a) :: ys)) 0, .int .i64 d, .ptr id 0, .junk, .junk, .junk, .bool false, .junk, .junk, .junk, .junk, .junk, .junk, .junk, .junk, .junk, .junk, .junk, .junk, .junk, .junk, .junk, .junk, .junk, .junk, .sl false (elems a), .int .i64 a.len, .int .i64 p.1.len, .junk, .junk, .junk, .junk, .junk, .junk, .junk, .junk, .junk, .junk, .junk, .junk, .junk, .junk, .junk, .junk, .junk, .junk, .junk, .junk, .junk, .junk, .junk, .junk, .junk, .junk, .junk, .junk, .junk, .junk, .junk, .junk, .junk, .junk, .junk, .junk, .junk, .junk, .junk, .junk, .junk, .junk, .junk, .junk, .junk, .junk, .junk, .junk, .junk, .junk, .junk, .junk, .junk, .junk, .junk], L.set id (.box 3 [.int .i64 p.2.2.2])⟩)
    (fun p => a = p.1.app p.2.1 ∧ Ahead p.1 p.2.2.1 ∧ atL p.2.1 d p.2.2.2 (aheadE p.2.2.1) = atL a d (k + 1) none ∧ 0 ≤ p.2.2.2 ∧ p.2.2.2 ≤ 60) (fun p => p.2.1.len) (.nil, a, none, k + 1) ⟨rfl, rfl, rfl, by simp only; omega, by simp only; omega⟩ ⟨by simp only [len, Int.natCast_zero]; repeat constructor, rfl⟩ ?_
  rintro ⟨dn, r, P, q⟩ ⟨ha, hA, h2, h3, h4⟩
  refine W.sound hmix (E := []) ?_
  simp only at ha hA h2 h3 h4
  cases r with
  | nil =>
    obtain ⟨e1, rfl⟩ := od_end ha
    simp only [run0, run1, run2, run3, run4, run5, run6, run7, run8, run9, run10, run11, run12, run13, run14, run15, run16, run17, run18, run19, run20, run21, run22, reduceCtorEq, Nat.reduceEqDiff, Nat.reduceAdd, Nat.reduceSub, Nat.reduceLeDiff, indexAddrA, indexRefA, appendA, strA, Nat.reduceMul, Nat.zero_mul, Nat.reduceMod, Int.reduceEq, Int.reduceLT, Int.reduceLE, Nat.reduceLT, Nat.lt_irrefl, Nat.reduceBEq, tys0, tys1, tys2, tys3, tys4, tys5, tys6, tys7, tys8, tys9, tys10, tys11, tys12, tys13, tys14, tys15, tys16, tys17, tys18, Try.ntmps99, Try.results99, elems_length, e1]
    rw [← h2]
    exact Fin.own rfl rfl
  | cons e c r =>
    obtain ⟨e1, e2, e5, hlt, hnx, _⟩ := od_step ha hs
    rw [atL_cons] at h2
    have w2 : IntKind.i64.wrap (q + 1) = q + 1 := w64_id (by omega) (by omega)
    simp only [run0, run1, run2, run3, run4, run5, run6, run7, run8, run9, run10, run11, run12, run13, run14, run15, run16, run17, run18, run19, run20, run21, run22, reduceCtorEq, Nat.reduceEqDiff, Nat.reduceAdd, Nat.reduceSub, Nat.reduceLeDiff, indexAddrA, indexRefA, appendA, strA, Nat.reduceMul, Nat.zero_mul, Nat.reduceMod, Int.reduceEq, Int.reduceLT, Int.reduceLE, Nat.reduceLT, Nat.lt_irrefl, Nat.reduceBEq, tys0, tys1, tys2, tys3, tys4, tys5, tys6, tys7, tys8, tys9, tys10, tys11, tys12, tys13, tys14, tys15, tys16, tys17, tys18, Try.ntmps99, Try.results99, hget, w2, List.set_set, elems_length, e1, e2, Int.toNat_natCast, Int.natCast_nonneg]
    by_cases c4 : 60 < q + 1
    · rw [if_pos (.inl c4)] at h2
      simp only [run0, run1, run2, run3, run4, run5, run6, run7, run8, run9, run10, run11, run12, run13, run14, run15, run16, run17, run18, run19, run20, run21, run22, reduceCtorEq, Nat.reduceEqDiff, Nat.reduceAdd, Nat.reduceSub, Nat.reduceLeDiff, indexAddrA, indexRefA, appendA, strA, Nat.reduceMul, Nat.zero_mul, Nat.reduceMod, Int.reduceEq, Int.reduceLT, Int.reduceLE, Nat.reduceLT, Nat.lt_irrefl, Nat.reduceBEq, tys0, tys1, tys2, tys3, tys4, tys5, tys6, tys7, tys8, tys9, tys10, tys11, tys12, tys13, tys14, tys15, tys16, tys17, tys18, Try.ntmps99, Try.results99, c4]
      rw [← h2]
      exact Fin.own rfl rfl
    simp only [run0, run1, run2, run3, run4, run5, run6, run7, run8, run9, run10, run11, run12, run13, run14, run15, run16, run17, run18, run19, run20, run21, run22, reduceCtorEq, Nat.reduceEqDiff, Nat.reduceAdd, Nat.reduceSub, Nat.reduceLeDiff, indexAddrA, indexRefA, appendA, strA, Nat.reduceMul, Nat.zero_mul, Nat.reduceMod, Int.reduceEq, Int.reduceLT, Int.reduceLE, Nat.reduceLT, Nat.lt_irrefl, Nat.reduceBEq, tys0, tys1, tys2, tys3, tys4, tys5, tys6, tys7, tys8, tys9, tys10, tys11, tys12, tys13, tys14, tys15, tys16, tys17, tys18, Try.ntmps99, Try.results99, c4]
    refine RunL.callp rfl rfl ok_f50 (in_ok c 1 1000000) (by first | rfl | simp only [pureL, pureB, Bool.and_self, Bool.and_true, Bool.true_and, Od.elems_pure, Od.pay_pure, Od.av_pure]) rfl ?_
    cases hc : inB c 1 1000000
    · rw [if_pos (.inr hc)] at h2
      simp only [run0, run1, run2, run3, run4, run5, run6, run7, run8, run9, run10, run11, run12, run13, run14, run15, run16, run17, run18, run19, run20, run21, run22, reduceCtorEq, Nat.reduceEqDiff, Nat.reduceAdd, Nat.reduceSub, Nat.reduceLeDiff, indexAddrA, indexRefA, appendA, strA, Nat.reduceMul, Nat.zero_mul, Nat.reduceMod, Int.reduceEq, Int.reduceLT, Int.reduceLE, Nat.reduceLT, Nat.lt_irrefl, Nat.reduceBEq, tys0, tys1, tys2, tys3, tys4, tys5, tys6, tys7, tys8, tys9, tys10, tys11, tys12, tys13, tys14, tys15, tys16, tys17, tys18, Try.ntmps99, Try.results99, hc]
      rw [← h2]
      exact Fin.own rfl rfl
    rw [if_neg (by simp [c4, hc])] at h2
    have w3 : IntKind.i64.wrap ((d : Int) + 1) = ((d + 1 : Nat) : Int) := by rw [w64_id (by omega) (by omega)]; omega
    simp only [run0, run1, run2, run3, run4, run5, run6, run7, run8, run9, run10, run11, run12, run13, run14, run15, run16, run17, run18, run19, run20, run21, run22, reduceCtorEq, Nat.reduceEqDiff, Nat.reduceAdd, Nat.reduceSub, Nat.reduceLeDiff, indexAddrA, indexRefA, appendA, strA, Nat.reduceMul, Nat.zero_mul, Nat.reduceMod, Int.reduceEq, Int.reduceLT, Int.reduceLE, Nat.reduceLT, Nat.lt_irrefl, Nat.reduceBEq, tys0, tys1, tys2, tys3, tys4, tys5, tys6, tys7, tys8, tys9, tys10, tys11, tys12, tys13, tys14, tys15, tys16, tys17, tys18, Try.ntmps99, Try.results99, hc, w3]
    refine RunL.call rfl rfl rfl ok_f99 rfl (.inl rfl) (ordinalAt_ok e [.int .i64 c] (d + 1) (q + 1) (L.set id (.box 3 [.int .i64 (q + 1)])) id (by omega) (by omega) (by omega) (by omega) (hget _)) ?_
    cases ht : (atT e (d + 1) (q + 1)).1
    · rw [if_pos ht] at h2
      simp only [run0, run1, run2, run3, run4, run5, run6, run7, run8, run9, run10, run11, run12, run13, run14, run15, run16, run17, run18, run19, run20, run21, run22, reduceCtorEq, Nat.reduceEqDiff, Nat.reduceAdd, Nat.reduceSub, Nat.reduceLeDiff, indexAddrA, indexRefA, appendA, strA, Nat.reduceMul, Nat.zero_mul, Nat.reduceMod, Int.reduceEq, Int.reduceLT, Int.reduceLE, Nat.reduceLT, Nat.lt_irrefl, Nat.reduceBEq, tys0, tys1, tys2, tys3, tys4, tys5, tys6, tys7, tys8, tys9, tys10, tys11, tys12, tys13, tys14, tys15, tys16, tys17, tys18, Try.ntmps99, Try.results99, List.set_set]
      rw [← h2]
      exact Fin.own rfl rfl
    rw [if_neg (by simp [ht])] at h2
    obtain ⟨k1, k2⟩ := atT_some ht
    generalize hQ : (atT e (d + 1) (q + 1)).2 = Q at *
    cases P with
    | none =>
      simp only [Ahead] at hA
      subst hA
      simp only [aheadE, below, Bool.true_eq_false, if_false] at h2
      simp only [run0, run1, run2, run3, run4, run5, run6, run7, run8, run9, run10, run11, run12, run13, run14, run15, run16, run17, run18, run19, run20, run21, run22, reduceCtorEq, Nat.reduceEqDiff, Nat.reduceAdd, Nat.reduceSub, Nat.reduceLeDiff, indexAddrA, indexRefA, appendA, strA, Nat.reduceMul, Nat.zero_mul, Nat.reduceMod, Int.reduceEq, Int.reduceLT, Int.reduceLE, Nat.reduceLT, Nat.lt_irrefl, Nat.reduceBEq, tys0, tys1, tys2, tys3, tys4, tys5, tys6, tys7, tys8, tys9, tys10, tys11, tys12, tys13, tys14, tys15, tys16, tys17, tys18, Try.ntmps99, Try.results99, List.set_set, e5, len, Int.natCast_zero, Int.lt_irrefl]
      refine ⟨by kernel_rfl, (nil.app (cons e c nil), r, some (nil, e, c), Q), ⟨hnx.symm, rfl, h2, by simp only; omega, by simp only; omega⟩, by simp [len], by repeat constructor, rfl⟩
    | some P =>
      obtain ⟨d0, p, cp⟩ := P
      simp only [Ahead] at hA
      have e6 : (0 : Int) < (dn.len : Int) := by rw [hA, len_app]; simp only [len]; omega
      have hap : a = d0.app (cons p cp (cons e c r)) := by rw [ha, hA, app_assoc]; rfl
      obtain ⟨e9, e8, _, hps, _, _⟩ := od_step hap hs
      have hll := len_le a
      have e7 : IntKind.i64.wrap ((dn.len : Int) - 1) = (d0.len : Int) := by
        rw [w64_id (by omega) (by omega), hA, len_app]; simp [len]
      simp only [run0, run1, run2, run3, run4, run5, run6, run7, run8, run9, run10, run11, run12, run13, run14, run15, run16, run17, run18, run19, run20, run21, run22, reduceCtorEq, Nat.reduceEqDiff, Nat.reduceAdd, Nat.reduceSub, Nat.reduceLeDiff, indexAddrA, indexRefA, appendA, strA, Nat.reduceMul, Nat.zero_mul, Nat.reduceMod, Int.reduceEq, Int.reduceLT, Int.reduceLE, Nat.reduceLT, Nat.lt_irrefl, Nat.reduceBEq, tys0, tys1, tys2, tys3, tys4, tys5, tys6, tys7, tys8, tys9, tys10, tys11, tys12, tys13, tys14, tys15, tys16, tys17, tys18, Try.ntmps99, Try.results99, List.set_set, e6, e7, e8, e9, hget, elems_length, Int.toNat_natCast, Int.natCast_nonneg]
      refine ⟨by kernel_rfl, ?_⟩
      refine RunL.callp rfl rfl ok_f71 (cmp_ok p e (by omega) (by omega)) (by first | rfl | simp only [pureL, pureB, Bool.and_self, Bool.and_true, Bool.true_and, Od.elems_pure, Od.pay_pure, Od.av_pure]) rfl ?_
      simp only [aheadE, below] at h2
      by_cases hcm : 0 < cmpT p e
      · simp only [hcm, decide_true, Bool.true_eq_false, if_false] at h2
        have e10 : ¬ (cmpT p e ≤ 0) := by omega
        simp only [run0, run1, run2, run3, run4, run5, run6, run7, run8, run9, run10, run11, run12, run13, run14, run15, run16, run17, run18, run19, run20, run21, run22, reduceCtorEq, Nat.reduceEqDiff, Nat.reduceAdd, Nat.reduceSub, Nat.reduceLeDiff, indexAddrA, indexRefA, appendA, strA, Nat.reduceMul, Nat.zero_mul, Nat.reduceMod, Int.reduceEq, Int.reduceLT, Int.reduceLE, Nat.reduceLT, Nat.lt_irrefl, Nat.reduceBEq, tys0, tys1, tys2, tys3, tys4, tys5, tys6, tys7, tys8, tys9, tys10, tys11, tys12, tys13, tys14, tys15, tys16, tys17, tys18, Try.ntmps99, Try.results99, e10, e5]
        exact ⟨(dn.app (cons e c nil), r, some (dn, e, c), Q), ⟨hnx.symm, rfl, h2, by simp only; omega, by simp only; omega⟩, by simp [len], by repeat constructor, rfl⟩
      · simp only [hcm, decide_false, if_true] at h2
        have e10 : cmpT p e ≤ 0 := by omega
        simp only [run0, run1, run2, run3, run4, run5, run6, run7, run8, run9, run10, run11, run12, run13, run14, run15, run16, run17, run18, run19, run20, run21, run22, reduceCtorEq, Nat.reduceEqDiff, Nat.reduceAdd, Nat.reduceSub, Nat.reduceLeDiff, indexAddrA, indexRefA, appendA, strA, Nat.reduceMul, Nat.zero_mul, Nat.reduceMod, Int.reduceEq, Int.reduceLT, Int.reduceLE, Nat.reduceLT, Nat.lt_irrefl, Nat.reduceBEq, tys0, tys1, tys2, tys3, tys4, tys5, tys6, tys7, tys8, tys9, tys10, tys11, tys12, tys13, tys14, tys15, tys16, tys17, tys18, Try.ntmps99, Try.results99, e10]
        rw [← h2]
        exact Fin.own rfl rfl
termination_by a.sz

theorem ordinalAtP_ok (a : Od) (i : Nat) (d : Nat) (k : Int) (L : List AObj) (id : Nat) (hs : a.sz ≤ 1048576) (hd : d ≤ 7) (h0 : 0 ≤ k) (hk : k ≤ 60) (hL : L[id]? = some (.box 3 [.int .i64 k])) (hi : L[i]? = some (.box 24 [.sl false (elems a)])) (hne : i ≠ id) :
    Ct Try.prog 99 [.ptr i 0, .int .i64 d, .ptr id 0] L (.bool (atT a d k).1) (L.set id (.box 3 [.int .i64 (atT a d k).2])) := by
  have hidl := (List.getElem?_eq_some_iff.1 hL).1
  have hget : ∀ X, (L.set id X)[id]? = some X := fun X => List.getElem?_set_self hidl
  have hgi : ∀ X, (L.set id X)[i]? = some (.box 24 [.sl false (elems a)]) := fun X => by rw [List.getElem?_set_ne (fun q => hne q.symm)]; exact hi
  have w1 : IntKind.i64.wrap (k + 1) = k + 1 := w64_id (by omega) (by omega)
  refine Ct.by_ hmix [] Try.func99 rfl ?_
  simp only [run0, run1, run2, run3, run4, run5, run6, run7, run8, run9, run10, run11, run12, run13, run14, run15, run16, run17, run18, run19, run20, run21, run22, reduceCtorEq, Nat.reduceEqDiff, Nat.reduceAdd, Nat.reduceSub, Nat.reduceLeDiff, indexAddrA, indexRefA, appendA, strA, Nat.reduceMul, Nat.zero_mul, Nat.reduceMod, Int.reduceEq, Int.reduceLT, Int.reduceLE, Nat.reduceLT, Nat.lt_irrefl, Nat.reduceBEq, tys0, tys1, tys2, tys3, tys4, tys5, tys6, tys7, tys8, tys9, tys10, tys11, tys12, tys13, tys14, tys15, tys16, tys17, tys18, Try.ntmps99, Try.results99, hL, hget, w1, List.set_set]
  by_cases c1 : 60 < k + 1
  · have hz : atT a d k = (false, k + 1) := by unfold atT; rw [if_pos (.inl c1)]
    simp only [run0, run1, run2, run3, run4, run5, run6, run7, run8, run9, run10, run11, run12, run13, run14, run15, run16, run17, run18, run19, run20, run21, run22, reduceCtorEq, Nat.reduceEqDiff, Nat.reduceAdd, Nat.reduceSub, Nat.reduceLeDiff, indexAddrA, indexRefA, appendA, strA, Nat.reduceMul, Nat.zero_mul, Nat.reduceMod, Int.reduceEq, Int.reduceLT, Int.reduceLE, Nat.reduceLT, Nat.lt_irrefl, Nat.reduceBEq, tys0, tys1, tys2, tys3, tys4, tys5, tys6, tys7, tys8, tys9, tys10, tys11, tys12, tys13, tys14, tys15, tys16, tys17, tys18, Try.ntmps99, Try.results99, c1, hL, hget]
    rw [hz]
    exact Fin.own rfl rfl
  by_cases c2 : 6 < d
  · have hz : atT a d k = (false, k + 1) := by unfold atT; rw [if_pos (.inr c2)]
    have c3 : (6 : Int) < (d : Int) := by omega
    simp only [run0, run1, run2, run3, run4, run5, run6, run7, run8, run9, run10, run11, run12, run13, run14, run15, run16, run17, run18, run19, run20, run21, run22, reduceCtorEq, Nat.reduceEqDiff, Nat.reduceAdd, Nat.reduceSub, Nat.reduceLeDiff, indexAddrA, indexRefA, appendA, strA, Nat.reduceMul, Nat.zero_mul, Nat.reduceMod, Int.reduceEq, Int.reduceLT, Int.reduceLE, Nat.reduceLT, Nat.lt_irrefl, Nat.reduceBEq, tys0, tys1, tys2, tys3, tys4, tys5, tys6, tys7, tys8, tys9, tys10, tys11, tys12, tys13, tys14, tys15, tys16, tys17, tys18, Try.ntmps99, Try.results99, c1, c3, hL, hget]
    rw [hz]
    exact Fin.own rfl rfl
  have hz : atT a d k = atL a d (k + 1) none := by unfold atT; rw [if_neg (by omega)]
  have c3 : ¬ (6 : Int) < (d : Int) := by omega
  rw [hz]
  simp only [run0, run1, run2, run3, run4, run5, run6, run7, run8, run9, run10, run11, run12, run13, run14, run15, run16, run17, run18, run19, run20, run21, run22, reduceCtorEq, Nat.reduceEqDiff, Nat.reduceAdd, Nat.reduceSub, Nat.reduceLeDiff, indexAddrA, indexRefA, appendA, strA, Nat.reduceMul, Nat.zero_mul, Nat.reduceMod, Int.reduceEq, Int.reduceLT, Int.reduceLE, Nat.reduceLT, Nat.lt_irrefl, Nat.reduceBEq, tys0, tys1, tys2, tys3, tys4, tys5, tys6, tys7, tys8, tys9, tys10, tys11, tys12, tys13, tys14, tys15, tys16, tys17, tys18, Try.ntmps99, Try.results99, c1, c3, hL, hget, hgi, elems_length]
  refine AWp.loop_inv (ι := Od × Od × Option (Od × Od × Int) × Int) (fun p => ⟨[.ptr i 0, .int .i64 d, .ptr id 0, .junk, .junk, .junk, .bool false, .junk, .junk, .junk, .junk, .junk, .junk, .junk, .junk, .junk, .junk, .junk, .junk, .junk, .junk, .junk, .junk, .junk, .junk, .sl false (elems a), .int .i64 a.len, .int .i64 p.1.len, .junk, .junk, .junk, .junk, .junk, .junk, .junk, .junk, .junk, .junk, .junk, .junk, .junk, .junk, .junk, .junk, .junk, .junk, .junk, .junk, .junk, .junk, .junk, .junk, .junk, .junk, .junk, .junk, .junk, .junk, .junk, .junk, .junk, .junk, .junk, .junk, .junk, .junk, .junk, .junk, .junk, .junk, .junk, .junk, .junk, .junk, .junk, .junk, .junk, .junk, .junk, .junk, .junk, .junk, .junk], L.set id (.box 3 [.int .i64 p.2.2.2])⟩)
    (fun p => a = p.1.app p.2.1 ∧ Ahead p.1 p.2.2.1 ∧ atL p.2.1 d p.2.2.2 (aheadE p.2.2.1) = atL a d (k + 1) none ∧ 0 ≤ p.2.2.2 ∧ p.2.2.2 ≤ 60) (fun p => p.2.1.len) (.nil, a, none, k + 1) ⟨rfl, rfl, rfl, by simp only; omega, by simp only; omega⟩ ⟨by simp only [len, Int.natCast_zero]; repeat constructor, rfl⟩ ?_
  rintro ⟨dn, r, P, q⟩ ⟨ha, hA, h2, h3, h4⟩
  refine W.sound hmix (E := []) ?_
  simp only at ha hA h2 h3 h4
  cases r with
  | nil =>
    obtain ⟨e1, rfl⟩ := od_end ha
    simp only [run0, run1, run2, run3, run4, run5, run6, run7, run8, run9, run10, run11, run12, run13, run14, run15, run16, run17, run18, run19, run20, run21, run22, reduceCtorEq, Nat.reduceEqDiff, Nat.reduceAdd, Nat.reduceSub, Nat.reduceLeDiff, indexAddrA, indexRefA, appendA, strA, Nat.reduceMul, Nat.zero_mul, Nat.reduceMod, Int.reduceEq, Int.reduceLT, Int.reduceLE, Nat.reduceLT, Nat.lt_irrefl, Nat.reduceBEq, tys0, tys1, tys2, tys3, tys4, tys5, tys6, tys7, tys8, tys9, tys10, tys11, tys12, tys13, tys14, tys15, tys16, tys17, tys18, Try.ntmps99, Try.results99, elems_length, e1]
    rw [← h2]
    exact Fin.own rfl rfl
  | cons e c r =>
    obtain ⟨e1, e2, e5, hlt, hnx, _⟩ := od_step ha hs
    rw [atL_cons] at h2
    have w2 : IntKind.i64.wrap (q + 1) = q + 1 := w64_id (by omega) (by omega)
    simp only [run0, run1, run2, run3, run4, run5, run6, run7, run8, run9, run10, run11, run12, run13, run14, run15, run16, run17, run18, run19, run20, run21, run22, reduceCtorEq, Nat.reduceEqDiff, Nat.reduceAdd, Nat.reduceSub, Nat.reduceLeDiff, indexAddrA, indexRefA, appendA, strA, Nat.reduceMul, Nat.zero_mul, Nat.reduceMod, Int.reduceEq, Int.reduceLT, Int.reduceLE, Nat.reduceLT, Nat.lt_irrefl, Nat.reduceBEq, tys0, tys1, tys2, tys3, tys4, tys5, tys6, tys7, tys8, tys9, tys10, tys11, tys12, tys13, tys14, tys15, tys16, tys17, tys18, Try.ntmps99, Try.results99, hget, w2, List.set_set, hgi, elems_length, e1, e2, Int.toNat_natCast, Int.natCast_nonneg]
    by_cases c4 : 60 < q + 1
    · rw [if_pos (.inl c4)] at h2
      simp only [run0, run1, run2, run3, run4, run5, run6, run7, run8, run9, run10, run11, run12, run13, run14, run15, run16, run17, run18, run19, run20, run21, run22, reduceCtorEq, Nat.reduceEqDiff, Nat.reduceAdd, Nat.reduceSub, Nat.reduceLeDiff, indexAddrA, indexRefA, appendA, strA, Nat.reduceMul, Nat.zero_mul, Nat.reduceMod, Int.reduceEq, Int.reduceLT, Int.reduceLE, Nat.reduceLT, Nat.lt_irrefl, Nat.reduceBEq, tys0, tys1, tys2, tys3, tys4, tys5, tys6, tys7, tys8, tys9, tys10, tys11, tys12, tys13, tys14, tys15, tys16, tys17, tys18, Try.ntmps99, Try.results99, c4]
      rw [← h2]
      exact Fin.own rfl rfl
    simp only [run0, run1, run2, run3, run4, run5, run6, run7, run8, run9, run10, run11, run12, run13, run14, run15, run16, run17, run18, run19, run20, run21, run22, reduceCtorEq, Nat.reduceEqDiff, Nat.reduceAdd, Nat.reduceSub, Nat.reduceLeDiff, indexAddrA, indexRefA, appendA, strA, Nat.reduceMul, Nat.zero_mul, Nat.reduceMod, Int.reduceEq, Int.reduceLT, Int.reduceLE, Nat.reduceLT, Nat.lt_irrefl, Nat.reduceBEq, tys0, tys1, tys2, tys3, tys4, tys5, tys6, tys7, tys8, tys9, tys10, tys11, tys12, tys13, tys14, tys15, tys16, tys17, tys18, Try.ntmps99, Try.results99, c4]
    refine RunL.callp rfl rfl ok_f50 (in_ok c 1 1000000) (by first | rfl | simp only [pureL, pureB, Bool.and_self, Bool.and_true, Bool.true_and, Od.elems_pure, Od.pay_pure, Od.av_pure]) rfl ?_
    cases hc : inB c 1 1000000
    · rw [if_pos (.inr hc)] at h2
      simp only [run0, run1, run2, run3, run4, run5, run6, run7, run8, run9, run10, run11, run12, run13, run14, run15, run16, run17, run18, run19, run20, run21, run22, reduceCtorEq, Nat.reduceEqDiff, Nat.reduceAdd, Nat.reduceSub, Nat.reduceLeDiff, indexAddrA, indexRefA, appendA, strA, Nat.reduceMul, Nat.zero_mul, Nat.reduceMod, Int.reduceEq, Int.reduceLT, Int.reduceLE, Nat.reduceLT, Nat.lt_irrefl, Nat.reduceBEq, tys0, tys1, tys2, tys3, tys4, tys5, tys6, tys7, tys8, tys9, tys10, tys11, tys12, tys13, tys14, tys15, tys16, tys17, tys18, Try.ntmps99, Try.results99, hc]
      rw [← h2]
      exact Fin.own rfl rfl
    rw [if_neg (by simp [c4, hc])] at h2
    have w3 : IntKind.i64.wrap ((d : Int) + 1) = ((d + 1 : Nat) : Int) := by rw [w64_id (by omega) (by omega)]; omega
    simp only [run0, run1, run2, run3, run4, run5, run6, run7, run8, run9, run10, run11, run12, run13, run14, run15, run16, run17, run18, run19, run20, run21, run22, reduceCtorEq, Nat.reduceEqDiff, Nat.reduceAdd, Nat.reduceSub, Nat.reduceLeDiff, indexAddrA, indexRefA, appendA, strA, Nat.reduceMul, Nat.zero_mul, Nat.reduceMod, Int.reduceEq, Int.reduceLT, Int.reduceLE, Nat.reduceLT, Nat.lt_irrefl, Nat.reduceBEq, tys0, tys1, tys2, tys3, tys4, tys5, tys6, tys7, tys8, tys9, tys10, tys11, tys12, tys13, tys14, tys15, tys16, tys17, tys18, Try.ntmps99, Try.results99, hc, w3]
    refine RunL.call rfl rfl rfl ok_f99 rfl (.inl rfl) (ordinalAt_ok e [.int .i64 c] (d + 1) (q + 1) (L.set id (.box 3 [.int .i64 (q + 1)])) id (by omega) (by omega) (by omega) (by omega) (hget _)) ?_
    cases ht : (atT e (d + 1) (q + 1)).1
    · rw [if_pos ht] at h2
      simp only [run0, run1, run2, run3, run4, run5, run6, run7, run8, run9, run10, run11, run12, run13, run14, run15, run16, run17, run18, run19, run20, run21, run22, reduceCtorEq, Nat.reduceEqDiff, Nat.reduceAdd, Nat.reduceSub, Nat.reduceLeDiff, indexAddrA, indexRefA, appendA, strA, Nat.reduceMul, Nat.zero_mul, Nat.reduceMod, Int.reduceEq, Int.reduceLT, Int.reduceLE, Nat.reduceLT, Nat.lt_irrefl, Nat.reduceBEq, tys0, tys1, tys2, tys3, tys4, tys5, tys6, tys7, tys8, tys9, tys10, tys11, tys12, tys13, tys14, tys15, tys16, tys17, tys18, Try.ntmps99, Try.results99, List.set_set]
      rw [← h2]
      exact Fin.own rfl rfl
    rw [if_neg (by simp [ht])] at h2
    obtain ⟨k1, k2⟩ := atT_some ht
    generalize hQ : (atT e (d + 1) (q + 1)).2 = Q at *
    cases P with
    | none =>
      simp only [Ahead] at hA
      subst hA
      simp only [aheadE, below, Bool.true_eq_false, if_false] at h2
      simp only [run0, run1, run2, run3, run4, run5, run6, run7, run8, run9, run10, run11, run12, run13, run14, run15, run16, run17, run18, run19, run20, run21, run22, reduceCtorEq, Nat.reduceEqDiff, Nat.reduceAdd, Nat.reduceSub, Nat.reduceLeDiff, indexAddrA, indexRefA, appendA, strA, Nat.reduceMul, Nat.zero_mul, Nat.reduceMod, Int.reduceEq, Int.reduceLT, Int.reduceLE, Nat.reduceLT, Nat.lt_irrefl, Nat.reduceBEq, tys0, tys1, tys2, tys3, tys4, tys5, tys6, tys7, tys8, tys9, tys10, tys11, tys12, tys13, tys14, tys15, tys16, tys17, tys18, Try.ntmps99, Try.results99, List.set_set, e5, len, Int.natCast_zero, Int.lt_irrefl]
      refine ⟨by kernel_rfl, (nil.app (cons e c nil), r, some (nil, e, c), Q), ⟨hnx.symm, rfl, h2, by simp only; omega, by simp only; omega⟩, by simp [len], by repeat constructor, rfl⟩
    | some P =>
      obtain ⟨d0, p, cp⟩ := P
      simp only [Ahead] at hA
      have e6 : (0 : Int) < (dn.len : Int) := by rw [hA, len_app]; simp only [len]; omega
      have hap : a = d0.app (cons p cp (cons e c r)) := by rw [ha, hA, app_assoc]; rfl
      obtain ⟨e9, e8, _, hps, _, _⟩ := od_step hap hs
      have hll := len_le a
      have e7 : IntKind.i64.wrap ((dn.len : Int) - 1) = (d0.len : Int) := by
        rw [w64_id (by omega) (by omega), hA, len_app]; simp [len]
      simp only [run0, run1, run2, run3, run4, run5, run6, run7, run8, run9, run10, run11, run12, run13, run14, run15, run16, run17, run18, run19, run20, run21, run22, reduceCtorEq, Nat.reduceEqDiff, Nat.reduceAdd, Nat.reduceSub, Nat.reduceLeDiff, indexAddrA, indexRefA, appendA, strA, Nat.reduceMul, Nat.zero_mul, Nat.reduceMod, Int.reduceEq, Int.reduceLT, Int.reduceLE, Nat.reduceLT, Nat.lt_irrefl, Nat.reduceBEq, tys0, tys1, tys2, tys3, tys4, tys5, tys6, tys7, tys8, tys9, tys10, tys11, tys12, tys13, tys14, tys15, tys16, tys17, tys18, Try.ntmps99, Try.results99, List.set_set, e6, e7, e8, e9, hget, hgi, elems_length, Int.toNat_natCast, Int.natCast_nonneg]
      refine ⟨by kernel_rfl, ?_⟩
      refine RunL.callp rfl rfl ok_f71 (cmp_ok p e (by omega) (by omega)) (by first | rfl | simp only [pureL, pureB, Bool.and_self, Bool.and_true, Bool.true_and, Od.elems_pure, Od.pay_pure, Od.av_pure]) rfl ?_
      simp only [aheadE, below] at h2
      by_cases hcm : 0 < cmpT p e
      · simp only [hcm, decide_true, Bool.true_eq_false, if_false] at h2
        have e10 : ¬ (cmpT p e ≤ 0) := by omega
        simp only [run0, run1, run2, run3, run4, run5, run6, run7, run8, run9, run10, run11, run12, run13, run14, run15, run16, run17, run18, run19, run20, run21, run22, reduceCtorEq, Nat.reduceEqDiff, Nat.reduceAdd, Nat.reduceSub, Nat.reduceLeDiff, indexAddrA, indexRefA, appendA, strA, Nat.reduceMul, Nat.zero_mul, Nat.reduceMod, Int.reduceEq, Int.reduceLT, Int.reduceLE, Nat.reduceLT, Nat.lt_irrefl, Nat.reduceBEq, tys0, tys1, tys2, tys3, tys4, tys5, tys6, tys7, tys8, tys9, tys10, tys11, tys12, tys13, tys14, tys15, tys16, tys17, tys18, Try.ntmps99, Try.results99, e10, e5]
        exact ⟨(dn.app (cons e c nil), r, some (dn, e, c), Q), ⟨hnx.symm, rfl, h2, by simp only; omega, by simp only; omega⟩, by simp [len], by repeat constructor, rfl⟩
      · simp only [hcm, decide_false, if_true] at h2
        have e10 : cmpT p e ≤ 0 := by omega
        simp only [run0, run1, run2, run3, run4, run5, run6, run7, run8, run9, run10, run11, run12, run13, run14, run15, run16, run17, run18, run19, run20, run21, run22, reduceCtorEq, Nat.reduceEqDiff, Nat.reduceAdd, Nat.reduceSub, Nat.reduceLeDiff, indexAddrA, indexRefA, appendA, strA, Nat.reduceMul, Nat.zero_mul, Nat.reduceMod, Int.reduceEq, Int.reduceLT, Int.reduceLE, Nat.reduceLT, Nat.lt_irrefl, Nat.reduceBEq, tys0, tys1, tys2, tys3, tys4, tys5, tys6, tys7, tys8, tys9, tys10, tys11, tys12, tys13, tys14, tys15, tys16, tys17, tys18, Try.ntmps99, Try.results99, e10]
        rw [← h2]
        exact Fin.own rfl rfl

theorem IsOrdinal_ok (a : Od) (hs : a.sz ≤ 1048576) : Ct Try.prog 63 [av a] [] (.bool (goodT a)) [] := by
  have h := at_good a
  have h1 := ordinalAtP_ok a 0 0 0 [.box 24 [.sl false (elems a)], .box 3 [.int .i64 0]] 1 hs (by omega) (by omega) (by omega) rfl rfl (by omega)
  have h2 : atT a 0 0 = atL a 0 1 none := rfl
  rw [h2, h] at h1
  refine Ct.by_ hmix [] Try.func63 rfl ?_
  simp only [run0, run1, run2, run3, run4, run5, run6, run7, run8, run9, run10, run11, run12, run13, run14, run15, run16, run17, run18, run19, run20, run21, run22, reduceCtorEq, Nat.reduceEqDiff, Nat.reduceAdd, Nat.reduceSub, Nat.reduceLeDiff, indexAddrA, indexRefA, appendA, strA, Nat.reduceMul, Nat.zero_mul, Nat.reduceMod, Int.reduceEq, Int.reduceLT, Int.reduceLE, Nat.reduceLT, Nat.lt_irrefl, Nat.reduceBEq, tys0, tys1, tys2, tys3, tys4, tys5, tys6, tys7, tys8, tys9, tys10, tys11, tys12, tys13, tys14, tys15, tys16, tys17, tys18, Try.ntmps63, Try.results63, av]
  refine RunL.call rfl rfl rfl ok_f99 rfl (.inl rfl) h1 ?_
  simp only [run0, run1, run2, run3, run4, run5, run6, run7, run8, run9, run10, run11, run12, run13, run14, run15, run16, run17, run18, run19, run20, run21, run22, reduceCtorEq, Nat.reduceEqDiff, Nat.reduceAdd, Nat.reduceSub, Nat.reduceLeDiff, indexAddrA, indexRefA, appendA, strA, Nat.reduceMul, Nat.zero_mul, Nat.reduceMod, Int.reduceEq, Int.reduceLT, Int.reduceLE, Nat.reduceLT, Nat.lt_irrefl, Nat.reduceBEq, tys0, tys1, tys2, tys3, tys4, tys5, tys6, tys7, tys8, tys9, tys10, tys11, tys12, tys13, tys14, tys15, tys16, tys17, tys18, Try.ntmps63, Try.results63]
  exact Fin.eq rfl rfl
end Go.Proofs.Ytphmkhaboghagaa
/-
  Ordinals: what a law is given; the first laws.
-/
namespace Go.Proofs.Ytphmkhaboghagaa
open Go K Od
set_option linter.unusedSimpArgs false
set_option linter.unusedVariables false
set_option maxRecDepth 8000
set_option maxHeartbeats 400000

theorem od_of (n : Nat) (h : ∀ (xs : List AV), HasC Try.prog n 115 xs → ∃ (a : Od) (c : Int), xs = [.sl false (elems a), .int .i64 c] ∧ fit a) :
    ∀ es : List AV, es.length ≤ maxLen → (∀ x ∈ es, HasC Try.prog n 115 x.cells ∧ (∃ cs, x = .agg cs)) → ∃ a : Od, es = elems a ∧ fit a
  | [], _, _ => ⟨.nil, rfl, trivial⟩
  | x :: es, hl, hx => by
    obtain ⟨a, h1, h2⟩ := od_of n h es (by simp at hl; omega) (fun y hy => hx y (List.mem_cons_of_mem _ hy))
    obtain ⟨h3, cs, rfl⟩ := hx _ (List.mem_cons_self ..)
    obtain ⟨e, c, h4, h5⟩ := h _ h3
    simp only [AV.cells] at h4
    subst h4 h1
    exact ⟨.cons e c a, rfl, by simp [elems_length] at hl; omega, h5, h2⟩

theorem laws_odC : ∀ (n : Nat), (∀ (xs : List AV), HasC Try.prog n 115 xs → ∃ (a : Od) (c : Int), xs = [.sl false (elems a), .int .i64 c] ∧ fit a) ∧
    (∀ xs, HasC Try.prog n 32 xs → ∃ a : Od, xs = [.sl false (elems a)] ∧ fit a) ∧
    (∀ xs, HasC Try.prog n 30 xs → ∃ a : Od, xs = [.sl false (elems a)] ∧ fit a)
  | 0 => ⟨fun xs h => by simp [HasC] at h, fun xs h => by simp [HasC] at h, fun xs h => by simp [HasC] at h⟩
  | n + 1 => by
    obtain ⟨ih1, ih2, ih3⟩ := laws_odC n
    refine ⟨fun xs h => ?_, fun xs h => ?_, fun xs h => ?_⟩
    · have hu := Try.underlying115
      simp only [HasC, hu] at h
      obtain ⟨hl, hf⟩ := h
      rw [ty_c115] at hl
      match xs, hl with
      | [x, y], _ =>
        have h0 := hf _ (List.mem_cons_self ..)
        have h1 := hf _ (List.mem_cons_of_mem _ (List.mem_cons_self ..))
        simp only [ty_c32, List.drop_zero, List.take_succ_cons, List.take_zero] at h0
        simp only [ty_c3, List.drop_succ_cons, List.drop_zero, List.take_succ_cons, List.take_zero] at h1
        obtain ⟨a, e0, f0⟩ := ih2 _ h0
        obtain ⟨c, e1, _⟩ := h1.int Try.underlying3
        simp at e0 e1
        subst e0 e1
        exact ⟨a, c, rfl, f0⟩
    · have hu := Try.underlying32
      simp only [HasC, hu] at h
      obtain ⟨hl, hf⟩ := h
      rw [ty_c32] at hl
      match xs, hl with
      | [x], _ =>
        have h0 := hf _ (List.mem_cons_self ..)
        simp only [ty_c30, List.drop_zero, List.take_succ_cons, List.take_zero] at h0
        exact ih3 _ h0
    · have hu := Try.underlying30
      simp only [HasC, hu] at h
      obtain ⟨es, rfl, hl, hx⟩ := h
      obtain ⟨a, rfl, hf⟩ := od_of n ih1 es hl (fun x hx' => ⟨(hx x hx').1, (hx x hx').2.2.1 ty_a115⟩)
      exact ⟨a, rfl, hf⟩

theorem laws_isOd {x : AV} (h : IsOf Try.prog 32 x) : ∃ a : Od, x = av a ∧ fit a := by
  obtain ⟨n, cs, rfl, _, h⟩ := h.agg ty_a32
  obtain ⟨a, rfl, hf⟩ := (laws_odC n).2.1 _ h
  exact ⟨a, rfl, hf⟩

/-- The laws' own copy, as a value. -/
theorem toOrdinal_ok (a : Od) (hs : a.sz ≤ 1048576) : Ct Try.prog 19 [av a] [] (av a) [] := by
  obtain ⟨x, M, hc, S, ho, _, _⟩ := toOrdinal_of (toS_ok a hs)
  exact hc.toV (Vw.agg (.cons (ho.view false) .nil))
theorem szOrdinal_ok (a : Od) (l : Int) (hf : fit a) (h0 : 0 ≤ l) (h1 : l ≤ 1048576) : Ct Try.prog 17 [av a, .int .i64 l] [] (.int .i64 (szR a.sz l)) [] :=
  szOrdinal_of szR_neg (szTermS_ok a l hf h0 h1)
theorem eqOrdinal_ok (a b : Od) (ha : a.sz ≤ 1048576) : Ct Try.prog 14 [av a, av b] [] (.bool (eqT a b)) [] := eqOrdinal_of (eqTermS_ok a b ha)

end Go.Proofs.Ytphmkhaboghagaa
/-
  Ordinals as trees: zero, the limit part. No program in sight.
-/
namespace Go.Proofs.Ytphmkhaboghagaa
open Go K Od
set_option linter.unusedSimpArgs false
set_option linter.unusedVariables false

def isZ : Od → Bool
  | .nil => true
  | .cons _ _ _ => false
theorem isZ_len (a : Od) : ((a.len : Int) == 0) = isZ a := by
  cases a <;> simp [isZ, len]; omega
theorem isZ_nil {a : Od} (h : isZ a = true) : a = .nil := by cases a <;> simp_all [isZ]
/-- A tree's last term. -/
theorem od_last : ∀ a : Od, a = Od.nil ∨ ∃ (d e : Od) (c : Int), a = d.app (Od.cons e c .nil)
  | .nil => .inl rfl
  | .cons e c r => by
    rcases od_last r with rfl | ⟨d, e', c', rfl⟩
    · exact .inr ⟨Od.nil, e, c, rfl⟩
    · exact .inr ⟨Od.cons e c d, e', c', rfl⟩
/-- The part that is a limit or 0, and what is left. -/
def partT : Od → Od × Int
  | .nil => (.nil, 0)
  | .cons e c .nil => if isZ e then (.nil, c) else (.cons e c .nil, 0)
  | .cons e c r => (.cons e c (partT r).1, (partT r).2)
theorem part_snoc : ∀ (d e : Od) (c : Int), partT (d.app (.cons e c .nil)) = if isZ e then (d, c) else (d.app (.cons e c .nil), 0)
  | .nil, e, c => rfl
  | .cons e' c' .nil, e, c => by
    show partT (.cons e' c' (.cons e c .nil)) = _
    rw [partT]
    · rw [partT]; split <;> rfl
    · intro h; cases h
  | .cons e' c' (.cons e2 c2 d), e, c => by
    show partT (.cons e' c' ((Od.cons e2 c2 d).app (.cons e c .nil))) = _
    rw [partT]
    · rw [part_snoc (.cons e2 c2 d) e c]; split <;> rfl
    · intro h; cases h
def limT (a : Od) : Bool := !isZ a && ((partT a).2 == 0)

theorem elems_take (d r : Od) : (elems (d.app r)).take d.len = elems d := by
  rw [elems_app, List.take_append_of_le_length (by rw [elems_length]; exact Nat.le_refl _), List.take_of_length_le (by rw [elems_length]; exact Nat.le_refl _)]
theorem elems_drop (d r : Od) : (elems (d.app r)).drop d.len = elems r := by
  rw [elems_app, List.drop_append_of_le_length (by rw [elems_length]; exact Nat.le_refl _), List.drop_of_length_le (by rw [elems_length]; exact Nat.le_refl _), List.nil_append]
theorem elems_cells_t (a : Od) : (∀ y ∈ elems a, y.cells.length = 2) = True := eq_true (fun y hy => elems_cells a y hy)

end Go.Proofs.Ytphmkhaboghagaa
/-
  Ordinals: comparing, nodes, limits: the laws of their values.
-/
namespace Go.Proofs.Ytphmkhaboghagaa
open Go K Od
set_option linter.unusedSimpArgs false
set_option linter.unusedVariables false
set_option maxHeartbeats 400000

end Go.Proofs.Ytphmkhaboghagaa
/-
  Hydras: which are right, by both.
-/
namespace Go.Proofs.Ytphmkhaboghagaa
open Go K Od
set_option linter.unusedSimpArgs false
set_option linter.unusedVariables false
set_option maxHeartbeats 1600000
set_option maxRecDepth 8000

abbrev ints (l : List Int) : List AV := l.map (AV.int .i64)
theorem ints_noOwn (l : List Int) : noOwn (ints l) = true := by simp [noOwn, ints, AV.cells]
theorem ints_pure : ∀ l : List Int, pureL (ints l) = true
  | [] => rfl
  | x :: r => by
    have := ints_pure r
    simp only [ints, List.map_cons, pureL, pureB, Bool.true_and] at this ⊢
    exact this
theorem ints_get (d r : List Int) (x : Int) : (ints (d ++ x :: r))[d.length]? = some (.int .i64 x) := by simp

/-- Where a number stands in a list; -1 if nowhere. -/
def findI (v : Int) : List Int → Int → Int
  | [], _ => -1
  | x :: r, k => if v = x then k else findI v r (k + 1)
theorem index_ok (l : List Int) (v : Int) (hl : l.length ≤ 1048576) : Ct Try.prog 112 [.sl false (ints l), .int .i64 v] [] (.int .i64 (findI v l 0)) [] := by
  refine Ct.by_ hmix [] Try.func112 rfl ?_
  simp only [run0, run1, run2, run3, run4, run5, run6, run7, run8, run9, run10, run11, run12, run13, run14, run15, run16, run17, run18, run19, run20, run21, run22, reduceCtorEq, Nat.reduceEqDiff, Nat.reduceAdd, Nat.reduceSub, Nat.reduceLeDiff, indexAddrA, indexRefA, appendA, strA, Nat.reduceMul, Nat.zero_mul, Nat.reduceMod, Int.reduceEq, Int.reduceLT, Int.reduceLE, Nat.reduceLT, Nat.lt_irrefl, Nat.reduceBEq, tys0, tys1, tys2, tys3, tys4, tys5, tys6, tys7, tys8, tys9, tys10, tys11, tys12, tys13, tys14, tys15, tys16, tys17, tys18, Try.ntmps112, Try.results112]
  refine AWp.loop_inv (ι := List Int × List Int) (fun p => ⟨[.sl false (ints l), .int .i64 v, .junk, .junk, .int .i64 0, .junk, .junk, .int .i64 l.length, .int .i64 p.1.length, .junk, .junk, .junk, .junk, .junk, .junk, .junk, .junk, .junk, .junk], []⟩)
    (fun p => l = p.1 ++ p.2 ∧ findI v p.2 p.1.length = findI v l 0) (fun p => p.2.length) ([], l) ⟨rfl, rfl⟩ ⟨by simp only [List.length_nil, Int.natCast_zero]; repeat constructor, rfl⟩ ?_
  rintro ⟨d, r⟩ ⟨ha, h2⟩
  refine W.sound hmix (E := []) ?_
  simp only at ha h2
  have hda : d.length + r.length = l.length := by rw [ha, List.length_append]
  cases r with
  | nil =>
    have e1 : ¬ ((d.length : Int) < (l.length : Int)) := by simp at hda; omega
    simp only [run0, run1, run2, run3, run4, run5, run6, run7, run8, run9, run10, run11, run12, run13, run14, run15, run16, run17, run18, run19, run20, run21, run22, reduceCtorEq, Nat.reduceEqDiff, Nat.reduceAdd, Nat.reduceSub, Nat.reduceLeDiff, indexAddrA, indexRefA, appendA, strA, Nat.reduceMul, Nat.zero_mul, Nat.reduceMod, Int.reduceEq, Int.reduceLT, Int.reduceLE, Nat.reduceLT, Nat.lt_irrefl, Nat.reduceBEq, tys0, tys1, tys2, tys3, tys4, tys5, tys6, tys7, tys8, tys9, tys10, tys11, tys12, tys13, tys14, tys15, tys16, tys17, tys18, Try.ntmps112, Try.results112, e1]
    exact Fin.eq (by rw [← h2]; rfl) rfl
  | cons x r =>
    simp only [List.length_cons] at hda
    have e1 : (d.length : Int) < (l.length : Int) := by omega
    have e2 : (ints l)[d.length]? = some (.int .i64 x) := by rw [ha]; exact ints_get d r x
    have e5 : IntKind.i64.wrap ((d.length : Int) + 1) = ((d ++ [x]).length : Int) := by rw [w64_id (by omega) (by omega)]; simp
    simp only [findI] at h2
    by_cases hv : v = x
    · have e3 : (v == x) = true := by simp [hv]
      rw [if_pos hv] at h2
      simp only [run0, run1, run2, run3, run4, run5, run6, run7, run8, run9, run10, run11, run12, run13, run14, run15, run16, run17, run18, run19, run20, run21, run22, reduceCtorEq, Nat.reduceEqDiff, Nat.reduceAdd, Nat.reduceSub, Nat.reduceLeDiff, indexAddrA, indexRefA, appendA, strA, Nat.reduceMul, Nat.zero_mul, Nat.reduceMod, Int.reduceEq, Int.reduceLT, Int.reduceLE, Nat.reduceLT, Nat.lt_irrefl, Nat.reduceBEq, tys0, tys1, tys2, tys3, tys4, tys5, tys6, tys7, tys8, tys9, tys10, tys11, tys12, tys13, tys14, tys15, tys16, tys17, tys18, Try.ntmps112, Try.results112, e1, e2, e3, Int.toNat_natCast, Int.natCast_nonneg]
      exact Fin.eq (by rw [← h2]) rfl
    · have e3 : (v == x) = false := by simp [hv]
      rw [if_neg hv] at h2
      simp only [run0, run1, run2, run3, run4, run5, run6, run7, run8, run9, run10, run11, run12, run13, run14, run15, run16, run17, run18, run19, run20, run21, run22, reduceCtorEq, Nat.reduceEqDiff, Nat.reduceAdd, Nat.reduceSub, Nat.reduceLeDiff, indexAddrA, indexRefA, appendA, strA, Nat.reduceMul, Nat.zero_mul, Nat.reduceMod, Int.reduceEq, Int.reduceLT, Int.reduceLE, Nat.reduceLT, Nat.lt_irrefl, Nat.reduceBEq, tys0, tys1, tys2, tys3, tys4, tys5, tys6, tys7, tys8, tys9, tys10, tys11, tys12, tys13, tys14, tys15, tys16, tys17, tys18, Try.ntmps112, Try.results112, e1, e2, e3, e5, Int.toNat_natCast, Int.natCast_nonneg]
      refine ⟨(d ++ [x], r), ⟨by simp [ha], ?_⟩, by simp, by simp only [List.length_append, List.length_cons, List.length_nil]; repeat constructor⟩
      simp only [List.length_append, List.length_cons, List.length_nil, Nat.zero_add, Int.natCast_add]
      exact h2
theorem findI_spec (v : Int) : ∀ (l : List Int) (k : Int), findI v l k = -1 ∧ v ∉ l ∨ ∃ d r, l = d ++ v :: r ∧ v ∉ d ∧ findI v l k = k + d.length
  | [], k => .inl ⟨rfl, by simp⟩
  | x :: r, k => by
    unfold findI
    by_cases h : v = x
    · rw [if_pos h]; subst h
      exact .inr ⟨[], r, rfl, by simp, by simp⟩
    · rw [if_neg h]
      rcases findI_spec v r (k + 1) with ⟨h1, h2⟩ | ⟨d, r', h1, h2, h3⟩
      · exact .inl ⟨h1, by simp [h, h2]⟩
      · refine .inr ⟨x :: d, r', by rw [h1]; rfl, by simp [h, h2], ?_⟩
        rw [h3]; simp only [List.length_cons]; omega

/-- The nodes above the next one, from the root on; each next one hangs at one of these. -/
def goodH : List Int → List Int → Int → Bool
  | _, [], _ => true
  | path, p :: r, i => decide (0 ≤ findI p path 0) && goodH (path.take (findI p path 0 + 1).toNat ++ [i]) r (i + 1)
def hydB : List Int → Bool
  | [] => false
  | p :: r => decide (r.length + 1 ≤ 40) && (p == -1) && goodH [0] r 1

theorem slice_ints {L : List AObj} {id g n h : Nat} (hL : eptrNow L id g = true) (h1 : h ≤ n) : sliceA Try.prog L 55 (.ref id [] g n) none (some (.int .i64 ((h : Nat) : Int))) = some (.ref id [] g h) := by
  have hi : (Try.prog.info? 3).isSome = true := by kernel_rfl
  simp only [sliceA, Try.underlying55, boundA]
  rw [if_pos ⟨by omega, by omega, hi, hL⟩, Int.toNat_natCast]
theorem take_snoc {path : List Int} {p : Int} (h : 0 ≤ findI p path 0) : (findI p path 0 + 1).toNat ≤ path.length ∧ ∃ k : Nat, findI p path 0 = (k : Int) ∧ k < path.length := by
  rcases findI_spec p path 0 with ⟨h1, _⟩ | ⟨d, r, h1, _, h3⟩
  · omega
  · have : path.length = d.length + (r.length + 1) := by rw [h1]; simp
    exact ⟨by omega, d.length, by omega, by omega⟩

theorem implHydra_ok (P : List Int) (hP : P.length ≤ 1048576) : Ct Try.prog 79 [.agg [.sl false (ints P)]] [] (.bool (hydB P)) [] := by
  refine Ct.by_ hmix [ 1000018] Try.func79 rfl ?_
  cases P with
  | nil =>
    have e1 : inB ((0 : Nat) : Int) 1 40 = false := by decide
    simp only [run0, run1, run2, run3, run4, run5, run6, run7, run8, run9, run10, run11, run12, run13, run14, run15, run16, run17, run18, run19, run20, run21, run22, reduceCtorEq, Nat.reduceEqDiff, Nat.reduceAdd, Nat.reduceSub, Nat.reduceLeDiff, indexAddrA, indexRefA, appendA, strA, Nat.reduceMul, Nat.zero_mul, Nat.reduceMod, Int.reduceEq, Int.reduceLT, Int.reduceLE, Nat.reduceLT, Nat.lt_irrefl, Nat.reduceBEq, tys0, tys1, tys2, tys3, tys4, tys5, tys6, tys7, tys8, tys9, tys10, tys11, tys12, tys13, tys14, tys15, tys16, tys17, tys18, Try.ntmps79, Try.results79]
    refine RunL.callp rfl rfl ok_f50 (in_ok ((0 : Nat) : Int) 1 40) (by first | rfl | simp only [pureL, pureB, Bool.and_self, Bool.and_true, Bool.true_and, Od.elems_pure, Od.pay_pure, Od.av_pure]) rfl ?_
    simp only [run0, run1, run2, run3, run4, run5, run6, run7, run8, run9, run10, run11, run12, run13, run14, run15, run16, run17, run18, run19, run20, run21, run22, reduceCtorEq, Nat.reduceEqDiff, Nat.reduceAdd, Nat.reduceSub, Nat.reduceLeDiff, indexAddrA, indexRefA, appendA, strA, Nat.reduceMul, Nat.zero_mul, Nat.reduceMod, Int.reduceEq, Int.reduceLT, Int.reduceLE, Nat.reduceLT, Nat.lt_irrefl, Nat.reduceBEq, tys0, tys1, tys2, tys3, tys4, tys5, tys6, tys7, tys8, tys9, tys10, tys11, tys12, tys13, tys14, tys15, tys16, tys17, tys18, Try.ntmps79, Try.results79, e1]
    exact Fin.eq rfl rfl
  | cons p r =>
    simp only [List.length_cons] at hP
    have hl1 : (ints (p :: r)).length = r.length + 1 := by simp
    by_cases h40 : r.length + 1 ≤ 40
    · have e1 : inB ((r.length + 1 : Nat) : Int) 1 40 = true := by simp [inB]; omega
      have e2 : (ints (p :: r))[(0 : Int).toNat]? = some (.int .i64 p) := rfl
      cases hp : (p == -1)
      · have hp' : (p != -1) = true := by simp [bne, hp]
        simp only [run0, run1, run2, run3, run4, run5, run6, run7, run8, run9, run10, run11, run12, run13, run14, run15, run16, run17, run18, run19, run20, run21, run22, reduceCtorEq, Nat.reduceEqDiff, Nat.reduceAdd, Nat.reduceSub, Nat.reduceLeDiff, indexAddrA, indexRefA, appendA, strA, Nat.reduceMul, Nat.zero_mul, Nat.reduceMod, Int.reduceEq, Int.reduceLT, Int.reduceLE, Nat.reduceLT, Nat.lt_irrefl, Nat.reduceBEq, tys0, tys1, tys2, tys3, tys4, tys5, tys6, tys7, tys8, tys9, tys10, tys11, tys12, tys13, tys14, tys15, tys16, tys17, tys18, Try.ntmps79, Try.results79]
        refine RunL.callp rfl rfl ok_f50 (in_ok ((r.length + 1 : Nat) : Int) 1 40) (by first | rfl | simp only [pureL, pureB, Bool.and_self, Bool.and_true, Bool.true_and, Od.elems_pure, Od.pay_pure, Od.av_pure]) rfl ?_
        simp only [run0, run1, run2, run3, run4, run5, run6, run7, run8, run9, run10, run11, run12, run13, run14, run15, run16, run17, run18, run19, run20, run21, run22, reduceCtorEq, Nat.reduceEqDiff, Nat.reduceAdd, Nat.reduceSub, Nat.reduceLeDiff, indexAddrA, indexRefA, appendA, strA, Nat.reduceMul, Nat.zero_mul, Nat.reduceMod, Int.reduceEq, Int.reduceLT, Int.reduceLE, Nat.reduceLT, Nat.lt_irrefl, Nat.reduceBEq, tys0, tys1, tys2, tys3, tys4, tys5, tys6, tys7, tys8, tys9, tys10, tys11, tys12, tys13, tys14, tys15, tys16, tys17, tys18, Try.ntmps79, Try.results79, e1, Int.toNat_zero, List.getElem?_cons_zero, hp']
        exact Fin.eq (by simp [hydB, hp]) rfl
      have hp' : (p != -1) = false := by simp [bne, hp]
      have hB : hydB (p :: r) = goodH [0] r 1 := by simp [hydB, h40, hp]
      rw [hB]
      simp only [run0, run1, run2, run3, run4, run5, run6, run7, run8, run9, run10, run11, run12, run13, run14, run15, run16, run17, run18, run19, run20, run21, run22, reduceCtorEq, Nat.reduceEqDiff, Nat.reduceAdd, Nat.reduceSub, Nat.reduceLeDiff, indexAddrA, indexRefA, appendA, strA, Nat.reduceMul, Nat.zero_mul, Nat.reduceMod, Int.reduceEq, Int.reduceLT, Int.reduceLE, Nat.reduceLT, Nat.lt_irrefl, Nat.reduceBEq, tys0, tys1, tys2, tys3, tys4, tys5, tys6, tys7, tys8, tys9, tys10, tys11, tys12, tys13, tys14, tys15, tys16, tys17, tys18, Try.ntmps79, Try.results79]
      refine RunL.callp rfl rfl ok_f50 (in_ok ((r.length + 1 : Nat) : Int) 1 40) (by first | rfl | simp only [pureL, pureB, Bool.and_self, Bool.and_true, Bool.true_and, Od.elems_pure, Od.pay_pure, Od.av_pure]) rfl ?_
      simp only [run0, run1, run2, run3, run4, run5, run6, run7, run8, run9, run10, run11, run12, run13, run14, run15, run16, run17, run18, run19, run20, run21, run22, reduceCtorEq, Nat.reduceEqDiff, Nat.reduceAdd, Nat.reduceSub, Nat.reduceLeDiff, indexAddrA, indexRefA, appendA, strA, Nat.reduceMul, Nat.zero_mul, Nat.reduceMod, Int.reduceEq, Int.reduceLT, Int.reduceLE, Nat.reduceLT, Nat.lt_irrefl, Nat.reduceBEq, tys0, tys1, tys2, tys3, tys4, tys5, tys6, tys7, tys8, tys9, tys10, tys11, tys12, tys13, tys14, tys15, tys16, tys17, tys18, Try.ntmps79, Try.results79, e1, Int.toNat_zero, List.getElem?_cons_zero, hp']
      refine AWp.loop_inv (ι := List Int × List Int × List Int × Nat) (fun q => ⟨[.agg [.sl false (ints (p :: r))], .ptr 0 0, .bool false, .ref 1 [] q.2.2.2 q.2.2.1.length, .int .i64 ((q.1.length + 1 : Nat) : Int), .junk, .junk, .junk, .junk, .junk, .junk, .junk, .junk, .junk, .junk, .junk, .junk, .junk, .junk, .junk, .junk, .junk, .junk, .junk, .junk, .junk, .junk, .junk, .junk, .junk, .junk, .junk, .junk, .junk, .junk, .junk, .junk, .junk, .junk, .junk, .junk, .junk], [.box 60 [.sl false (ints (p :: r))], .vec 3 1 q.2.2.2 (ints q.2.2.1)]⟩)
        (fun q => r = q.1 ++ q.2.1 ∧ q.2.2.1.length ≤ q.1.length + 1 ∧ goodH q.2.2.1 q.2.1 ((q.1.length + 1 : Nat) : Int) = goodH [0] r 1) (fun q => q.2.1.length) ([], r, [0], 0) ⟨rfl, Nat.le_refl _, rfl⟩ ⟨by repeat constructor, rfl⟩ ?_
      rintro ⟨d, r', path, g⟩ ⟨ha, hpl, h2⟩
      refine W.sound hmix (E := [1000018]) ?_
      simp only at ha hpl h2
      have hda : d.length + r'.length = r.length := by rw [ha, List.length_append]
      cases r' with
      | nil =>
        have f1 : ¬ (((d.length + 1 : Nat) : Int) < ((r.length + 1 : Nat) : Int)) := by simp at hda; omega
        simp only [run0, run1, run2, run3, run4, run5, run6, run7, run8, run9, run10, run11, run12, run13, run14, run15, run16, run17, run18, run19, run20, run21, run22, reduceCtorEq, Nat.reduceEqDiff, Nat.reduceAdd, Nat.reduceSub, Nat.reduceLeDiff, indexAddrA, indexRefA, appendA, strA, Nat.reduceMul, Nat.zero_mul, Nat.reduceMod, Int.reduceEq, Int.reduceLT, Int.reduceLE, Nat.reduceLT, Nat.lt_irrefl, Nat.reduceBEq, tys0, tys1, tys2, tys3, tys4, tys5, tys6, tys7, tys8, tys9, tys10, tys11, tys12, tys13, tys14, tys15, tys16, tys17, tys18, Try.ntmps79, Try.results79, f1]
        exact Fin.eq (by rw [← h2]; rfl) rfl
      | cons x r' =>
        simp only [List.length_cons] at hda
        have f1 : ((d.length + 1 : Nat) : Int) < ((r.length + 1 : Nat) : Int) := by omega
        have f2 : (ints (p :: r))[d.length + 1]? = some (.int .i64 x) := by
          have := ints_get (p :: d) r' x
          rw [show (p :: d) ++ x :: r' = p :: r by rw [ha]; rfl] at this
          simpa using this
        have f5 : IntKind.i64.wrap (((d.length + 1 : Nat) : Int) + 1) = (((d ++ [x]).length + 1 : Nat) : Int) := by rw [w64_id (by omega) (by omega)]; simp
        have hv : VwL [.box 60 [.sl false (ints (p :: r))], .vec 3 1 g (ints path)] [.ref 1 [] g path.length, .int .i64 x] [.sl false (ints path), .int .i64 x] := by
          refine .cons ?_ (.cons (.pur (.int _ _)) .nil)
          have := Vw.refPur (L := [.box 60 [.sl false (ints (p :: r))], .vec 3 1 g (ints path)]) (id := 1) (g := g) (n := path.length) (o := false) rfl (by simp) (fun e he c hc => by
            obtain ⟨y, _, rfl⟩ := List.mem_map.1 he
            simp only [AV.cells, List.mem_cons, List.not_mem_nil, or_false] at hc
            subst hc
            exact ⟨.int _ _, fun xs h => by cases h⟩)
          rw [List.take_of_length_le (by simp)] at this
          exact this
        have f2' : (List.map (AV.int .i64) r)[d.length]? = some (.int .i64 x) := by rw [ha]; exact ints_get d r' x
        have f2'' : (AV.int .i64 p :: List.map (AV.int .i64) r)[d.length + 1]? = some (.int .i64 x) := by rw [List.getElem?_cons_succ]; exact f2'
        simp only [goodH] at h2
        simp only [run0, run1, run2, run3, run4, run5, run6, run7, run8, run9, run10, run11, run12, run13, run14, run15, run16, run17, run18, run19, run20, run21, run22, reduceCtorEq, Nat.reduceEqDiff, Nat.reduceAdd, Nat.reduceSub, Nat.reduceLeDiff, indexAddrA, indexRefA, appendA, strA, Nat.reduceMul, Nat.zero_mul, Nat.reduceMod, Int.reduceEq, Int.reduceLT, Int.reduceLE, Nat.reduceLT, Nat.lt_irrefl, Nat.reduceBEq, tys0, tys1, tys2, tys3, tys4, tys5, tys6, tys7, tys8, tys9, tys10, tys11, tys12, tys13, tys14, tys15, tys16, tys17, tys18, Try.ntmps79, Try.results79, f1, f2, f2', f2'', Int.toNat_natCast, Int.natCast_nonneg]
        refine RunL.lendV rfl rfl ok_f112 rfl (index_ok path x (by omega)) hv rfl rfl ?_
        by_cases hk : 0 ≤ findI x path 0
        · obtain ⟨hk1, k, hk2, hk3⟩ := take_snoc hk
          rw [hk2] at h2 hk1
          have f6 : IntKind.i64.wrap ((k : Int) + 1) = ((k + 1 : Nat) : Int) := by rw [w64_id (by omega) (by omega)]; omega
          have f7 : ¬ ((k : Int) < 0) := by omega
          have f8 : ((k + 1 : Nat) : Int) ≤ (path.length : Int) := by omega
          have f9 : k + 1 + 1 ≤ 137438953472 := by omega
          have f10 := ints_noOwn path
          have e0 : decide (0 ≤ (k : Int)) = true := by simp
          rw [e0, Bool.true_and, show ((k : Int) + 1).toNat = k + 1 by omega] at h2
          have hsl : ∀ B : AObj, sliceA Try.prog [B, .vec 3 1 g (ints path)] 55 (.ref 1 [] g path.length) none (some (.int .i64 ((k + 1 : Nat) : Int))) = some (.ref 1 [] g (k + 1)) := fun B => slice_ints (by simp [eptrNow]) (by omega)
          by_cases hfull : k + 1 = path.length
          · have hf : (k + 1 = path.length) = True := eq_true hfull
            simp only [run0, run1, run2, run3, run4, run5, run6, run7, run8, run9, run10, run11, run12, run13, run14, run15, run16, run17, run18, run19, run20, run21, run22, reduceCtorEq, Nat.reduceEqDiff, Nat.reduceAdd, Nat.reduceSub, Nat.reduceLeDiff, indexAddrA, indexRefA, appendA, strA, Nat.reduceMul, Nat.zero_mul, Nat.reduceMod, Int.reduceEq, Int.reduceLT, Int.reduceLE, Nat.reduceLT, Nat.lt_irrefl, Nat.reduceBEq, tys0, tys1, tys2, tys3, tys4, tys5, tys6, tys7, tys8, tys9, tys10, tys11, tys12, tys13, tys14, tys15, tys16, tys17, tys18, Try.ntmps79, Try.results79, hf, hk2, hsl, List.length_map, f5, f6, f7, f8, f9, f10, Int.toNat_natCast, Int.natCast_nonneg, Int.le_refl, Int.natCast_zero]
            have hpl2 : (path.take (k + 1) ++ [((d.length + 1 : Nat) : Int)]).length = k + 1 + 1 := by simp; omega
            refine ⟨(d ++ [x], r', path.take (k + 1) ++ [((d.length + 1 : Nat) : Int)], g + 1), ⟨by simp [ha], by rw [hpl2]; simp; omega, ?_⟩, by simp, ?_, ?_⟩
            · rw [← h2]; simp
            · simp only [hpl2, List.length_append, List.length_cons, List.length_nil, Nat.zero_add]
              repeat constructor
            · rw [List.take_of_length_le (by omega)]; simp
          · have hfull2 : k + 1 ≤ path.length := by omega
            simp only [run0, run1, run2, run3, run4, run5, run6, run7, run8, run9, run10, run11, run12, run13, run14, run15, run16, run17, run18, run19, run20, run21, run22, reduceCtorEq, Nat.reduceEqDiff, Nat.reduceAdd, Nat.reduceSub, Nat.reduceLeDiff, indexAddrA, indexRefA, appendA, strA, Nat.reduceMul, Nat.zero_mul, Nat.reduceMod, Int.reduceEq, Int.reduceLT, Int.reduceLE, Nat.reduceLT, Nat.lt_irrefl, Nat.reduceBEq, tys0, tys1, tys2, tys3, tys4, tys5, tys6, tys7, tys8, tys9, tys10, tys11, tys12, tys13, tys14, tys15, tys16, tys17, tys18, Try.ntmps79, Try.results79, hk2, hsl, List.length_map, f5, f6, f7, f8, f9, f10, hfull, hfull2, Int.toNat_natCast, Int.natCast_nonneg, Int.le_refl, Int.natCast_zero]
            have hpl2 : (path.take (k + 1) ++ [((d.length + 1 : Nat) : Int)]).length = k + 1 + 1 := by simp; omega
            refine ⟨(d ++ [x], r', path.take (k + 1) ++ [((d.length + 1 : Nat) : Int)], g + 2), ⟨by simp [ha], by rw [hpl2]; simp; omega, ?_⟩, by simp, ?_, ?_⟩
            · rw [← h2]; simp
            · simp only [hpl2, List.length_append, List.length_cons, List.length_nil, Nat.zero_add]
              repeat constructor
            · simp [List.map_take]
        · have f7 : findI x path 0 < 0 := by omega
          have e0 : decide (0 ≤ findI x path 0) = false := by simp; omega
          rw [e0] at h2
          simp only [run0, run1, run2, run3, run4, run5, run6, run7, run8, run9, run10, run11, run12, run13, run14, run15, run16, run17, run18, run19, run20, run21, run22, reduceCtorEq, Nat.reduceEqDiff, Nat.reduceAdd, Nat.reduceSub, Nat.reduceLeDiff, indexAddrA, indexRefA, appendA, strA, Nat.reduceMul, Nat.zero_mul, Nat.reduceMod, Int.reduceEq, Int.reduceLT, Int.reduceLE, Nat.reduceLT, Nat.lt_irrefl, Nat.reduceBEq, tys0, tys1, tys2, tys3, tys4, tys5, tys6, tys7, tys8, tys9, tys10, tys11, tys12, tys13, tys14, tys15, tys16, tys17, tys18, Try.ntmps79, Try.results79, f7]
          exact Fin.eq (by rw [← h2]; rfl) rfl
    · have e1 : inB ((r.length + 1 : Nat) : Int) 1 40 = false := by simp [inB]; omega
      simp only [run0, run1, run2, run3, run4, run5, run6, run7, run8, run9, run10, run11, run12, run13, run14, run15, run16, run17, run18, run19, run20, run21, run22, reduceCtorEq, Nat.reduceEqDiff, Nat.reduceAdd, Nat.reduceSub, Nat.reduceLeDiff, indexAddrA, indexRefA, appendA, strA, Nat.reduceMul, Nat.zero_mul, Nat.reduceMod, Int.reduceEq, Int.reduceLT, Int.reduceLE, Nat.reduceLT, Nat.lt_irrefl, Nat.reduceBEq, tys0, tys1, tys2, tys3, tys4, tys5, tys6, tys7, tys8, tys9, tys10, tys11, tys12, tys13, tys14, tys15, tys16, tys17, tys18, Try.ntmps79, Try.results79]
      refine RunL.callp rfl rfl ok_f50 (in_ok ((r.length + 1 : Nat) : Int) 1 40) (by first | rfl | simp only [pureL, pureB, Bool.and_self, Bool.and_true, Bool.true_and, Od.elems_pure, Od.pay_pure, Od.av_pure]) rfl ?_
      simp only [run0, run1, run2, run3, run4, run5, run6, run7, run8, run9, run10, run11, run12, run13, run14, run15, run16, run17, run18, run19, run20, run21, run22, reduceCtorEq, Nat.reduceEqDiff, Nat.reduceAdd, Nat.reduceSub, Nat.reduceLeDiff, indexAddrA, indexRefA, appendA, strA, Nat.reduceMul, Nat.zero_mul, Nat.reduceMod, Int.reduceEq, Int.reduceLT, Int.reduceLE, Nat.reduceLT, Nat.lt_irrefl, Nat.reduceBEq, tys0, tys1, tys2, tys3, tys4, tys5, tys6, tys7, tys8, tys9, tys10, tys11, tys12, tys13, tys14, tys15, tys16, tys17, tys18, Try.ntmps79, Try.results79, e1]
      exact Fin.eq (by simp [hydB, h40]) rfl

end Go.Proofs.Ytphmkhaboghagaa
/-
  Hydras: which are right, by the reference.
-/
namespace Go.Proofs.Ytphmkhaboghagaa
open Go K Od
set_option linter.unusedSimpArgs false
set_option linter.unusedVariables false
set_option maxHeartbeats 1600000
set_option maxRecDepth 8000

/-- The number ahead; -1 at the end. -/
def hd : List Int → Int
  | [] => -1
  | a :: _ => a
theorem hd_cons (a : Int) (r : List Int) : hd (a :: r) = a := rfl
theorem hd_nil : hd [] = -1 := rfl
/-- A way up: each number's parent is the next one. -/
def Up (P : List Int) : List Int → Prop
  | [] => True
  | a :: r => hd r < a ∧ P[a.toNat]? = some (hd r) ∧ Up P r
theorem hd_ge {P : List Int} : ∀ {l : List Int}, Up P l → -1 ≤ hd l
  | [], _ => Int.le_refl _
  | a :: r, h => by
    have := hd_ge h.2.2
    have := h.1
    simp only [hd]; omega
theorem up_lt {P : List Int} : ∀ {l : List Int} {a : Int}, Up P (a :: l) → ∀ x ∈ l, x < a
  | [], a, _, x, hx => by simp at hx
  | b :: r, a, h, x, hx => by
    have h1 := h.1
    simp only [hd] at h1
    rcases List.mem_cons.1 hx with rfl | hx
    · exact h1
    · have := up_lt h.2.2 x hx; omega
theorem up_suf {P : List Int} : ∀ {d l : List Int}, Up P (d ++ l) → Up P l
  | [], l, h => h
  | a :: d, l, h => up_suf (d := d) h.2.2
theorem findI_app (v : Int) : ∀ (d r : List Int) (k : Int), v ∉ d → findI v (d ++ v :: r) k = k + d.length
  | [], r, k, _ => by simp [findI]
  | x :: d, r, k, h => by
    simp only [List.mem_cons, not_or] at h
    simp only [List.cons_append, findI, if_neg h.1, findI_app v d r (k + 1) h.2, List.length_cons]
    omega
theorem findI_no (v : Int) : ∀ (d : List Int) (k : Int), v ∉ d → findI v d k = -1
  | [], k, _ => rfl
  | x :: d, k, h => by
    simp only [List.mem_cons, not_or] at h
    simp only [findI, if_neg h.1, findI_no v d (k + 1) h.2]

def goodS : List Int → List Int → List Int → Bool
  | [], _, [] => true
  | [], _, p :: r => (p == -1) && goodH [0] r 1
  | d, rp, r => goodH rp.reverse r d.length
def hyS (P : List Int) : Bool := goodS [] [] P && inB P.length 1 40
theorem hyS_eq (P : List Int) : hyS P = hydB P := by
  cases P with
  | nil => rfl
  | cons p r =>
    simp only [hyS, goodS, hydB, inB, List.length_cons]
    have e1 : decide (1 ≤ ((r.length + 1 : Nat) : Int)) = true := by simp; omega
    have e2 : decide (((r.length + 1 : Nat) : Int) ≤ 40) = decide (r.length + 1 ≤ 40) := by
      rw [Bool.eq_iff_iff, decide_eq_true_eq, decide_eq_true_eq]; omega
    rw [e1, e2, Bool.true_and]
    cases decide (r.length + 1 ≤ 40) <;> simp

theorem goodS_no {d rp r : List Int} {x : Int} (hd' : d ≠ []) (hx : x ∉ rp) : goodS d rp (x :: r) = false := by
  cases d with
  | nil => exact absurd rfl hd'
  | cons y d =>
    have : findI x rp.reverse 0 = -1 := findI_no x _ 0 (by simpa using hx)
    simp only [goodS, goodH, this]
    rfl
theorem goodS_yes {d done t r : List Int} {x : Int} (hd' : d ≠ []) (hx : x ∉ t) : goodS d (done ++ x :: t) (x :: r) = goodS (d ++ [x]) ((d.length : Int) :: x :: t) r := by
  cases d with
  | nil => exact absurd rfl hd'
  | cons y d =>
    have e : (done ++ x :: t).reverse = t.reverse ++ x :: done.reverse := by simp
    have h1 : findI x (done ++ x :: t).reverse 0 = (t.length : Int) := by
      rw [e, findI_app x _ _ 0 (by simpa using hx)]; simp
    have h2 : (done ++ x :: t).reverse.take ((t.length : Int) + 1).toNat = (x :: t).reverse := by
      rw [e, show ((t.length : Int) + 1).toNat = t.reverse.length + 1 by simp, List.take_length_add_append]
      simp
    simp only [goodS, goodH, h1, h2, List.cons_append]
    have h3 : decide ((0 : Int) ≤ (t.length : Int)) = true := by simp
    rw [h3, Bool.true_and]
    simp
theorem specHydra_ok (P : List Int) (hP : P.length ≤ 1048576) : Ct Try.prog 76 [.agg [.sl false (ints P)]] [] (.bool (hydB P)) [] := by
  rw [← hyS_eq]
  refine Ct.by_ hmix [] Try.func76 rfl ?_
  simp only [run0, run1, run2, run3, run4, run5, run6, run7, run8, run9, run10, run11, run12, run13, run14, run15, run16, run17, run18, run19, run20, run21, run22, reduceCtorEq, Nat.reduceEqDiff, Nat.reduceAdd, Nat.reduceSub, Nat.reduceLeDiff, indexAddrA, indexRefA, appendA, strA, Nat.reduceMul, Nat.zero_mul, Nat.reduceMod, Int.reduceEq, Int.reduceLT, Int.reduceLE, Nat.reduceLT, Nat.lt_irrefl, Nat.reduceBEq, tys0, tys1, tys2, tys3, tys4, tys5, tys6, tys7, tys8, tys9, tys10, tys11, tys12, tys13, tys14, tys15, tys16, tys17, tys18, Try.ntmps76, Try.results76, List.length_map]
  have b1 : (true != false) = true := rfl
  have b2 : (false != true) = true := rfl
  have b3 : (true != true) = false := rfl
  have b4 : (false != false) = false := rfl
  have b5 : (-1 : Int) < 0 := by decide
  refine AWp.loop_inv (ι := List Int × List Int × List Int) (fun q => ⟨[.agg [.sl false (ints P)], .ptr 0 0, .bool false, .junk, .junk, .junk, .junk, .sl false (ints P), .int .i64 P.length, .int .i64 q.1.length, .junk, .junk, .junk, .junk, .junk, .junk, .junk, .junk, .junk, .junk, .junk, .junk, .junk, .junk, .junk, .junk, .junk, .junk, .junk, .junk, .junk, .junk, .junk, .junk, .junk, .junk, .junk, .junk, .junk, .junk, .junk, .junk, .junk], [.box 60 [.sl false (ints P)]]⟩)
    (fun q => P = q.1 ++ q.2.1 ∧ Up P q.2.2 ∧ hd q.2.2 = (q.1.length : Int) - 1 ∧ goodS q.1 q.2.2 q.2.1 = goodS [] [] P) (fun q => q.2.1.length) ([], P, []) ⟨rfl, trivial, rfl, rfl⟩ ⟨by simp only [List.length_nil, Int.natCast_zero]; repeat constructor, rfl⟩ ?_
  rintro ⟨d, r, rp⟩ ⟨ha, hu, hh, h2⟩
  refine W.sound hmix (E := []) ?_
  simp only at ha hu hh h2
  have hda : d.length + r.length = P.length := by rw [ha, List.length_append]
  cases r with
  | nil =>
    have f1 : ¬ ((d.length : Int) < (P.length : Int)) := by simp at hda; omega
    simp only [run0, run1, run2, run3, run4, run5, run6, run7, run8, run9, run10, run11, run12, run13, run14, run15, run16, run17, run18, run19, run20, run21, run22, reduceCtorEq, Nat.reduceEqDiff, Nat.reduceAdd, Nat.reduceSub, Nat.reduceLeDiff, indexAddrA, indexRefA, appendA, strA, Nat.reduceMul, Nat.zero_mul, Nat.reduceMod, Int.reduceEq, Int.reduceLT, Int.reduceLE, Nat.reduceLT, Nat.lt_irrefl, Nat.reduceBEq, tys0, tys1, tys2, tys3, tys4, tys5, tys6, tys7, tys8, tys9, tys10, tys11, tys12, tys13, tys14, tys15, tys16, tys17, tys18, Try.ntmps76, Try.results76, f1]
    refine RunL.callp rfl rfl ok_f59 (l1In_ok P.length 1 40) (by first | rfl | simp only [pureL, pureB, Bool.and_self, Bool.and_true, Bool.true_and, Od.elems_pure, Od.pay_pure, Od.av_pure]) rfl ?_
    simp only [run0, run1, run2, run3, run4, run5, run6, run7, run8, run9, run10, run11, run12, run13, run14, run15, run16, run17, run18, run19, run20, run21, run22, reduceCtorEq, Nat.reduceEqDiff, Nat.reduceAdd, Nat.reduceSub, Nat.reduceLeDiff, indexAddrA, indexRefA, appendA, strA, Nat.reduceMul, Nat.zero_mul, Nat.reduceMod, Int.reduceEq, Int.reduceLT, Int.reduceLE, Nat.reduceLT, Nat.lt_irrefl, Nat.reduceBEq, tys0, tys1, tys2, tys3, tys4, tys5, tys6, tys7, tys8, tys9, tys10, tys11, tys12, tys13, tys14, tys15, tys16, tys17, tys18, Try.ntmps76, Try.results76]
    refine Fin.eq ?_ rfl
    have h3 : goodS [] [] P = true := by
      rw [← h2]
      cases d with
      | nil => rfl
      | cons _ _ => rfl
    simp only [hyS, h3, Bool.true_and]
  | cons x r =>
    simp only [List.length_cons] at hda
    have f1 : (d.length : Int) < (P.length : Int) := by omega
    have f2 : (ints P)[d.length]? = some (.int .i64 x) := by rw [ha]; exact ints_get d r x
    have f5 : IntKind.i64.wrap ((d.length : Int) + 1) = ((d ++ [x]).length : Int) := by rw [w64_id (by omega) (by omega)]; simp
    have f6 : IntKind.i64.wrap ((d.length : Int) - 1) = hd rp := by rw [hh]; exact w64_id (by omega) (by omega)
    simp only [run0, run1, run2, run3, run4, run5, run6, run7, run8, run9, run10, run11, run12, run13, run14, run15, run16, run17, run18, run19, run20, run21, run22, reduceCtorEq, Nat.reduceEqDiff, Nat.reduceAdd, Nat.reduceSub, Nat.reduceLeDiff, indexAddrA, indexRefA, appendA, strA, Nat.reduceMul, Nat.zero_mul, Nat.reduceMod, Int.reduceEq, Int.reduceLT, Int.reduceLE, Nat.reduceLT, Nat.lt_irrefl, Nat.reduceBEq, tys0, tys1, tys2, tys3, tys4, tys5, tys6, tys7, tys8, tys9, tys10, tys11, tys12, tys13, tys14, tys15, tys16, tys17, tys18, Try.ntmps76, Try.results76, f1, f2, f6, Int.toNat_natCast, Int.natCast_nonneg]
    refine AWp.loop_inv (ι := List Int × List Int) (fun q => ⟨[.agg [.sl false (ints P)], .ptr 0 0, .bool false, .int .i64 d.length, .int .i64 x, .int .i64 (hd q.2), .junk, .sl false (ints P), .int .i64 P.length, .int .i64 d.length, .junk, .junk, .junk, .junk, .junk, .junk, .junk, .junk, .junk, .junk, .junk, .junk, .junk, .junk, .junk, .junk, .junk, .junk, .junk, .junk, .junk, .junk, .junk, .junk, .junk, .junk, .junk, .junk, .junk, .junk, .junk, .junk, .junk], [.box 60 [.sl false (ints P)]]⟩)
      (fun q => rp = q.1 ++ q.2 ∧ x ∉ q.1) (fun q => q.2.length) ([], rp) ⟨rfl, by simp⟩ ⟨by repeat constructor, rfl⟩ ?_
    rintro ⟨done, rest⟩ ⟨g1, g2⟩
    refine W.sound hmix (E := []) ?_
    simp only at g1 g2
    have hur : Up P rest := by rw [g1] at hu; exact up_suf hu
    have hge := hd_ge hur
    by_cases hr : rest = []
    · subst hr
      rw [List.append_nil] at g1
      subst g1
      by_cases hx : x = -1
      · by_cases hd0 : d = []
        · subst hd0
          have hrp : rp = [] := by
            cases rp with
            | nil => rfl
            | cons a t =>
              have := hd_ge hu.2.2
              have := hu.1
              simp only [hd_cons, List.length_nil, Int.natCast_zero] at hh
              omega
          subst hrp hx
          simp only [run0, run1, run2, run3, run4, run5, run6, run7, run8, run9, run10, run11, run12, run13, run14, run15, run16, run17, run18, run19, run20, run21, run22, reduceCtorEq, Nat.reduceEqDiff, Nat.reduceAdd, Nat.reduceSub, Nat.reduceLeDiff, indexAddrA, indexRefA, appendA, strA, Nat.reduceMul, Nat.zero_mul, Nat.reduceMod, Int.reduceEq, Int.reduceLT, Int.reduceLE, Nat.reduceLT, Nat.lt_irrefl, Nat.reduceBEq, tys0, tys1, tys2, tys3, tys4, tys5, tys6, tys7, tys8, tys9, tys10, tys11, tys12, tys13, tys14, tys15, tys16, tys17, tys18, Try.ntmps76, Try.results76, hd_nil, f5, List.length_nil, Int.natCast_zero, bne_self_eq_false, beq_self_eq_true, b1, b2, b3, b4, b5]
          refine ⟨([-1], r, [0]), ⟨by simp [ha], ⟨by simp [hd], by rw [ha]; rfl, trivial⟩, rfl, ?_⟩, by simp, by simp only [List.length_append, List.length_cons, List.length_nil]; repeat constructor⟩
          rw [← h2]; rfl
        · have k1 : ((d.length : Int) == 0) = false := by
            have : d.length ≠ 0 := fun e => hd0 (List.length_eq_zero_iff.1 e)
            simp; omega
          subst hx
          simp only [run0, run1, run2, run3, run4, run5, run6, run7, run8, run9, run10, run11, run12, run13, run14, run15, run16, run17, run18, run19, run20, run21, run22, reduceCtorEq, Nat.reduceEqDiff, Nat.reduceAdd, Nat.reduceSub, Nat.reduceLeDiff, indexAddrA, indexRefA, appendA, strA, Nat.reduceMul, Nat.zero_mul, Nat.reduceMod, Int.reduceEq, Int.reduceLT, Int.reduceLE, Nat.reduceLT, Nat.lt_irrefl, Nat.reduceBEq, tys0, tys1, tys2, tys3, tys4, tys5, tys6, tys7, tys8, tys9, tys10, tys11, tys12, tys13, tys14, tys15, tys16, tys17, tys18, Try.ntmps76, Try.results76, hd_nil, k1, bne_self_eq_false, b1, b2, b3, b4, b5]
          refine Fin.eq ?_ rfl
          rw [hyS, ← h2, goodS_no hd0 g2]; rfl
      · have k1 : ((-1 : Int) != x) = true := by simp [bne]; exact fun e => hx e.symm
        simp only [run0, run1, run2, run3, run4, run5, run6, run7, run8, run9, run10, run11, run12, run13, run14, run15, run16, run17, run18, run19, run20, run21, run22, reduceCtorEq, Nat.reduceEqDiff, Nat.reduceAdd, Nat.reduceSub, Nat.reduceLeDiff, indexAddrA, indexRefA, appendA, strA, Nat.reduceMul, Nat.zero_mul, Nat.reduceMod, Int.reduceEq, Int.reduceLT, Int.reduceLE, Nat.reduceLT, Nat.lt_irrefl, Nat.reduceBEq, tys0, tys1, tys2, tys3, tys4, tys5, tys6, tys7, tys8, tys9, tys10, tys11, tys12, tys13, tys14, tys15, tys16, tys17, tys18, Try.ntmps76, Try.results76, hd_nil, k1, b1, b2, b3, b4, b5]
        refine Fin.eq ?_ rfl
        rw [hyS, ← h2]
        by_cases hd0 : d = []
        · subst hd0
          have : (x == -1) = false := by simp [hx]
          simp [goodS, this]
        · rw [goodS_no hd0 g2]; rfl
    · obtain ⟨a, t, rfl⟩ := List.exists_cons_of_ne_nil hr
      have hur' := hur
      obtain ⟨u1, u2, u3⟩ := hur
      have u0 := hd_ge u3
      have k0 : (0 : Int) ≤ a := by omega
      by_cases hx : a = x
      · subst hx
        have k1 : (a != a) = false := by simp
        have k2 : ¬ (a < 0) := by omega
        have hle : a ≤ hd rp := by
          cases done with
          | nil => rw [g1]; exact Int.le_refl _
          | cons b done =>
            rw [g1] at hu ⊢
            have := up_lt hu a (by simp)
            simp only [List.cons_append, hd_cons]; omega
        have hd0 : d ≠ [] := fun e => by
          subst e
          simp at hh; omega
        have k3 : ((d.length : Int) == 0) = false := by
          have : d.length ≠ 0 := fun e => hd0 (List.length_eq_zero_iff.1 e)
          simp; omega
        have hat : a ∉ t := fun hm => by have := up_lt hur' a hm; omega
        simp only [run0, run1, run2, run3, run4, run5, run6, run7, run8, run9, run10, run11, run12, run13, run14, run15, run16, run17, run18, run19, run20, run21, run22, reduceCtorEq, Nat.reduceEqDiff, Nat.reduceAdd, Nat.reduceSub, Nat.reduceLeDiff, indexAddrA, indexRefA, appendA, strA, Nat.reduceMul, Nat.zero_mul, Nat.reduceMod, Int.reduceEq, Int.reduceLT, Int.reduceLE, Nat.reduceLT, Nat.lt_irrefl, Nat.reduceBEq, tys0, tys1, tys2, tys3, tys4, tys5, tys6, tys7, tys8, tys9, tys10, tys11, tys12, tys13, tys14, tys15, tys16, tys17, tys18, Try.ntmps76, Try.results76, hd_cons, k0, k1, k2, k3, f5, bne_self_eq_false, b1, b2, b3, b4, b5]
        refine ⟨(d ++ [a], r, (d.length : Int) :: a :: t), ⟨by simp [ha], ⟨by simp only [hd_cons]; omega, by rw [ha, Int.toNat_natCast]; simp [hd], hur'⟩, by simp [hd], ?_⟩, by simp, by simp only [List.length_append, List.length_cons, List.length_nil]; repeat constructor⟩
        rw [← h2, g1]
        exact (goodS_yes hd0 hat).symm
      · have k1 : (a != x) = true := by simp [bne]; exact hx
        obtain ⟨n, rfl⟩ := Int.eq_ofNat_of_zero_le k0
        simp only [Int.toNat_natCast] at u2
        have k2 : (ints P)[n]? = some (.int .i64 (hd t)) := by simp [u2]
        have k3 : (n : Int) < (P.length : Int) := by
          have := (List.getElem?_eq_some_iff.1 u2).1; omega
        simp only [run0, run1, run2, run3, run4, run5, run6, run7, run8, run9, run10, run11, run12, run13, run14, run15, run16, run17, run18, run19, run20, run21, run22, reduceCtorEq, Nat.reduceEqDiff, Nat.reduceAdd, Nat.reduceSub, Nat.reduceLeDiff, indexAddrA, indexRefA, appendA, strA, Nat.reduceMul, Nat.zero_mul, Nat.reduceMod, Int.reduceEq, Int.reduceLT, Int.reduceLE, Nat.reduceLT, Nat.lt_irrefl, Nat.reduceBEq, tys0, tys1, tys2, tys3, tys4, tys5, tys6, tys7, tys8, tys9, tys10, tys11, tys12, tys13, tys14, tys15, tys16, tys17, tys18, Try.ntmps76, Try.results76, hd_cons, k0, k1, k2, k3, Int.toNat_natCast, Int.natCast_nonneg]
        exact ⟨(done ++ [(n : Int)], t), ⟨by simp [g1], by simp only [List.mem_append, List.mem_singleton, not_or]; exact ⟨g2, fun e => hx e.symm⟩⟩, by simp, by repeat constructor⟩

end Go.Proofs.Ytphmkhaboghagaa
/-
  Nodes with pointers to all below them: as values that are only read.
-/
namespace Go.Proofs.Ytphmkhaboghagaa
open Go K Od
set_option linter.unusedSimpArgs false
set_option linter.unusedVariables false
set_option maxHeartbeats 800000
set_option maxRecDepth 8000

/-- A pointer to a variable of the call's own, once nothing is written any more: what it points to, as a value. -/
theorem Vw.ptrV {L : List AObj} {id off : Nat} {T : TypeId} {cs ds : List AV} (hL : L[id]? = some (.box T cs)) (h : VwL L cs ds) : Vw L (.ptr id off) (.rptr (.agg ds) off) := by
  intro γ w v hI hv
  cases hv with
  | ptr _ _ b c T' cs' hL' hb =>
    rw [hL] at hL'; cases hL'
    obtain ⟨o, ho, hrep⟩ := hI.ow _ _ _ _ hb
    unfold BlockRep at hrep
    rw [hL] at hrep
    obtain ⟨_, arr, rfl, hsz, hall⟩ := hrep
    have hf : frz γ w b = .ro (.cells arr T (0, 0)) := by simp [frz, hb, ho]
    have := RV.rptr (γ := frz γ w) (L := []) (.agg ds) off b 0 (fun j => arr.getD j undef) ?_ ?_ ?_
    · simpa using this
    · intro j y hj
      obtain ⟨x, hx, _⟩ := h.get.2 j y hj
      obtain ⟨u, h1, _, _⟩ := hall j x hx
      simp [roCell, hf, h1, Array.getD_eq_getD_getElem?]
    · intro j y hj
      obtain ⟨x, hx, _⟩ := h.get.2 j y hj
      obtain ⟨u, h1, h2, _⟩ := hall j x hx
      simp [h1, h2, Array.getD_eq_getD_getElem?]
    · intro j y hj
      obtain ⟨x, hx, hxy⟩ := h.get.2 j y hj
      obtain ⟨u, h1, _, h3⟩ := hall j x hx
      simp only [Array.getD_eq_getD_getElem?, h1, Option.getD_some]
      exact hxy γ w _ hI h3

/-- A forest: a node's number, what hangs at it, and its later brothers. -/
inductive Fo where
  | nil
  | cons (n : Int) (ch : Fo) (r : Fo)
namespace Fo
def len : Fo → Nat
  | nil => 0
  | cons _ _ r => r.len + 1
def sz : Fo → Nat
  | nil => 0
  | cons _ ch r => ch.sz + r.sz + 1
def app : Fo → Fo → Fo
  | nil, b => b
  | cons n ch r, b => cons n ch (r.app b)
/-- The pointers to the nodes, only read. -/
def els : Fo → List AV
  | nil => []
  | cons n ch r => .rptr (.agg [.int .i64 n, .sl false (els ch)]) 0 :: els r
theorem els_length : ∀ a : Fo, (els a).length = a.len
  | nil => rfl
  | cons n ch r => by simp [els, len, els_length r]
theorem els_app : ∀ a b : Fo, els (a.app b) = els a ++ els b
  | nil, b => rfl
  | cons n ch r, b => by simp [app, els, els_app r b]
theorem els_pure : ∀ a : Fo, pureL (els a) = true
  | nil => rfl
  | cons n ch r => by simp [els, pureL, pureB, els_pure ch, els_pure r]
end Fo

/-- The nodes of a hydra: those that hang at one, from a number on, with all below them; 'k': how deep. -/
def kidF (P : List Int) : Nat → Int → List Nat → Fo
  | 0, _, _ => .nil
  | _, _, [] => .nil
  | k + 1, j, i :: l => if P[i]? = some j then .cons i (kidF P k i (List.range P.length)) (kidF P (k + 1) j l) else kidF P (k + 1) j l
termination_by k _ l => (k, l.length)

end Go.Proofs.Ytphmkhaboghagaa
/-
  Hydras: the nodes of a right one, with pointers to all below.
-/
namespace Go.Proofs.Ytphmkhaboghagaa
open Go K Od
set_option linter.unusedSimpArgs false
set_option linter.unusedVariables false
set_option maxHeartbeats 1600000
set_option maxRecDepth 8000

def kidsL (P : List Int) (j : Nat) : List Nat := (List.range P.length).filter fun c => P[c]? == some (j : Int)
structure TrS where
  d : List Int
  r : List Int
  ids : List Nat
  L : List AObj
def ptrs (l : List Nat) : List AV := l.map fun id => .ptr id 0
def Ch (L : List AObj) (ids : List Nat) (d : List Int) (j : Nat) (ch : AV) : Prop :=
  (kidsL d j = [] ∧ ch = nilV) ∨ ∃ rid g, ch = .ref rid [] g (kidsL d j).length ∧ 2 ≤ rid ∧ L[rid]? = some (.vec 97 1 g (ptrs ((kidsL d j).map fun c => ids.getD c 0)))
structure TrI (h : AObj) (s : TrS) : Prop where
  l0 : s.L[0]? = some h
  l1 : s.L[1]? = some (.vec 97 1 s.d.length (ptrs s.ids))
  len : s.ids.length = s.d.length
  node : ∀ j id, s.ids[j]? = some id → 2 ≤ id ∧ ∃ ch, s.L[id]? = some (.box 131 [.int .i64 j, ch]) ∧ Ch s.L s.ids s.d j ch
theorem ptrs_noOwn (l : List Nat) : noOwn (ptrs l) = true := by
  refine List.all_eq_true.2 fun x hx => ?_
  obtain ⟨e, _, rfl⟩ := List.mem_map.1 hx
  rfl
/-- Each node hangs at one ahead of it. -/
def ParOk (P : List Int) : Prop := ∀ (c : Nat) (x : Int), P[c]? = some x → -1 ≤ x ∧ x < (c : Int)

def foL (f : Nat → Fo) : List Nat → Fo
  | [] => .nil
  | c :: l => .cons c (f c) (foL f l)
/-- All that hangs at a node, so deep. -/
def fo (P : List Int) : Nat → Nat → Fo
  | 0, _ => .nil
  | k + 1, j => foL (fo P k) (kidsL P j)
def nodeV (P : List Int) (j : Nat) : AV := .rptr (.agg [.int .i64 j, .sl false (Fo.els (fo P P.length j))]) 0

end Go.Proofs.Ytphmkhaboghagaa
/-
  Hydras: nodes: what holds of them, kept.
-/
namespace Go.Proofs.Ytphmkhaboghagaa
open Go K Od
set_option linter.unusedSimpArgs false
set_option linter.unusedVariables false
set_option maxHeartbeats 800000

theorem kidsL_snoc (d : List Int) (x : Int) (j : Nat) : kidsL (d ++ [x]) j = kidsL d j ++ (if x = (j : Int) then [d.length] else []) := by
  unfold kidsL
  rw [List.length_append, List.length_cons, List.length_nil, List.range_succ, List.filter_append]
  congr 1
  · refine List.filter_congr fun c hc => ?_
    have := List.mem_range.1 hc
    rw [List.getElem?_append_left (by omega)]
  · by_cases h : x = (j : Int)
    · rw [if_pos h]; simp [h]
    · rw [if_neg h]
      simp [h]
theorem kidsL_lt {d : List Int} {j c : Nat} (h : c ∈ kidsL d j) : c < d.length := by
  unfold kidsL at h
  exact List.mem_range.1 (List.mem_filter.1 h).1

/-- A node without children: its list told as an empty row of the call's own. -/
theorem TrI.ghost {h : AObj} {d r : List Int} {ids : List Nat} {L : List AObj} {p idp : Nat} (hI : TrI h ⟨d, r, ids, L⟩) (hinj : ∀ j k id : Nat, ids[j]? = some id → ids[k]? = some id → j = k)
    (hp : ids[p]? = some idp) (hb : L[idp]? = some (.box 131 [.int .i64 p, nilV])) (hk : kidsL d p = []) :
    TrI h ⟨d, r, ids, L.set idp (.box 131 [.int .i64 p, .ref L.length [] 0 0]) ++ [.vec 97 1 0 []]⟩ := by
  obtain ⟨l0, l1, hlen, hnode⟩ := hI
  simp only at l0 l1 hlen hnode
  have hid := (hnode p idp hp).1
  have hlt := (List.getElem?_eq_some_iff.1 hb).1
  have old : ∀ i, i ≠ idp → i < L.length → (L.set idp (.box 131 [.int .i64 p, .ref L.length [] 0 0]) ++ [AObj.vec 97 1 0 []])[i]? = L[i]? := fun i h1 h2 => by
    rw [List.getElem?_append_left (by simpa using h2), List.getElem?_set_ne (fun e => h1 e.symm)]
  refine ⟨?_, ?_, hlen, fun j id hj => ?_⟩
  · rw [old 0 (by omega) (by omega)]; exact l0
  · rw [old 1 (by omega) (by omega)]; exact l1
  · obtain ⟨h2, ch, hbx, hch⟩ := hnode j id hj
    refine ⟨h2, ?_⟩
    by_cases he : id = idp
    · subst he
      have := hinj j p id hj hp
      subst this
      refine ⟨.ref L.length [] 0 0, ?_, .inr ⟨L.length, 0, by rw [hk]; rfl, by omega, ?_⟩⟩
      · simp only
        rw [List.getElem?_append_left (by simpa using hlt), List.getElem?_set_self hlt]
      · simp only [hk]
        rw [List.getElem?_append_right (by simp)]
        simp [ptrs]
    · refine ⟨ch, ?_, ?_⟩
      · simp only
        rw [old id he (List.getElem?_eq_some_iff.1 hbx).1]; exact hbx
      · rcases hch with h | ⟨rid, g, e1, e2, e3⟩
        · exact .inl h
        · refine .inr ⟨rid, g, e1, e2, ?_⟩
          simp only
          rw [old rid (fun e => by rw [e, hb] at e3; cases e3) (List.getElem?_eq_some_iff.1 e3).1]; exact e3

theorem kidsL_none {d : List Int} {j : Nat} (hp : ParOk d) (h : d.length ≤ j) : kidsL d j = [] := by
  unfold kidsL
  rw [List.filter_eq_nil_iff]
  intro c hc hx
  have := List.mem_range.1 hc
  have hx' : d[c]? = some (j : Int) := by simpa using hx
  have := (hp c _ hx').2
  omega
theorem getD_snoc (ids : List Nat) (n : Nat) (l : List Nat) (h : ∀ c ∈ l, c < ids.length) : l.map (fun c => (ids ++ [n]).getD c 0) = l.map fun c => ids.getD c 0 := by
  refine List.map_congr_left fun c hc => ?_
  have := h c hc
  simp [List.getD_eq_getElem?_getD, List.getElem?_append_left this]
/-- A new node that hangs at none. -/
theorem TrI.root {h : AObj} {d r : List Int} {x : Int} {ids : List Nat} {L : List AObj} (hI : TrI h ⟨d, x :: r, ids, L⟩) (hx : x < 0) (hp : ParOk d) :
    TrI h ⟨d ++ [x], r, ids ++ [L.length], (L ++ [AObj.box 131 [.int .i64 d.length, nilV]]).set 1 (AObj.vec 97 1 (d.length + 1) (ptrs ids ++ [AV.ptr L.length 0]))⟩ := by
  obtain ⟨l0, l1, hlen, hnode⟩ := hI
  simp only at l0 l1 hlen hnode
  have hlt1 := (List.getElem?_eq_some_iff.1 l1).1
  generalize hB : AObj.box 131 [.int .i64 d.length, nilV] = B
  generalize hV : AObj.vec 97 1 (d.length + 1) (ptrs ids ++ [AV.ptr L.length 0]) = V
  have old : ∀ i, i ≠ 1 → i < L.length → ((L ++ [B]).set 1 V)[i]? = L[i]? := fun i h1 h2 => by
    rw [List.getElem?_set_ne (fun e => h1 e.symm), List.getElem?_append_left h2]
  have hk : ∀ j : Nat, kidsL (d ++ [x]) j = kidsL d j := fun j => by rw [kidsL_snoc, if_neg (by omega), List.append_nil]
  refine ⟨?_, ?_, by simp [hlen], fun j id hj => ?_⟩
  · simp only; rw [old 0 (by omega) (by omega)]; exact l0
  · simp only
    rw [List.getElem?_set_self (by simp; omega), ← hV]
    simp [ptrs]
  · simp only at hj
    by_cases hjl : j < ids.length
    · rw [List.getElem?_append_left hjl] at hj
      obtain ⟨h2, ch, hbx, hch⟩ := hnode j id hj
      refine ⟨h2, ch, ?_, ?_⟩
      · simp only; rw [old id (by omega) (List.getElem?_eq_some_iff.1 hbx).1]; exact hbx
      · rcases hch with ⟨h3, h4⟩ | ⟨rid, g, e1, e2, e3⟩
        · exact .inl ⟨by rw [hk]; exact h3, h4⟩
        · refine .inr ⟨rid, g, by rw [hk]; exact e1, e2, ?_⟩
          simp only
          rw [old rid (by omega) (List.getElem?_eq_some_iff.1 e3).1, hk, getD_snoc _ _ _ (fun c hc => by have := kidsL_lt hc; omega)]; exact e3
    · have hj2 : j = ids.length := by
        have := (List.getElem?_eq_some_iff.1 hj).1
        simp at this; omega
      subst hj2
      rw [List.getElem?_append_right (Nat.le_refl _), Nat.sub_self] at hj
      simp at hj
      subst hj
      refine ⟨by omega, nilV, ?_, .inl ⟨by rw [hk]; exact kidsL_none hp (by omega), rfl⟩⟩
      simp only
      rw [List.getElem?_set_ne (by omega), List.getElem?_append_right (Nat.le_refl _), Nat.sub_self, ← hB, hlen]; rfl

/-- A new node that hangs at another one, which has a row of children. -/
theorem TrI.hang {h : AObj} {d r : List Int} {ids : List Nat} {L : List AObj} {p idp rid g : Nat} (hI : TrI h ⟨d, (p : Int) :: r, ids, L⟩) (hp : ParOk d) (hpd : p < d.length)
    (hinj : ∀ j k id : Nat, ids[j]? = some id → ids[k]? = some id → j = k)
    (hrinj : ∀ (j id g' n : Nat) (c : AV), ids[j]? = some id → L[id]? = some (.box 131 [c, .ref rid [] g' n]) → j = p)
    (hip : ids[p]? = some idp) (hb : L[idp]? = some (.box 131 [.int .i64 p, .ref rid [] g (kidsL d p).length])) (hr2 : 2 ≤ rid)
    (hrow : L[rid]? = some (.vec 97 1 g (ptrs ((kidsL d p).map fun c => ids.getD c 0)))) :
    TrI h ⟨d ++ [(p : Int)], r, ids ++ [L.length], (((L ++ [AObj.box 131 [.int .i64 d.length, nilV]]).set 1 (AObj.vec 97 1 (d.length + 1) (ptrs ids ++ [AV.ptr L.length 0]))).set rid
      (AObj.vec 97 1 (g + 1) (ptrs ((kidsL d p).map fun c => ids.getD c 0) ++ [AV.ptr L.length 0]))).set idp (AObj.box 131 [.int .i64 p, .ref rid [] (g + 1) ((kidsL d p).length + 1)])⟩ := by
  obtain ⟨l0, l1, hlen, hnode⟩ := hI
  simp only at l0 l1 hlen hnode
  have hlt1 := (List.getElem?_eq_some_iff.1 l1).1
  have hltp := (List.getElem?_eq_some_iff.1 hb).1
  have hltr := (List.getElem?_eq_some_iff.1 hrow).1
  have hid2 := (hnode p idp hip).1
  have hne : rid ≠ idp := fun e => by rw [e, hb] at hrow; cases hrow
  generalize hB : AObj.box 131 [.int .i64 d.length, nilV] = B
  generalize hV : AObj.vec 97 1 (d.length + 1) (ptrs ids ++ [AV.ptr L.length 0]) = V
  generalize hR : AObj.vec 97 1 (g + 1) (ptrs ((kidsL d p).map fun c => ids.getD c 0) ++ [AV.ptr L.length 0]) = R
  generalize hX : AObj.box 131 [.int .i64 p, .ref rid [] (g + 1) ((kidsL d p).length + 1)] = X
  have old : ∀ i, i ≠ 1 → i ≠ rid → i ≠ idp → i < L.length → ((((L ++ [B]).set 1 V).set rid R).set idp X)[i]? = L[i]? := fun i h1 h2 h3 h4 => by
    rw [List.getElem?_set_ne (fun e => h3 e.symm), List.getElem?_set_ne (fun e => h2 e.symm), List.getElem?_set_ne (fun e => h1 e.symm), List.getElem?_append_left h4]
  have hk : ∀ j : Nat, j ≠ p → kidsL (d ++ [(p : Int)]) j = kidsL d j := fun j hj => by rw [kidsL_snoc, if_neg (by omega), List.append_nil]
  have hkp : kidsL (d ++ [(p : Int)]) p = kidsL d p ++ [d.length] := by rw [kidsL_snoc, if_pos rfl]
  refine ⟨?_, ?_, by simp [hlen], fun j id hj => ?_⟩
  · simp only; rw [old 0 (by omega) (by omega) (by omega) (by omega)]; exact l0
  · simp only
    rw [List.getElem?_set_ne (by omega), List.getElem?_set_ne (by omega), List.getElem?_set_self (by simp; omega), ← hV]
    simp [ptrs]
  · simp only at hj
    by_cases hjl : j < ids.length
    · rw [List.getElem?_append_left hjl] at hj
      obtain ⟨h2, ch, hbx, hch⟩ := hnode j id hj
      refine ⟨h2, ?_⟩
      by_cases hjp : j = p
      · subst hjp
        rw [hip] at hj; cases hj
        refine ⟨.ref rid [] (g + 1) ((kidsL d j).length + 1), ?_, .inr ⟨rid, g + 1, by rw [hkp]; simp, hr2, ?_⟩⟩
        · simp only; rw [List.getElem?_set_self (by simp; omega), ← hX]
        · simp only
          rw [List.getElem?_set_ne (fun e => hne e.symm), List.getElem?_set_self (by simp; omega), ← hR, hkp, List.map_append, getD_snoc _ _ _ (fun c hc => by have := kidsL_lt hc; omega)]
          simp [ptrs, ← hlen]
      · have hie : id ≠ idp := fun e => hjp (hinj j p id hj (by rw [e]; exact hip))
        have hir : id ≠ rid := fun e => by rw [e, hrow] at hbx; cases hbx
        refine ⟨ch, ?_, ?_⟩
        · simp only; rw [old id (by omega) hir hie (List.getElem?_eq_some_iff.1 hbx).1]; exact hbx
        · rcases hch with ⟨h3, h4⟩ | ⟨rid', g', e1, e2, e3⟩
          · exact .inl ⟨by rw [hk j hjp]; exact h3, h4⟩
          · refine .inr ⟨rid', g', by rw [hk j hjp]; exact e1, e2, ?_⟩
            simp only
            have hrr : rid' ≠ rid := fun e => by
              subst e; rw [e1] at hbx
              exact hjp (hrinj j id g' _ _ hj hbx)
            rw [old rid' (by omega) hrr (fun e => by rw [e, hb] at e3; cases e3) (List.getElem?_eq_some_iff.1 e3).1, hk j hjp, getD_snoc _ _ _ (fun c hc => by have := kidsL_lt hc; omega)]; exact e3
    · have hj2 : j = ids.length := by
        have := (List.getElem?_eq_some_iff.1 hj).1
        simp at this; omega
      subst hj2
      rw [List.getElem?_append_right (Nat.le_refl _), Nat.sub_self] at hj
      simp at hj
      subst hj
      refine ⟨by omega, nilV, ?_, .inl ⟨by rw [hk _ (by omega)]; exact kidsL_none hp (by omega), rfl⟩⟩
      simp only
      rw [List.getElem?_set_ne (by omega), List.getElem?_set_ne (by omega), List.getElem?_set_ne (by omega), List.getElem?_append_right (Nat.le_refl _), Nat.sub_self, ← hB, hlen]; rfl

end Go.Proofs.Ytphmkhaboghagaa
/-
  Hydras: all nodes, once nothing is written any more.
-/
namespace Go.Proofs.Ytphmkhaboghagaa
open Go K Od
set_option linter.unusedSimpArgs false
set_option linter.unusedVariables false
set_option maxHeartbeats 800000

theorem els_foL (f : Nat → Fo) : ∀ l : List Nat, Fo.els (foL f l) = l.map fun c => .rptr (.agg [.int .i64 c, .sl false (Fo.els (f c))]) 0
  | [] => rfl
  | c :: l => by simp [foL, Fo.els, els_foL f l]
theorem kidsL_gt {P : List Int} (hp : ParOk P) {j c : Nat} (h : c ∈ kidsL P j) : j < c ∧ c < P.length := by
  have h1 := kidsL_lt h
  unfold kidsL at h
  have h2 : P[c]? = some (j : Int) := by simpa using (List.mem_filter.1 h).2
  have := (hp c _ h2).2
  omega
theorem nodes_vw {h : AObj} {P : List Int} {ids : List Nat} {L : List AObj} (hI : TrI h ⟨P, [], ids, L⟩) (hp : ParOk P) : ∀ (k j id : Nat), P.length ≤ j + k → ids[j]? = some id → ∀ K, P.length - j ≤ K →
    Vw L (.ptr id 0) (.rptr (.agg [.int .i64 j, .sl false (Fo.els (fo P K j))]) 0)
  | 0, j, id, h1, h2, K, h3 => by
    have := (List.getElem?_eq_some_iff.1 h2).1
    have hl := hI.len
    simp only at hl
    omega
  | k + 1, j, id, h1, h2, K, h3 => by
    obtain ⟨_, ch, hbx, hch⟩ := hI.node j id h2
    simp only at hbx hch
    refine Vw.ptrV hbx (.cons (.pur (.int _ _)) (.cons ?_ .nil))
    rcases hch with ⟨hk, rfl⟩ | ⟨rid, g, rfl, hr2, hrow⟩
    · have : Fo.els (fo P K j) = [] := by
        cases K with
        | zero => rfl
        | succ K => simp [fo, hk, foL, Fo.els]
      rw [this]; exact Vw.nil false
    · have hjl := (List.getElem?_eq_some_iff.1 h2).1
      have hl := hI.len
      simp only at hl
      cases K with
      | zero => omega
      | succ K =>
        simp only [fo, els_foL]
        refine Vw.ref hrow rfl (by simp) fun i e y he hy => ?_
        simp only [ptrs, List.map_map, List.getElem?_map] at he hy
        cases hc : (kidsL P j)[i]? with
        | none => rw [hc] at he; simp at he
        | some c =>
          rw [hc] at he hy
          simp at he hy
          subst he hy
          have hcm := kidsL_gt hp (List.mem_of_getElem? hc)
          have hcid : ids[c]? = some (ids.getD c 0) := by
            rw [List.getD_eq_getElem?_getD, List.getElem?_eq_getElem (by omega)]; rfl
          refine ⟨rfl, fun q u v hu hv => ?_⟩
          cases q with
          | succ q => simp [AV.cells] at hu
          | zero =>
            simp [AV.cells] at hu hv
            subst hu hv
            have := nodes_vw hI hp k c (ids.getD c 0) (by omega) hcid K (by omega)
            simpa [viewC] using this

end Go.Proofs.Ytphmkhaboghagaa
/-
  Hydras: nodes: no two of one place.
-/
namespace Go.Proofs.Ytphmkhaboghagaa
open Go K Od
set_option linter.unusedSimpArgs false
set_option linter.unusedVariables false
set_option maxHeartbeats 800000

def Inj (ids : List Nat) : Prop := ∀ j k id : Nat, ids[j]? = some id → ids[k]? = some id → j = k
def RInj (L : List AObj) (ids : List Nat) : Prop := ∀ (j k idj idk rid gj gk nj nk : Nat) (cj ck : AV), ids[j]? = some idj → ids[k]? = some idk →
  L[idj]? = some (.box 131 [cj, .ref rid [] gj nj]) → L[idk]? = some (.box 131 [ck, .ref rid [] gk nk]) → j = k
theorem snoc_get {ids : List Nat} {n j id : Nat} (h : (ids ++ [n])[j]? = some id) : (j < ids.length ∧ ids[j]? = some id) ∨ (j = ids.length ∧ id = n) := by
  by_cases hj : j < ids.length
  · rw [List.getElem?_append_left hj] at h; exact .inl ⟨hj, h⟩
  · have := (List.getElem?_eq_some_iff.1 h).1
    simp at this
    have hj2 : j = ids.length := by omega
    subst hj2
    rw [List.getElem?_append_right (Nat.le_refl _), Nat.sub_self] at h
    simp at h
    exact .inr ⟨rfl, h.symm⟩
theorem Inj.snoc {h : AObj} {d r : List Int} {ids : List Nat} {L : List AObj} (hI : TrI h ⟨d, r, ids, L⟩) (hi : Inj ids) : Inj (ids ++ [L.length]) := by
  intro j k id h1 h2
  have lt : ∀ j id : Nat, ids[j]? = some id → id < L.length := fun j id hj => by
    obtain ⟨_, ch, hb, _⟩ := hI.node j id hj
    exact (List.getElem?_eq_some_iff.1 hb).1
  rcases snoc_get h1 with ⟨a1, a2⟩ | ⟨a1, a2⟩ <;> rcases snoc_get h2 with ⟨b1, b2⟩ | ⟨b1, b2⟩
  · exact hi j k id a2 b2
  · have := lt j id a2; omega
  · have := lt k id b2; omega
  · omega
/-- A new node without children leaves the rows apart. -/
theorem RInj.root {h : AObj} {d r : List Int} {ids : List Nat} {L : List AObj} {V : AObj} (hI : TrI h ⟨d, r, ids, L⟩) (hl : 1 < L.length) (hr : RInj L ids) :
    RInj ((L ++ [AObj.box 131 [.int .i64 d.length, nilV]]).set 1 V) (ids ++ [L.length]) := by
  intro j k idj idk rid gj gk nj nk cj ck h1 h2 h3 h4
  have new : ∀ (c : AV) (rid g n : Nat), ((L ++ [AObj.box 131 [.int .i64 d.length, nilV]]).set 1 V)[L.length]? ≠ some (.box 131 [c, .ref rid [] g n]) := fun c rid g n e => by
    rw [List.getElem?_set_ne (by omega), List.getElem?_append_right (Nat.le_refl _), Nat.sub_self] at e
    simp [nilV] at e
  have old : ∀ j id : Nat, ids[j]? = some id → ((L ++ [AObj.box 131 [.int .i64 d.length, nilV]]).set 1 V)[id]? = L[id]? := fun j id hj => by
    obtain ⟨h2, ch, hb, _⟩ := hI.node j id hj
    rw [List.getElem?_set_ne (by omega), List.getElem?_append_left (List.getElem?_eq_some_iff.1 hb).1]
  rcases snoc_get h1 with ⟨a1, a2⟩ | ⟨a1, rfl⟩
  · rcases snoc_get h2 with ⟨b1, b2⟩ | ⟨b1, rfl⟩
    · rw [old j idj a2] at h3
      rw [old k idk b2] at h4
      exact hr j k idj idk rid gj gk nj nk cj ck a2 b2 h3 h4
    · exact absurd h4 (new _ _ _ _)
  · exact absurd h3 (new _ _ _ _)

theorem rid_lt {h : AObj} {d r : List Int} {ids : List Nat} {L : List AObj} (hI : TrI h ⟨d, r, ids, L⟩) {j id rid g n : Nat} {c : AV} (hj : ids[j]? = some id) (hb : L[id]? = some (.box 131 [c, .ref rid [] g n])) : rid < L.length := by
  obtain ⟨_, ch, hb2, hch⟩ := hI.node j id hj
  simp only at hb2 hch
  rw [hb] at hb2
  cases hb2
  rcases hch with ⟨_, h2⟩ | ⟨rid', g', e, _, h3⟩
  · cases h2
  · cases e; exact (List.getElem?_eq_some_iff.1 h3).1
theorem RInj.ghost {h : AObj} {d r : List Int} {ids : List Nat} {L : List AObj} {p idp : Nat} (hI : TrI h ⟨d, r, ids, L⟩) (hi : Inj ids) (hr : RInj L ids) (hp : ids[p]? = some idp) :
    RInj (L.set idp (.box 131 [.int .i64 p, .ref L.length [] 0 0]) ++ [.vec 97 1 0 []]) ids := by
  intro j k idj idk rid gj gk nj nk cj ck h1 h2 h3 h4
  have hlt : ∀ j id : Nat, ids[j]? = some id → id < L.length := fun j id hj => by
    obtain ⟨_, ch, hb, _⟩ := hI.node j id hj
    exact (List.getElem?_eq_some_iff.1 hb).1
  have at_ : ∀ (j id rid g n : Nat) (c : AV), ids[j]? = some id → (L.set idp (AObj.box 131 [.int .i64 p, .ref L.length [] 0 0]) ++ [AObj.vec 97 1 0 []])[id]? = some (.box 131 [c, .ref rid [] g n]) →
      (j = p ∧ rid = L.length) ∨ (L[id]? = some (.box 131 [c, .ref rid [] g n]) ∧ rid < L.length) := fun j id rid g n c hj hb => by
    rw [List.getElem?_append_left (by simpa using hlt j id hj)] at hb
    by_cases he : idp = id
    · subst he
      rw [List.getElem?_set_self (hlt j _ hj)] at hb
      cases hb
      exact .inl ⟨hi j p _ hj hp, rfl⟩
    · rw [List.getElem?_set_ne he] at hb
      exact .inr ⟨hb, rid_lt hI hj hb⟩
  rcases at_ j idj rid gj nj cj h1 h3 with ⟨a1, a2⟩ | ⟨a1, a2⟩ <;> rcases at_ k idk rid gk nk ck h2 h4 with ⟨b1, b2⟩ | ⟨b1, b2⟩
  · omega
  · omega
  · omega
  · exact hr j k idj idk rid gj gk nj nk cj ck h1 h2 a1 b1

theorem RInj.hang {h : AObj} {d r : List Int} {ids : List Nat} {L : List AObj} {p idp rid0 g0 n0 g1 n1 : Nat} {V R : AObj} (hI : TrI h ⟨d, r, ids, L⟩) (hl : 1 < L.length) (hi : Inj ids) (hr : RInj L ids) (hp : ids[p]? = some idp)
    (hb0 : L[idp]? = some (.box 131 [.int .i64 p, .ref rid0 [] g0 n0])) {T : TypeId} {z gz : Nat} {es : List AV} (hrow : L[rid0]? = some (.vec T z gz es)) :
    RInj ((((L ++ [AObj.box 131 [.int .i64 d.length, nilV]]).set 1 V).set rid0 R).set idp (AObj.box 131 [.int .i64 p, .ref rid0 [] g1 n1])) (ids ++ [L.length]) := by
  intro j k idj idk rid gj gk nj nk cj ck h1 h2 h3 h4
  have hrl := (List.getElem?_eq_some_iff.1 hrow).1
  have hil := (List.getElem?_eq_some_iff.1 hb0).1
  generalize hX : AObj.box 131 [.int .i64 p, .ref rid0 [] g1 n1] = X at *
  have at_ : ∀ (j id rid g n : Nat) (c : AV), (ids ++ [L.length])[j]? = some id → ((((L ++ [AObj.box 131 [.int .i64 d.length, nilV]]).set 1 V).set rid0 R).set idp X)[id]? = some (.box 131 [c, .ref rid [] g n]) →
      ids[j]? = some id ∧ ∃ c' g' n', L[id]? = some (.box 131 [c', .ref rid [] g' n']) := fun j id rid g n c hj hb => by
    rcases snoc_get hj with ⟨a1, a2⟩ | ⟨a1, rfl⟩
    · refine ⟨a2, ?_⟩
      obtain ⟨h2, ch, hb2, _⟩ := hI.node j id a2
      simp only at hb2
      have hidl := (List.getElem?_eq_some_iff.1 hb2).1
      by_cases he : idp = id
      · subst he
        rw [List.getElem?_set_self (by simp; omega), ← hX] at hb
        cases hb
        exact ⟨_, _, _, hb0⟩
      · have hne : rid0 ≠ id := fun e => by rw [e, hb2] at hrow; cases hrow
        rw [List.getElem?_set_ne he, List.getElem?_set_ne hne, List.getElem?_set_ne (by omega), List.getElem?_append_left hidl] at hb
        exact ⟨_, _, _, hb⟩
    · exfalso
      rw [List.getElem?_set_ne (by omega), List.getElem?_set_ne (by omega), List.getElem?_set_ne (by omega), List.getElem?_append_right (Nat.le_refl _), Nat.sub_self] at hb
      simp [nilV] at hb
  obtain ⟨a1, c1, g1', n1', a2⟩ := at_ j idj rid gj nj cj h1 h3
  obtain ⟨b1, c2, g2', n2', b2⟩ := at_ k idk rid gk nk ck h2 h4
  exact hr j k idj idk rid g1' g2' n1' n2' c1 c2 a1 b1 a2 b2

end Go.Proofs.Ytphmkhaboghagaa
/-
  Hydras: the nodes of a right one: the walk.
-/
namespace Go.Proofs.Ytphmkhaboghagaa
open Go K Od
set_option linter.unusedSimpArgs false
set_option linter.unusedVariables false
set_option maxHeartbeats 1600000
set_option maxRecDepth 8000

theorem treeOf_walk (P : List Int) (hP : P.length ≤ 40) (hp : ParOk P) : Ct Try.prog 80 [.agg [.sl false (ints P)]] [] (.sl false ((List.range P.length).map (nodeV P))) [] := by
  suffices h : ∃ r L', Ct Try.prog 80 [.agg [.sl false (ints P)]] [] r L' ∧ (r = .sl false ((List.range P.length).map (nodeV P)) ∧ L' = []) by
    obtain ⟨r, L', h1, rfl, rfl⟩ := h
    exact h1
  refine Ct.ex hmix [5999998, 5999997, 7200038, 1000007] Try.func80 rfl ?_
  simp only [run0, run1, run2, run3, run4, run5, run6, run7, run8, run9, run10, run11, run12, run13, run14, run15, run16, run17, run18, run19, run20, run21, run22, reduceCtorEq, Nat.reduceEqDiff, Nat.reduceAdd, Nat.reduceSub, Nat.reduceLeDiff, indexAddrA, indexRefA, appendA, strA, Nat.reduceMul, Nat.zero_mul, Nat.reduceMod, Int.reduceEq, Int.reduceLT, Int.reduceLE, Nat.reduceLT, Nat.lt_irrefl, Nat.reduceBEq, tys0, tys1, tys2, tys3, tys4, tys5, tys6, tys7, tys8, tys9, tys10, tys11, tys12, tys13, tys14, tys15, tys16, tys17, tys18, Try.ntmps80, Try.results80, List.length_map, List.length_nil]
  refine AWp.loop_exK (ι := TrS) (fun p => ⟨[.agg [.sl false (ints P)], .ptr 0 0, nilV, .ref 1 [] p.d.length p.d.length, .junk, .junk, .junk, .junk, .junk, .sl false (ints P), .int .i64 P.length, .int .i64 p.d.length, .junk, .junk, .junk, .junk, .junk, .junk, .junk, .junk, .junk, .junk, .junk, .junk, .junk, .junk, .junk, .junk, .junk, .junk, .junk, .junk, .junk, .junk, .junk, .junk, .junk, .junk, .junk, .junk, .junk, .junk, .junk], p.L⟩)
    (fun p => P = p.d ++ p.r ∧ TrI (.box 60 [.sl false (ints P)]) p ∧ Inj p.ids ∧ RInj p.L p.ids) (fun p => p.r.length) ⟨[], P, [], [.box 60 [.sl false (ints P)], .vec 97 1 0 []]⟩ ⟨rfl, ⟨rfl, rfl, rfl, fun j id h => by simp at h⟩, fun j k id h => by simp at h, fun j k idj idk rid gj gk nj nk cj ck h => by simp at h⟩ ⟨by simp only [List.length_nil, Int.natCast_zero]; repeat constructor, rfl⟩ ?_
  rintro ⟨d, r, ids, L⟩ ⟨ha, hI, hij, hrj⟩
  simp only at ha hij hrj
  have hI0 := hI
  have hpd : ParOk d := fun c x hc => hp c x (by rw [ha, List.getElem?_append_left (List.getElem?_eq_some_iff.1 hc).1]; exact hc)
  have hda : d.length + r.length = P.length := by rw [ha, List.length_append]
  obtain ⟨l0, l1, hlen, hnode⟩ := hI
  simp only at l0 l1 hlen hnode
  cases r with
  | nil =>
    left
    rw [List.append_nil] at ha
    subst ha
    have f1 : ¬ ((P.length : Int) < (P.length : Int)) := by omega
    refine ⟨_, _, ?_, rfl, rfl⟩
    refine W.sound hmix (E := [5999998, 5999997, 7200038, 1000007]) ?_
    simp only [run0, run1, run2, run3, run4, run5, run6, run7, run8, run9, run10, run11, run12, run13, run14, run15, run16, run17, run18, run19, run20, run21, run22, reduceCtorEq, Nat.reduceEqDiff, Nat.reduceAdd, Nat.reduceSub, Nat.reduceLeDiff, indexAddrA, indexRefA, appendA, strA, Nat.reduceMul, Nat.zero_mul, Nat.reduceMod, Int.reduceEq, Int.reduceLT, Int.reduceLE, Nat.reduceLT, Nat.lt_irrefl, Nat.reduceBEq, tys0, tys1, tys2, tys3, tys4, tys5, tys6, tys7, tys8, tys9, tys10, tys11, tys12, tys13, tys14, tys15, tys16, tys17, tys18, Try.ntmps80, Try.results80, f1]
    refine Fin.value (Vw.ref l1 rfl (by simp) fun i e y he hy => ?_)
    simp only [ptrs, List.getElem?_map] at he hy
    cases hc : ids[i]? with
    | none => rw [hc] at he; simp at he
    | some id =>
      rw [hc] at he
      have hil := (List.getElem?_eq_some_iff.1 hc).1
      rw [List.getElem?_range (by omega)] at hy
      simp at he hy
      subst he hy
      refine ⟨rfl, fun q u v hu hv => ?_⟩
      cases q with
      | succ q => simp [AV.cells] at hu
      | zero =>
        simp [AV.cells, nodeV] at hu hv
        subst hu hv
        have := nodes_vw hI0 hpd P.length i id (by omega) hc P.length (by omega)
        simpa [viewC] using this
  | cons x r =>
    right
    simp only [List.length_cons] at hda
    have f1 : (d.length : Int) < (P.length : Int) := by omega
    have f2 : (ints P)[d.length]? = some (.int .i64 x) := by rw [ha]; exact ints_get d r x
    have f5 : IntKind.i64.wrap ((d.length : Int) + 1) = ((d ++ [x]).length : Int) := by rw [w64_id (by omega) (by omega)]; simp
    have hx := hp d.length x (by rw [ha]; simp)
    have f6 : ∀ B : AObj, (L ++ [B])[1]? = some (.vec 97 1 d.length (ptrs ids)) := fun B => by rw [List.getElem?_append_left (List.getElem?_eq_some_iff.1 l1).1]; exact l1
    have f7 : d.length + 1 ≤ 137438953472 := by omega
    have f8 := ptrs_noOwn ids
    have f9 : (ptrs ids).length = d.length := by simp [ptrs, hlen]
    generalize hB : AObj.box 131 [.int .i64 d.length, nilV] = B at *
    have hptr : ptrs ids ++ [.ptr L.length 0] = ptrs (ids ++ [L.length]) := by simp [ptrs]
    have hlt1 := (List.getElem?_eq_some_iff.1 l1).1
    have v1 : ((L ++ [B]).set 1 (AObj.vec 97 1 (d.length + 1) (ptrs ids ++ [.ptr L.length 0])))[1]? = some (AObj.vec 97 1 (d.length + 1) (ptrs ids ++ [.ptr L.length 0])) := List.getElem?_set_self (by simp; omega)
    have hold : ∀ id, 2 ≤ id → id < L.length → ((L ++ [B]).set 1 (AObj.vec 97 1 (d.length + 1) (ptrs ids ++ [.ptr L.length 0])))[id]? = L[id]? := fun id h1 h2 => by
      rw [List.getElem?_set_ne (by omega), List.getElem?_append_left h2]
    by_cases hneg : 0 ≤ x
    · obtain ⟨p, rfl⟩ := Int.eq_ofNat_of_zero_le hneg
      have hpl : p < ids.length := by omega
      obtain ⟨hid2, ch, hbox, hch⟩ := hnode p ids[p] (List.getElem?_eq_getElem hpl)
      have hidl := (List.getElem?_eq_some_iff.1 hbox).1
      have g1 : (ptrs ids ++ [AV.ptr L.length 0])[p]? = some (.ptr ids[p] 0) := by
        rw [List.getElem?_append_left (by simpa [ptrs] using hpl)]; simp [ptrs, hpl]
      have g2 : (p : Int) < ((d.length + 1 : Nat) : Int) := by omega
      have g3 : ((L ++ [B]).set 1 (AObj.vec 97 1 (d.length + 1) (ptrs ids ++ [.ptr L.length 0])))[ids[p]]? = some (.box 131 [.int .i64 p, ch]) := by rw [hold _ hid2 hidl]; exact hbox
      obtain ⟨L2, rid, g, hI2, hrj2, hbox2, hr2, hrow2, red⟩ : ∃ (L2 : List AObj) (rid g : Nat), TrI (.box 60 [.sl false (ints P)]) ⟨d, (p : Int) :: r, ids, L2⟩ ∧ RInj L2 ids ∧ L2[ids[p]]? = some (.box 131 [.int .i64 p, .ref rid [] g (kidsL d p).length]) ∧ 2 ≤ rid ∧
          L2[rid]? = some (.vec 97 1 g (ptrs ((kidsL d p).map fun c => ids.getD c 0))) ∧ ∀ {c : Code} {Q : Exit → St → Prop} {t : List AV}, AWp Try.prog c Q ⟨t, L2⟩ → AWp Try.prog c Q ⟨t, L⟩ := by
        have hpi := List.getElem?_eq_getElem hpl
        rcases hch with ⟨hk, rfl⟩ | ⟨rid, g, rfl, hr2, hrow⟩
        · have hI2 := TrI.ghost hI0 hij hpi hbox hk
          refine ⟨_, L.length, 0, hI2, RInj.ghost hI0 hij hrj hpi, ?_, by have := (List.getElem?_eq_some_iff.1 l1).1; omega, ?_, fun h => AWp.nilB ids[p] 1 97 1 hbox rfl h⟩
          · rw [List.getElem?_append_left (by simpa using hidl), List.getElem?_set_self hidl, hk]; rfl
          · rw [List.getElem?_append_right (by simp), hk]; simp [ptrs]
        · exact ⟨L, rid, g, hI0, hrj, hbox, hr2, hrow, fun h => h⟩
      have hkl : (kidsL d p).length ≤ 40 := by
        have := List.length_filter_le (fun c => d[c]? == some (p : Int)) (List.range d.length)
        simp only [List.length_range] at this
        unfold kidsL; omega
      have hpi := List.getElem?_eq_getElem hpl
      have hang := TrI.hang hI2 hpd (by omega) hij (fun j id g' n c hj hb => hrj2 j p id ids[p] rid g' g n _ c _ hj hpi hb hbox2) hpi hbox2 hr2 hrow2
      have hang2 := RInj.hang (V := AObj.vec 97 1 (d.length + 1) (ptrs ids ++ [AV.ptr L2.length 0])) (R := AObj.vec 97 1 (g + 1) (ptrs ((kidsL d p).map fun c => ids.getD c 0) ++ [AV.ptr L2.length 0])) (g1 := g + 1) (n1 := (kidsL d p).length + 1) hI2 (List.getElem?_eq_some_iff.1 hI2.l1).1 hij hrj2 hpi hbox2 hrow2
      have hinj2 := Inj.snoc hI2 hij
      have hksl : (ptrs ((kidsL d p).map fun c => ids.getD c 0)).length = (kidsL d p).length := by simp [ptrs]
      have hkn : noOwn (ptrs ((kidsL d p).map fun c => ids.getD c 0)) = true := ptrs_noOwn _
      rw [← hksl] at hbox2 hang hang2 hkl
      generalize ptrs ((kidsL d p).map fun c => ids.getD c 0) = ks at *
      have hk40 := hkl
      have hrow := hrow2
      rw [hB] at hang hang2
      clear hold v1 f6 g3 hptr l0 l1 hnode hbox hch
      obtain ⟨l0, l1, _, _⟩ := hI2
      simp only at l0 l1
      have hlt1 := (List.getElem?_eq_some_iff.1 l1).1
      have hidl2 := (List.getElem?_eq_some_iff.1 hbox2).1
      have hridl := (List.getElem?_eq_some_iff.1 hrow).1
      have hne : rid ≠ ids[p] := fun e => by rw [e, hbox2] at hrow; cases hrow
      have g1' : (ptrs ids ++ [AV.ptr L2.length 0])[p]? = some (.ptr ids[p] 0) := by
        rw [List.getElem?_append_left (by simpa [ptrs] using hpl)]; simp [ptrs, hpl]
      generalize ids[p] = idp at *
      generalize hVV : AObj.vec 97 1 (d.length + 1) (ptrs ids ++ [.ptr L2.length 0]) = V at *
      have f6 : ∀ B : AObj, (L2 ++ [B])[1]? = some (.vec 97 1 d.length (ptrs ids)) := fun B => by rw [List.getElem?_append_left hlt1]; exact l1
      have v1 : ((L2 ++ [B]).set 1 V)[1]? = some (AObj.vec 97 1 (d.length + 1) (ptrs ids ++ [.ptr L2.length 0])) := by rw [hVV]; exact List.getElem?_set_self (by simp; omega)
      have hold : ∀ id, 2 ≤ id → id < L2.length → ((L2 ++ [B]).set 1 V)[id]? = L2[id]? := fun id h1 h2 => by
        rw [List.getElem?_set_ne (by omega), List.getElem?_append_left h2]
      have g3 : ((L2 ++ [B]).set 1 V)[idp]? = some (.box 131 [.int .i64 p, .ref rid [] g ks.length]) := by rw [hold _ hid2 hidl2]; exact hbox2
      have g4 : ((L2 ++ [B]).set 1 V)[rid]? = some (.vec 97 1 g ks) := by rw [hold _ hr2 hridl]; exact hrow
      have g5 : ∀ X, (((L2 ++ [B]).set 1 V).set rid X)[idp]? = some (.box 131 [.int .i64 p, .ref rid [] g ks.length]) := fun X => by rw [List.getElem?_set_ne hne]; exact g3
      have g6 : ks.length + 1 ≤ 137438953472 := by omega
      have d1 : decide (2 ≤ idp) = true := by simpa using hid2
      have d2 : decide (2 ≤ rid) = true := by simpa using hr2
      subst hVV
      refine ⟨⟨d ++ [(p : Int)], r, ids ++ [L2.length], (((L2 ++ [B]).set 1 (AObj.vec 97 1 (d.length + 1) (ptrs ids ++ [.ptr L2.length 0]))).set rid (.vec 97 1 (g + 1) (ks ++ [.ptr L2.length 0]))).set idp (.box 131 [.int .i64 p, .ref rid [] (g + 1) (ks.length + 1)])⟩, ⟨by simp [ha], hang, hinj2, hang2⟩, by simp, red ?_⟩
      refine W.sound hmix (E := [5999998, 5999997, 7200038, 1000007]) ?_
      simp only [nilV] at hB
      simp only [run0, run1, run2, run3, run4, run5, run6, run7, run8, run9, run10, run11, run12, run13, run14, run15, run16, run17, run18, run19, run20, run21, run22, reduceCtorEq, Nat.reduceEqDiff, Nat.reduceAdd, Nat.reduceSub, Nat.reduceLeDiff, indexAddrA, indexRefA, appendA, strA, Nat.reduceMul, Nat.zero_mul, Nat.reduceMod, Int.reduceEq, Int.reduceLT, Int.reduceLE, Nat.reduceLT, Nat.lt_irrefl, Nat.reduceBEq, tys0, tys1, tys2, tys3, tys4, tys5, tys6, tys7, tys8, tys9, tys10, tys11, tys12, tys13, tys14, tys15, tys16, tys17, tys18, Try.ntmps80, Try.results80, f1, f2, f5, f6, f7, f8, f9, hneg, l0, l1, hB, v1, g1', g2, g3, g4, g5, g6, hkn, d1, d2, List.mapIdx_cons, List.mapIdx_nil, viewC, Int.toNat_natCast, Int.natCast_nonneg]
      refine ⟨by kernel_rfl, ?_⟩
      repeat constructor
    · refine ⟨⟨d ++ [x], r, ids ++ [L.length], (L ++ [B]).set 1 (AObj.vec 97 1 (d.length + 1) (ptrs ids ++ [.ptr L.length 0]))⟩, ⟨by simp [ha], by rw [← hB]; exact TrI.root hI0 (by omega) hpd, Inj.snoc hI0 hij, by rw [← hB]; exact RInj.root hI0 hlt1 hrj⟩, by simp, ?_⟩
      refine W.sound hmix (E := [5999998, 5999997, 7200038, 1000007]) ?_
      simp only [nilV] at hB
      simp only [run0, run1, run2, run3, run4, run5, run6, run7, run8, run9, run10, run11, run12, run13, run14, run15, run16, run17, run18, run19, run20, run21, run22, reduceCtorEq, Nat.reduceEqDiff, Nat.reduceAdd, Nat.reduceSub, Nat.reduceLeDiff, indexAddrA, indexRefA, appendA, strA, Nat.reduceMul, Nat.zero_mul, Nat.reduceMod, Int.reduceEq, Int.reduceLT, Int.reduceLE, Nat.reduceLT, Nat.lt_irrefl, Nat.reduceBEq, tys0, tys1, tys2, tys3, tys4, tys5, tys6, tys7, tys8, tys9, tys10, tys11, tys12, tys13, tys14, tys15, tys16, tys17, tys18, Try.ntmps80, Try.results80, f1, f2, f5, f6, f7, f8, f9, hneg, l0, l1, hB, Int.toNat_natCast, Int.natCast_nonneg]
      repeat constructor

end Go.Proofs.Ytphmkhaboghagaa
/-
  Hydras: a right one's parents stand ahead.
-/
namespace Go.Proofs.Ytphmkhaboghagaa
open Go K Od
set_option linter.unusedSimpArgs false
set_option linter.unusedVariables false

theorem goodH_par : ∀ (r path : List Int) (i : Int), 0 ≤ i → (∀ x ∈ path, 0 ≤ x ∧ x < i) → goodH path r i = true → ∀ (c : Nat) (x : Int), r[c]? = some x → 0 ≤ x ∧ x < i + c
  | [], path, i, _, _, _, c, x, h => by simp at h
  | p :: r, path, i, hi, hp, hg, c, x, h => by
    simp only [goodH, Bool.and_eq_true, decide_eq_true_eq] at hg
    obtain ⟨h1, h2⟩ := hg
    have hmem : p ∈ path := by
      rcases findI_spec p path 0 with ⟨a, _⟩ | ⟨d, r', a, _, _⟩
      · omega
      · rw [a]; simp
    cases c with
    | zero =>
      simp at h; subst h
      have := hp p hmem
      omega
    | succ c =>
      have := goodH_par r _ (i + 1) (by omega) (fun y hy => by
        rcases List.mem_append.1 hy with hy | hy
        · have := hp y (List.mem_of_mem_take hy); omega
        · simp at hy; omega) h2 c x (by simpa using h)
      omega
theorem hydB_par {P : List Int} (h : hydB P = true) : ParOk P ∧ P.length ≤ 40 := by
  cases P with
  | nil => simp [hydB] at h
  | cons p r =>
    simp only [hydB, Bool.and_eq_true, decide_eq_true_eq, beq_iff_eq] at h
    obtain ⟨⟨h1, h2⟩, h3⟩ := h
    refine ⟨fun c x hc => ?_, by simpa using h1⟩
    cases c with
    | zero => simp at hc; omega
    | succ c =>
      have := goodH_par r [0] 1 (by omega) (fun y hy => by simp at hy; omega) h3 c x (by simpa using hc)
      omega
theorem treeOf_ok (P : List Int) (h : hydB P = true) : Ct Try.prog 80 [.agg [.sl false (ints P)]] [] (.sl false ((List.range P.length).map (nodeV P))) [] :=
  treeOf_walk P (hydB_par h).2 (hydB_par h).1

end Go.Proofs.Ytphmkhaboghagaa
/-
  Ordinals as trees: differences. No program in sight.
-/
namespace Go.Proofs.Ytphmkhaboghagaa
open Go K Od
set_option linter.unusedSimpArgs false
set_option linter.unusedVariables false

/-- What makes the second up to the first. -/
def lessS : Od → Od → Od
  | .nil, _ => .nil
  | .cons e c r, .nil => .cons e c r
  | .cons e c r, .cons e' c' r' => if cmpT e e' ≠ 0 then .cons e c r else if c ≠ c' then .cons e (c - c') r else lessS r r'
theorem lessS_cons (e e' : Od) (c c' : Int) (r r' : Od) : lessS (.cons e c r) (.cons e' c' r') = if cmpT e e' ≠ 0 then .cons e c r else if c ≠ c' then .cons e (c - c') r else lessS r r' := rfl
theorem lessS_nil (a : Od) : lessS a .nil = a := by cases a <;> rfl
theorem lessS_sz : ∀ a b : Od, (lessS a b).sz ≤ a.sz
  | .nil, _ => by simp [lessS, sz]
  | .cons e c r, .nil => by simp [lessS]
  | .cons e c r, .cons e' c' r' => by
    have := lessS_sz r r'
    unfold lessS
    split
    · exact Nat.le_refl _
    · split
      · simp [sz]
      · simp only [sz]; omega

end Go.Proofs.Ytphmkhaboghagaa
/-
  Ordinals as trees: sums. No program in sight.
-/
namespace Go.Proofs.Ytphmkhaboghagaa
open Go K Od
set_option linter.unusedSimpArgs false
set_option linter.unusedVariables false

/-- Exponents decrease. -/
def desc : Option Od → Od → Prop
  | _, .nil => True
  | p, .cons e c r => below p e = true ∧ desc (some e) r
theorem formG_desc : ∀ {a : Od} {n : Nat} {p : Option Od}, formG a n p = true → desc p a
  | .nil, _, _, _ => trivial
  | .cons e c r, n, p, h => by
    rw [formG_cons] at h
    simp only [Bool.and_eq_true] at h
    exact ⟨h.1.2, formG_desc h.2⟩
theorem goodT_desc {a : Od} (h : goodT a = true) : desc none a := by
  simp only [goodT, Bool.and_eq_true] at h; exact formG_desc h.2

/-- What a sum's second part does to the first. -/
def plusA (e : Od) (c : Int) (r : Od) : Od → Od
  | .nil => .cons e c r
  | .cons x k q => if 0 < cmpT x e then .cons x k (plusA e c r q) else if cmpT x e = 0 then .cons x (k + c) r else plusA e c r q
def plusT (a : Od) : Od → Od
  | .nil => a
  | .cons e c r => plusA e c r a
/-- Terms that are less vanish. -/
def pop (e : Od) : Od → Od
  | .nil => .nil
  | .cons x k r => match pop e r with | .nil => if cmpT x e < 0 then .nil else .cons x k .nil | .cons x' k' q => .cons x k (.cons x' k' q)
theorem pop_snoc (e : Od) (x : Od) (k : Int) : ∀ d : Od, pop e (d.app (.cons x k .nil)) = if cmpT x e < 0 then pop e d else d.app (.cons x k .nil)
  | .nil => by simp only [Od.app, pop]
  | .cons x' k' d => by
    simp only [Od.app, pop, pop_snoc e x k d]
    by_cases hx : cmpT x e < 0
    · simp only [if_pos hx]
    · simp only [if_neg hx]
      cases h : d.app (.cons x k .nil) with
      | nil => have := congrArg len h; simp [len_app, len] at this
      | cons _ _ _ => rfl
def addEnd (e : Od) (c : Int) : Od → Od
  | .nil => .cons e c .nil
  | .cons x k .nil => if cmpT x e = 0 then .cons x (k + c) .nil else .cons x k (.cons e c .nil)
  | .cons x k (.cons x' k' r) => .cons x k (addEnd e c (.cons x' k' r))
theorem addEnd_snoc (e : Od) (c : Int) (x : Od) (k : Int) : ∀ d : Od, addEnd e c (d.app (.cons x k .nil)) = if cmpT x e = 0 then d.app (.cons x (k + c) .nil) else d.app (.cons x k (.cons e c .nil))
  | .nil => by simp only [Od.app, addEnd]
  | .cons x' k' .nil => by simp only [Od.app, addEnd]; split <;> rfl
  | .cons x' k' (.cons x2 k2 d) => by
    have := addEnd_snoc e c x k (.cons x2 k2 d)
    simp only [Od.app] at this
    simp only [Od.app, addEnd, this]; split <;> rfl
def odPlusT : Od → Od → Od
  | a, .nil => a
  | a, .cons e c r => odPlusT (addEnd e c (pop e a)) r
theorem odPlusT_cons (a e r : Od) (c : Int) : odPlusT a (.cons e c r) = odPlusT (addEnd e c (pop e a)) r := rfl

theorem cmp_lt {y x e : Od} (h1 : below (some y) x = true) (h2 : cmpT y e ≤ 0) : cmpT x e < 0 := by
  simp only [below, decide_eq_true_eq] at h1
  by_cases h : cmpT y e = 0
  · have := cmpT_zero h; subst this
    have := cmpT_anti y x; omega
  · have h3 : 0 < cmpT e y := by have := cmpT_anti y e; omega
    have := cmpT_trans h3 h1
    have := cmpT_anti e x; omega
theorem pop_all {e : Od} : ∀ {q y : Od}, desc (some y) q → cmpT y e ≤ 0 → pop e q = .nil
  | .nil, _, _, _ => rfl
  | .cons x k q, y, h1, h2 => by
    have h3 := cmp_lt h1.1 h2
    simp only [pop, pop_all h1.2 (Int.le_of_lt h3), if_pos h3]
theorem plusA_all {e r : Od} {c : Int} : ∀ {q y : Od}, desc (some y) q → cmpT y e ≤ 0 → plusA e c r q = .cons e c r
  | .nil, _, _, _ => rfl
  | .cons x k q, y, h1, h2 => by
    have h3 := cmp_lt h1.1 h2
    simp only [plusA]
    rw [if_neg (by omega), if_neg (by omega), plusA_all h1.2 (Int.le_of_lt h3)]
theorem plus_step {e r : Od} {c : Int} : ∀ {a : Od} {p : Option Od}, desc p a → ∃ (d : Od) (k : Int), addEnd e c (pop e a) = d.app (.cons e k .nil) ∧ plusA e c r a = d.app (.cons e k r)
  | .nil, _, _ => ⟨.nil, c, rfl, rfl⟩
  | .cons x k q, p, h => by
    rcases Int.lt_trichotomy (cmpT x e) 0 with h1 | h1 | h1
    · refine ⟨.nil, c, ?_, ?_⟩
      · simp only [pop, pop_all h.2 (Int.le_of_lt h1), if_pos h1]; rfl
      · simp only [plusA]
        rw [if_neg (by omega), if_neg (by omega), plusA_all h.2 (Int.le_of_lt h1)]; rfl
    · have hx := cmpT_zero h1
      refine ⟨.nil, k + c, ?_, ?_⟩
      · simp only [pop, pop_all h.2 (Int.le_of_eq h1)]
        rw [if_neg (by omega)]
        simp only [addEnd, if_pos h1]; rw [hx]; rfl
      · simp only [plusA]
        rw [if_neg (by omega), if_pos h1, hx]; rfl
    · obtain ⟨d, k', e1, e2⟩ := plus_step (e := e) (r := r) (c := c) h.2
      refine ⟨.cons x k d, k', ?_, ?_⟩
      · have h2 : pop e (.cons x k q) = .cons x k (pop e q) := by
          simp only [pop]
          cases pop e q with
          | nil => simp only; rw [if_neg (by omega)]
          | cons _ _ _ => rfl
        rw [h2]
        have h3 : addEnd e c (.cons x k (pop e q)) = .cons x k (addEnd e c (pop e q)) := by
          cases pop e q with
          | nil => simp only [addEnd]; rw [if_neg (by omega)]
          | cons _ _ _ => rfl
        rw [h3, e1]; rfl
      · simp only [plusA]
        rw [if_pos h1, e2]; rfl
theorem odPlus_end {e : Od} : ∀ {r : Od} (d : Od) (k : Int), desc (some e) r → odPlusT (d.app (.cons e k .nil)) r = d.app (.cons e k r)
  | .nil, d, k, _ => rfl
  | .cons e2 c2 r2, d, k, h => by
    have h1 : 0 < cmpT e e2 := by have := h.1; simpa [below] using this
    have h2 := odPlus_end (e := e2) (r := r2) (d.app (.cons e k .nil)) c2 h.2
    rw [odPlusT_cons, pop_snoc, if_neg (by omega), addEnd_snoc, if_neg (by omega)]
    have e1 : d.app (.cons e k (.cons e2 c2 .nil)) = (d.app (.cons e k .nil)).app (.cons e2 c2 .nil) := by rw [app_assoc]; rfl
    rw [e1, h2, app_assoc]; rfl
theorem plus_eq {a b : Od} {p q : Option Od} (ha : desc p a) (hb : desc q b) : odPlusT a b = plusT a b := by
  cases b with
  | nil => rfl
  | cons e c r =>
    obtain ⟨d, k, e1, e2⟩ := plus_step (e := e) (r := r) (c := c) ha
    rw [odPlusT_cons, e1, odPlus_end d k hb.2]
    exact e2.symm

theorem plusA_sz (e r : Od) (c : Int) : ∀ a : Od, (plusA e c r a).sz ≤ a.sz + (e.sz + r.sz + 1)
  | .nil => by simp [plusA, sz]
  | .cons x k q => by
    have := plusA_sz e r c q
    unfold plusA
    split
    · simp only [sz]; omega
    · split
      · simp only [sz]; omega
      · simp only [sz]; omega
theorem plusT_sz (a b : Od) : (plusT a b).sz ≤ a.sz + b.sz := by
  cases b with
  | nil => simp [plusT]
  | cons e c r => exact plusA_sz e r c a

/-- What bounds the terms of a sum on its way. -/
def bnd (m : Int) : Od → Prop
  | .nil => True
  | .cons e c r => rng e ∧ e.sz ≤ 1048576 ∧ -m ≤ c ∧ c ≤ m ∧ bnd m r
theorem bnd_mono {m m' : Int} (hm : m ≤ m') : ∀ {a : Od}, bnd m a → bnd m' a
  | .nil, _ => trivial
  | .cons e c r, h => ⟨h.1, h.2.1, by have := h.2.2.1; omega, by have := h.2.2.2.1; omega, bnd_mono hm h.2.2.2.2⟩
theorem bnd_app {m : Int} {b : Od} : ∀ {a : Od}, bnd m (a.app b) ↔ bnd m a ∧ bnd m b
  | .nil => by simp [Od.app, bnd]
  | .cons e c r => by
    have := bnd_app (m := m) (b := b) (a := r)
    simp only [Od.app, bnd, this]
    constructor
    · rintro ⟨h1, h2, h3, h4, h5, h6⟩; exact ⟨⟨h1, h2, h3, h4, h5⟩, h6⟩
    · rintro ⟨⟨h1, h2, h3, h4, h5⟩, h6⟩; exact ⟨h1, h2, h3, h4, h5, h6⟩
theorem rng_bnd : ∀ {a : Od}, rng a → a.sz ≤ 1048576 → bnd 1000000 a
  | .nil, _, _ => trivial
  | .cons e c r, h, hs => by
    simp only [sz] at hs
    exact ⟨h.2.2.1, by omega, by have := h.1; omega, h.2.1, rng_bnd h.2.2.2 (by omega)⟩

end Go.Proofs.Ytphmkhaboghagaa
/-
  Ordinals as trees: natural sums. No program in sight.
-/
namespace Go.Proofs.Ytphmkhaboghagaa
open Go K Od
set_option linter.unusedSimpArgs false
set_option linter.unusedVariables false

/-- A term is added naturally. -/
def meetT (e : Od) (c : Int) : Od → Od
  | .nil => .cons e c .nil
  | .cons x k r => if 0 < cmpT x e then .cons x k (meetT e c r) else if cmpT x e = 0 then .cons e (c + k) r else .cons e c (.cons x k r)
def joinT : Od → Od → Od
  | a, .nil => a
  | a, .cons e c r => joinT (meetT e c a) r
theorem joinT_cons (a e r : Od) (c : Int) : joinT a (.cons e c r) = joinT (meetT e c a) r := rfl
/-- Two are merged. -/
def mergeT : Od → Od → Od
  | .nil, b => b
  | .cons x k a, .nil => .cons x k a
  | .cons x k a, .cons e c b => if 0 < cmpT x e then .cons x k (mergeT a (.cons e c b)) else if cmpT x e = 0 then .cons e (k + c) (mergeT a b) else .cons e c (mergeT (.cons x k a) b)
termination_by a b => a.len + b.len
decreasing_by all_goals simp only [len]; omega
theorem merge_nil (a : Od) : mergeT a .nil = a := by cases a <;> simp [mergeT]
theorem merge_cons (x a e b : Od) (k c : Int) : mergeT (.cons x k a) (.cons e c b) = if 0 < cmpT x e then .cons x k (mergeT a (.cons e c b)) else if cmpT x e = 0 then .cons e (k + c) (mergeT a b) else .cons e c (mergeT (.cons x k a) b) := by
  rw [mergeT]
theorem join_head {x : Od} {k : Int} : ∀ {b a : Od}, (∀ q, desc q b → True) → desc (some x) b → joinT (.cons x k a) b = .cons x k (joinT a b)
  | .nil, _, _, _ => rfl
  | .cons e c b, a, h, hd => by
    have h1 : 0 < cmpT x e := by have := hd.1; simpa [below] using this
    have hb : desc (some x) b := by
      cases b with
      | nil => trivial
      | cons y k2 b2 =>
        have h2 := hd.2
        refine ⟨?_, h2.2⟩
        have h3 : 0 < cmpT e y := by have := h2.1; simpa [below] using this
        simp only [below, decide_eq_true_eq]
        exact cmpT_trans h1 h3
    rw [joinT_cons, joinT_cons]
    simp only [meetT]
    rw [if_pos h1, join_head (fun _ _ => trivial) hb]
theorem join_nil : ∀ {b : Od} {p : Option Od}, desc p b → joinT .nil b = b
  | .nil, _, _ => rfl
  | .cons e c b, p, h => by
    rw [joinT_cons]
    show joinT (.cons e c .nil) b = _
    rw [join_head (fun _ _ => trivial) h.2, join_nil h.2]
theorem join_merge : ∀ (a b : Od) {p : Option Od}, desc p b → joinT a b = mergeT a b
  | .nil, b, p, h => by rw [join_nil h, mergeT]
  | .cons x k a, .nil, p, h => by rw [merge_nil]; rfl
  | .cons x k a, .cons e c b, p, h => by
    rw [merge_cons]
    rcases Int.lt_trichotomy (cmpT x e) 0 with h1 | h1 | h1
    · rw [if_neg (by omega), if_neg (by omega), joinT_cons]
      simp only [meetT]
      rw [if_neg (by omega), if_neg (by omega), join_head (fun _ _ => trivial) h.2, join_merge (.cons x k a) b h.2]
    · rw [if_neg (by omega), if_pos h1, joinT_cons]
      simp only [meetT]
      rw [if_neg (by omega), if_pos h1, join_head (fun _ _ => trivial) h.2, join_merge a b h.2, Int.add_comm]
    · have hx : desc (some x) (.cons e c b) := ⟨by simpa [below] using h1, h.2⟩
      rw [if_pos h1, join_head (fun _ _ => trivial) hx, join_merge a (.cons e c b) hx]
termination_by a b => a.len + b.len
decreasing_by all_goals simp only [len]; omega

theorem mergeT_sz : ∀ a b : Od, (mergeT a b).sz ≤ a.sz + b.sz
  | .nil, b => by rw [mergeT]; simp [sz]
  | .cons x k a, .nil => by rw [merge_nil]; omega
  | .cons x k a, .cons e c b => by
    have h1 := mergeT_sz a (.cons e c b)
    have h2 := mergeT_sz a b
    have h3 := mergeT_sz (.cons x k a) b
    rw [merge_cons]
    simp only [sz] at h1 h2 h3 ⊢
    split
    · simp only [sz]; omega
    · split
      · simp only [sz]; omega
      · simp only [sz]; omega
termination_by a b => a.len + b.len
decreasing_by all_goals simp only [len]; omega

end Go.Proofs.Ytphmkhaboghagaa
