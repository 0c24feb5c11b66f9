/-
  Hereditary forms: reading them back: the law.
-/
import Derived.Test.YtphmkhaboghagaaC1
import Derived.Test.YtphmkhaboghagaaG10
namespace Go.Proofs.Ytphmkhaboghagaa
open Go K Od
set_option linter.unusedSimpArgs false
set_option linter.unusedVariables false
set_option maxHeartbeats 1600000

theorem valueOf_ok (a : Od) (b : Int) (hs : a.sz ≤ 1048576) (hb : 2 ≤ b) (hb2 : b ≤ 1000) (ra : rng a) : Ct Try.prog 65 [av a, .int .i64 b] [] (.int .i64 (valT b a)) [] := by
  refine Ct.by_ hmix [] Try.func65 rfl ?_
  simp only [run0, run1, run2, run3, run4, run5, run6, run7, run8, run9, run10, run11, run12, run13, run14, run15, run16, run17, run18, run19, run20, run21, run22, reduceCtorEq, Nat.reduceEqDiff, Nat.reduceAdd, Nat.reduceSub, Nat.reduceLeDiff, indexAddrA, indexRefA, appendA, strA, Nat.reduceMul, Nat.zero_mul, Nat.reduceMod, Int.reduceEq, Int.reduceLT, Int.reduceLE, Nat.reduceLT, Nat.lt_irrefl, Nat.reduceBEq, tys0, tys1, tys2, tys3, tys4, tys5, tys6, tys7, tys8, tys9, tys10, tys11, tys12, tys13, tys14, tys15, tys16, tys17, tys18, Try.ntmps65, Try.results65, av, elems_length]
  refine AWp.loop_inv (ι := Od × Od × Int × List AObj) (fun p => ⟨[.agg [.sl false (elems a)], .int .i64 b, .ptr 0 0, .junk, .junk, .int .i64 p.2.2.1, .junk, .junk, .junk, .junk, .junk, .sl false (elems a), .int .i64 a.len, .int .i64 p.1.len, .junk, .junk, .junk, .junk, .junk, .junk, .junk, .junk, .junk, .junk, .junk, .junk, .junk, .junk, .junk, .junk, .junk, .junk, .junk, .junk, .junk, .junk, .junk, .junk, .junk, .junk, .junk], .box 24 [.sl false (elems a)] :: p.2.2.2⟩)
    (fun p => a = p.1.app p.2.1 ∧ 0 ≤ p.2.2.1 ∧ p.2.2.1 ≤ 1000000 ∧ valS b p.2.1 p.2.2.1 = valT b a) (fun p => p.2.1.len) (.nil, a, 0, []) ⟨rfl, by simp only; omega, by simp only; omega, rfl⟩ ⟨by simp only [len, Int.natCast_zero]; repeat constructor, rfl⟩ ?_
  rintro ⟨d, r, s, X⟩ ⟨ha, h2, h3, h4⟩
  refine W.sound hmix (E := []) ?_
  simp only at ha h2 h3 h4
  cases r with
  | nil =>
    obtain ⟨e1, rfl⟩ := od_end ha
    simp only [run0, run1, run2, run3, run4, run5, run6, run7, run8, run9, run10, run11, run12, run13, run14, run15, run16, run17, run18, run19, run20, run21, run22, reduceCtorEq, Nat.reduceEqDiff, Nat.reduceAdd, Nat.reduceSub, Nat.reduceLeDiff, indexAddrA, indexRefA, appendA, strA, Nat.reduceMul, Nat.zero_mul, Nat.reduceMod, Int.reduceEq, Int.reduceLT, Int.reduceLE, Nat.reduceLT, Nat.lt_irrefl, Nat.reduceBEq, tys0, tys1, tys2, tys3, tys4, tys5, tys6, tys7, tys8, tys9, tys10, tys11, tys12, tys13, tys14, tys15, tys16, tys17, tys18, Try.ntmps65, Try.results65, elems_length, e1]
    exact Fin.eq (by rw [← h4]; rfl) rfl
  | cons e c r =>
    obtain ⟨e1, e2, e5, hlt, hn, _⟩ := od_step ha hs
    rw [ha] at ra
    have ra := rng_app ra
    have hc : 1 ≤ c ∧ c ≤ 1000000 := ⟨ra.1, ra.2.1⟩
    have hv := valS_range (b := b) hb (a := e) (s := 0) ra.2.2.1 (by omega) (by omega)
    obtain ⟨E, hE⟩ : ∃ E : Nat, valT b e = (E : Int) := ⟨(valT b e).toNat, by have : 0 ≤ valT b e := hv.1; omega⟩
    have hcv := valueOf_ok e b (by omega) hb hb2 ra.2.2.1
    rw [hE] at hcv
    rw [valS_cons, hE, Int.toNat_natCast] at h4
    simp only [run0, run1, run2, run3, run4, run5, run6, run7, run8, run9, run10, run11, run12, run13, run14, run15, run16, run17, run18, run19, run20, run21, run22, reduceCtorEq, Nat.reduceEqDiff, Nat.reduceAdd, Nat.reduceSub, Nat.reduceLeDiff, indexAddrA, indexRefA, appendA, strA, Nat.reduceMul, Nat.zero_mul, Nat.reduceMod, Int.reduceEq, Int.reduceLT, Int.reduceLE, Nat.reduceLT, Nat.lt_irrefl, Nat.reduceBEq, tys0, tys1, tys2, tys3, tys4, tys5, tys6, tys7, tys8, tys9, tys10, tys11, tys12, tys13, tys14, tys15, tys16, tys17, tys18, Try.ntmps65, Try.results65, elems_length, e1, e2, Int.toNat_natCast, Int.natCast_nonneg]
    refine ⟨by kernel_rfl, ?_⟩
    refine RunL.callp rfl rfl ok_f65 (hcv) (by first | rfl | simp only [pureL, pureB, Bool.and_self, Bool.and_true, Bool.true_and, Od.elems_pure, Od.pay_pure, Od.av_pure]) rfl ?_
    simp only [run0, run1, run2, run3, run4, run5, run6, run7, run8, run9, run10, run11, run12, run13, run14, run15, run16, run17, run18, run19, run20, run21, run22, reduceCtorEq, Nat.reduceEqDiff, Nat.reduceAdd, Nat.reduceSub, Nat.reduceLeDiff, indexAddrA, indexRefA, appendA, strA, Nat.reduceMul, Nat.zero_mul, Nat.reduceMod, Int.reduceEq, Int.reduceLT, Int.reduceLE, Nat.reduceLT, Nat.lt_irrefl, Nat.reduceBEq, tys0, tys1, tys2, tys3, tys4, tys5, tys6, tys7, tys8, tys9, tys10, tys11, tys12, tys13, tys14, tys15, tys16, tys17, tys18, Try.ntmps65, Try.results65]
    refine AWp.loop_inv (ι := Nat × Int) (fun p => ⟨[.agg [.sl false (elems a)], .int .i64 b, .ptr 0 0, .junk, .junk, .int .i64 s, .junk, .junk, .int .i64 p.1, .int .i64 p.2, .junk, .sl false (elems a), .int .i64 a.len, .int .i64 d.len, .junk, .junk, .junk, .junk, .junk, .junk, .junk, .junk, .junk, .junk, .junk, .junk, .junk, .junk, .junk, .junk, .junk, .junk, .junk, .junk, .junk, .junk, .junk, .junk, .junk, .junk, .junk], .box 24 [.sl false (elems a)] :: (X ++ [.box 88 [.sl false (elems e), .int .i64 c]])⟩)
      (fun p => partL b p.1 p.2 = partL b E c ∧ 1 ≤ p.2 ∧ p.2 ≤ 1000000000 ∧ (p.1 : Int) ≤ 1000001) (fun p => p.1) (E, c) ⟨rfl, hc.1, by simp only; omega, by simp only; rw [← hE]; exact hv.2⟩ ⟨by repeat constructor, rfl⟩ ?_
    rintro ⟨k, q⟩ ⟨g1, g2, g3, g4⟩
    refine W.sound hmix (E := []) ?_
    simp only at g1 g2 g3 g4
    have hpb := partL_bound (b := b) (by omega) hb2 E c hc.1 (by omega)
    by_cases hk0 : k = 0
    · subst hk0
      have hk : ¬ ((0 : Int) < ((0 : Nat) : Int)) := by omega
      have hq2 : True := trivial
      have hq : q = partL b E c := g1
      subst hq
      have hw2 : IntKind.i64.wrap (s + partL b E c) = s + partL b E c := w64_id (by omega) (by omega)
      have hx := partL_spec (b := b) (by omega) E c hc.1
      by_cases hg : 1000000 < s + partL b E c
      · have hg2 : 1000000 < s + c * b ^ E := by
          by_cases hl : c * b ^ E ≤ 1000000
          · rw [hx.1 hl] at hg; exact hg
          · omega
        rw [if_pos hg2] at h4
        simp only [run0, run1, run2, run3, run4, run5, run6, run7, run8, run9, run10, run11, run12, run13, run14, run15, run16, run17, run18, run19, run20, run21, run22, reduceCtorEq, Nat.reduceEqDiff, Nat.reduceAdd, Nat.reduceSub, Nat.reduceLeDiff, indexAddrA, indexRefA, appendA, strA, Nat.reduceMul, Nat.zero_mul, Nat.reduceMod, Int.reduceEq, Int.reduceLT, Int.reduceLE, Nat.reduceLT, Nat.lt_irrefl, Nat.reduceBEq, tys0, tys1, tys2, tys3, tys4, tys5, tys6, tys7, tys8, tys9, tys10, tys11, tys12, tys13, tys14, tys15, tys16, tys17, tys18, Try.ntmps65, Try.results65, hk, hq2, hw2, hg]
        exact Fin.eq (by rw [← h4]) rfl
      · have hl : c * b ^ E ≤ 1000000 := by
          refine Decidable.byContradiction fun hl => ?_
          have := hx.2 (by omega); omega
        rw [hx.1 hl] at hg hw2 hpb ⊢
        rw [if_neg hg] at h4
        simp only [run0, run1, run2, run3, run4, run5, run6, run7, run8, run9, run10, run11, run12, run13, run14, run15, run16, run17, run18, run19, run20, run21, run22, reduceCtorEq, Nat.reduceEqDiff, Nat.reduceAdd, Nat.reduceSub, Nat.reduceLeDiff, indexAddrA, indexRefA, appendA, strA, Nat.reduceMul, Nat.zero_mul, Nat.reduceMod, Int.reduceEq, Int.reduceLT, Int.reduceLE, Nat.reduceLT, Nat.lt_irrefl, Nat.reduceBEq, tys0, tys1, tys2, tys3, tys4, tys5, tys6, tys7, tys8, tys9, tys10, tys11, tys12, tys13, tys14, tys15, tys16, tys17, tys18, Try.ntmps65, Try.results65, hk, hq2, hw2, hg, e5]
        exact ⟨(d.app (cons e c nil), r, s + c * b ^ E, _), ⟨hn.symm, by simp only; omega, by simp only; omega, h4⟩, by simp [len], by repeat constructor, rfl⟩
    have hk : (0 : Int) < (k : Int) := by omega
    by_cases hq2 : q ≤ 1000000
    · obtain ⟨k, rfl⟩ : ∃ j, k = j + 1 := ⟨k - 1, by omega⟩
      have l1 : 1 * 1 ≤ q * b := Int.mul_le_mul g2 (by omega) (by omega) (by omega)
      have l2 : q * b ≤ 1000000 * 1000 := Int.mul_le_mul hq2 hb2 (by omega) (by omega)
      have hw : IntKind.i64.wrap (q * b) = q * b := w64_id (by omega) (by omega)
      have hw3 : IntKind.i64.wrap (((k + 1 : Nat) : Int) - 1) = (k : Int) := by rw [w64_id (by omega) (by omega)]; omega
      rw [partL, if_pos hq2] at g1
      simp only [run0, run1, run2, run3, run4, run5, run6, run7, run8, run9, run10, run11, run12, run13, run14, run15, run16, run17, run18, run19, run20, run21, run22, reduceCtorEq, Nat.reduceEqDiff, Nat.reduceAdd, Nat.reduceSub, Nat.reduceLeDiff, indexAddrA, indexRefA, appendA, strA, Nat.reduceMul, Nat.zero_mul, Nat.reduceMod, Int.reduceEq, Int.reduceLT, Int.reduceLE, Nat.reduceLT, Nat.lt_irrefl, Nat.reduceBEq, tys0, tys1, tys2, tys3, tys4, tys5, tys6, tys7, tys8, tys9, tys10, tys11, tys12, tys13, tys14, tys15, tys16, tys17, tys18, Try.ntmps65, Try.results65, hk, hq2, hw, hw3]
      exact ⟨(k, q * b), ⟨g1, by simp only; omega, by simp only; omega, by simp only; omega⟩, by simp, by repeat constructor⟩
    · have hq : q = partL b E c := by rw [← g1, partL_le (by omega) k q hq2]
      subst hq
      have hw2 : IntKind.i64.wrap (s + partL b E c) = s + partL b E c := w64_id (by omega) (by omega)
      have hx := partL_spec (b := b) (by omega) E c hc.1
      by_cases hg : 1000000 < s + partL b E c
      · have hg2 : 1000000 < s + c * b ^ E := by
          by_cases hl : c * b ^ E ≤ 1000000
          · rw [hx.1 hl] at hg; exact hg
          · omega
        rw [if_pos hg2] at h4
        simp only [run0, run1, run2, run3, run4, run5, run6, run7, run8, run9, run10, run11, run12, run13, run14, run15, run16, run17, run18, run19, run20, run21, run22, reduceCtorEq, Nat.reduceEqDiff, Nat.reduceAdd, Nat.reduceSub, Nat.reduceLeDiff, indexAddrA, indexRefA, appendA, strA, Nat.reduceMul, Nat.zero_mul, Nat.reduceMod, Int.reduceEq, Int.reduceLT, Int.reduceLE, Nat.reduceLT, Nat.lt_irrefl, Nat.reduceBEq, tys0, tys1, tys2, tys3, tys4, tys5, tys6, tys7, tys8, tys9, tys10, tys11, tys12, tys13, tys14, tys15, tys16, tys17, tys18, Try.ntmps65, Try.results65, hk, hq2, hw2, hg]
        exact Fin.eq (by rw [← h4]) rfl
      · have hl : c * b ^ E ≤ 1000000 := by
          refine Decidable.byContradiction fun hl => ?_
          have := hx.2 (by omega); omega
        exact absurd (by rw [hx.1 hl]; exact hl) hq2
termination_by a.sz

theorem dePower_ok (b : Int) (E : Nat) (hb : 2 ≤ b) (hb2 : b ≤ 1000) (hE : (E : Int) ≤ 1000000) : Ct Try.prog 97 [.int .i64 b, .int .i64 E] [] (.int .i64 (partL b E 1)) [] := by
  refine Ct.by_ hmix [] Try.func97 rfl ?_
  simp only [run0, run1, run2, run3, run4, run5, run6, run7, run8, run9, run10, run11, run12, run13, run14, run15, run16, run17, run18, run19, run20, run21, run22, reduceCtorEq, Nat.reduceEqDiff, Nat.reduceAdd, Nat.reduceSub, Nat.reduceLeDiff, indexAddrA, indexRefA, appendA, strA, Nat.reduceMul, Nat.zero_mul, Nat.reduceMod, Int.reduceEq, Int.reduceLT, Int.reduceLE, Nat.reduceLT, Nat.lt_irrefl, Nat.reduceBEq, tys0, tys1, tys2, tys3, tys4, tys5, tys6, tys7, tys8, tys9, tys10, tys11, tys12, tys13, tys14, tys15, tys16, tys17, tys18, Try.ntmps97, Try.results97]
  refine AWp.loop_inv (ι := Nat × Int) (fun p => ⟨[.int .i64 b, .int .i64 p.1, .junk, .junk, .int .i64 0, .int .i64 p.2, .junk, .junk, .junk, .junk, .junk, .junk, .junk, .junk, .junk, .junk, .junk, .junk], []⟩)
    (fun p => partL b p.1 p.2 = partL b E 1 ∧ 1 ≤ p.2 ∧ p.2 ≤ 1000000000 ∧ (p.1 : Int) ≤ 1000000) (fun p => p.1) (E, 1) ⟨rfl, by simp only; omega, by simp only; omega, hE⟩ ⟨by repeat constructor, rfl⟩ ?_
  rintro ⟨k, q⟩ ⟨g1, g2, g3, g4⟩
  refine W.sound hmix (E := []) ?_
  simp only at g1 g2 g3 g4
  by_cases hk0 : k = 0
  · subst hk0
    have hk : ¬ ((0 : Int) < ((0 : Nat) : Int)) := by omega
    simp only [run0, run1, run2, run3, run4, run5, run6, run7, run8, run9, run10, run11, run12, run13, run14, run15, run16, run17, run18, run19, run20, run21, run22, reduceCtorEq, Nat.reduceEqDiff, Nat.reduceAdd, Nat.reduceSub, Nat.reduceLeDiff, indexAddrA, indexRefA, appendA, strA, Nat.reduceMul, Nat.zero_mul, Nat.reduceMod, Int.reduceEq, Int.reduceLT, Int.reduceLE, Nat.reduceLT, Nat.lt_irrefl, Nat.reduceBEq, tys0, tys1, tys2, tys3, tys4, tys5, tys6, tys7, tys8, tys9, tys10, tys11, tys12, tys13, tys14, tys15, tys16, tys17, tys18, Try.ntmps97, Try.results97, hk]
    exact Fin.eq (by rw [← g1]; rfl) rfl
  have hk : (0 : Int) < (k : Int) := by omega
  by_cases hq2 : q ≤ 1000000
  · obtain ⟨k, rfl⟩ : ∃ j, k = j + 1 := ⟨k - 1, by omega⟩
    have l1 : 1 * 1 ≤ q * b := Int.mul_le_mul g2 (by omega) (by omega) (by omega)
    have l2 : q * b ≤ 1000000 * 1000 := Int.mul_le_mul hq2 hb2 (by omega) (by omega)
    have hw : IntKind.i64.wrap (q * b) = q * b := w64_id (by omega) (by omega)
    have hw3 : IntKind.i64.wrap (((k + 1 : Nat) : Int) - 1) = (k : Int) := by rw [w64_id (by omega) (by omega)]; omega
    rw [partL, if_pos hq2] at g1
    simp only [run0, run1, run2, run3, run4, run5, run6, run7, run8, run9, run10, run11, run12, run13, run14, run15, run16, run17, run18, run19, run20, run21, run22, reduceCtorEq, Nat.reduceEqDiff, Nat.reduceAdd, Nat.reduceSub, Nat.reduceLeDiff, indexAddrA, indexRefA, appendA, strA, Nat.reduceMul, Nat.zero_mul, Nat.reduceMod, Int.reduceEq, Int.reduceLT, Int.reduceLE, Nat.reduceLT, Nat.lt_irrefl, Nat.reduceBEq, tys0, tys1, tys2, tys3, tys4, tys5, tys6, tys7, tys8, tys9, tys10, tys11, tys12, tys13, tys14, tys15, tys16, tys17, tys18, Try.ntmps97, Try.results97, hk, hq2, hw, hw3]
    exact ⟨(k, q * b), ⟨g1, by simp only; omega, by simp only; omega, by simp only; omega⟩, by simp, by repeat constructor⟩
  · simp only [run0, run1, run2, run3, run4, run5, run6, run7, run8, run9, run10, run11, run12, run13, run14, run15, run16, run17, run18, run19, run20, run21, run22, reduceCtorEq, Nat.reduceEqDiff, Nat.reduceAdd, Nat.reduceSub, Nat.reduceLeDiff, indexAddrA, indexRefA, appendA, strA, Nat.reduceMul, Nat.zero_mul, Nat.reduceMod, Int.reduceEq, Int.reduceLT, Int.reduceLE, Nat.reduceLT, Nat.lt_irrefl, Nat.reduceBEq, tys0, tys1, tys2, tys3, tys4, tys5, tys6, tys7, tys8, tys9, tys10, tys11, tys12, tys13, tys14, tys15, tys16, tys17, tys18, Try.ntmps97, Try.results97, hk, hq2]
    exact Fin.eq (by rw [← g1, partL_le (by omega) k q hq2]) rfl

theorem deValue_ok (a : Od) (b : Int) (hs : a.sz ≤ 1048576) (hb : 2 ≤ b) (hb2 : b ≤ 1000) (ra : rng a) : Ct Try.prog 61 [av a, .int .i64 b] [] (.int .i64 (valT b a)) [] := by
  refine Ct.by_ hmix [] Try.func61 rfl ?_
  simp only [run0, run1, run2, run3, run4, run5, run6, run7, run8, run9, run10, run11, run12, run13, run14, run15, run16, run17, run18, run19, run20, run21, run22, reduceCtorEq, Nat.reduceEqDiff, Nat.reduceAdd, Nat.reduceSub, Nat.reduceLeDiff, indexAddrA, indexRefA, appendA, strA, Nat.reduceMul, Nat.zero_mul, Nat.reduceMod, Int.reduceEq, Int.reduceLT, Int.reduceLE, Nat.reduceLT, Nat.lt_irrefl, Nat.reduceBEq, tys0, tys1, tys2, tys3, tys4, tys5, tys6, tys7, tys8, tys9, tys10, tys11, tys12, tys13, tys14, tys15, tys16, tys17, tys18, Try.ntmps61, Try.results61, av, elems_length]
  refine AWp.loop_inv (ι := Od × Od × Int × List AObj) (fun p => ⟨[.agg [.sl false (elems a)], .int .i64 b, .ptr 0 0, .junk, .junk, .int .i64 p.2.2.1, .junk, .junk, .junk, .junk, .sl false (elems a), .int .i64 a.len, .int .i64 p.1.len, .junk, .junk, .junk, .junk, .junk, .junk, .junk, .junk, .junk, .junk, .junk, .junk, .junk, .junk, .junk, .junk, .junk, .junk, .junk, .junk, .junk, .junk], .box 24 [.sl false (elems a)] :: p.2.2.2⟩)
    (fun p => a = p.1.app p.2.1 ∧ 0 ≤ p.2.2.1 ∧ p.2.2.1 ≤ 1000000 ∧ valS b p.2.1 p.2.2.1 = valT b a) (fun p => p.2.1.len) (.nil, a, 0, []) ⟨rfl, by simp only; omega, by simp only; omega, rfl⟩ ⟨by simp only [len, Int.natCast_zero]; repeat constructor, rfl⟩ ?_
  rintro ⟨d, r, s, X⟩ ⟨ha, h2, h3, h4⟩
  refine W.sound hmix (E := []) ?_
  simp only at ha h2 h3 h4
  cases r with
  | nil =>
    obtain ⟨e1, rfl⟩ := od_end ha
    simp only [run0, run1, run2, run3, run4, run5, run6, run7, run8, run9, run10, run11, run12, run13, run14, run15, run16, run17, run18, run19, run20, run21, run22, reduceCtorEq, Nat.reduceEqDiff, Nat.reduceAdd, Nat.reduceSub, Nat.reduceLeDiff, indexAddrA, indexRefA, appendA, strA, Nat.reduceMul, Nat.zero_mul, Nat.reduceMod, Int.reduceEq, Int.reduceLT, Int.reduceLE, Nat.reduceLT, Nat.lt_irrefl, Nat.reduceBEq, tys0, tys1, tys2, tys3, tys4, tys5, tys6, tys7, tys8, tys9, tys10, tys11, tys12, tys13, tys14, tys15, tys16, tys17, tys18, Try.ntmps61, Try.results61, elems_length, e1]
    exact Fin.eq (by rw [← h4]; rfl) rfl
  | cons e c r =>
    obtain ⟨e1, e2, e5, hlt, hn, _⟩ := od_step ha hs
    rw [ha] at ra
    have ra := rng_app ra
    have hc : 1 ≤ c ∧ c ≤ 1000000 := ⟨ra.1, ra.2.1⟩
    have hv := valS_range (b := b) hb (a := e) (s := 0) ra.2.2.1 (by omega) (by omega)
    obtain ⟨E, hE⟩ : ∃ E : Nat, valT b e = (E : Int) := ⟨(valT b e).toNat, by have : 0 ≤ valT b e := hv.1; omega⟩
    have hcv := deValue_ok e b (by omega) hb hb2 ra.2.2.1
    have hv2 : (E : Int) ≤ 1000001 := by rw [← hE]; exact hv.2
    rw [hE] at hcv
    rw [valS_cons, hE, Int.toNat_natCast] at h4
    simp only [run0, run1, run2, run3, run4, run5, run6, run7, run8, run9, run10, run11, run12, run13, run14, run15, run16, run17, run18, run19, run20, run21, run22, reduceCtorEq, Nat.reduceEqDiff, Nat.reduceAdd, Nat.reduceSub, Nat.reduceLeDiff, indexAddrA, indexRefA, appendA, strA, Nat.reduceMul, Nat.zero_mul, Nat.reduceMod, Int.reduceEq, Int.reduceLT, Int.reduceLE, Nat.reduceLT, Nat.lt_irrefl, Nat.reduceBEq, tys0, tys1, tys2, tys3, tys4, tys5, tys6, tys7, tys8, tys9, tys10, tys11, tys12, tys13, tys14, tys15, tys16, tys17, tys18, Try.ntmps61, Try.results61, elems_length, e1, e2, Int.toNat_natCast, Int.natCast_nonneg]
    refine RunL.callp rfl rfl ok_f61 (hcv) (by first | rfl | simp only [pureL, pureB, Bool.and_self, Bool.and_true, Bool.true_and, Od.elems_pure, Od.pay_pure, Od.av_pure]) rfl ?_
    by_cases hbig : (1000000 : Int) < (E : Int)
    · have hp := lt_pow hb E
      have h1 : 1 * b ^ E ≤ c * b ^ E := Int.mul_le_mul_of_nonneg_right hc.1 (by omega)
      rw [if_pos (by omega)] at h4
      simp only [run0, run1, run2, run3, run4, run5, run6, run7, run8, run9, run10, run11, run12, run13, run14, run15, run16, run17, run18, run19, run20, run21, run22, reduceCtorEq, Nat.reduceEqDiff, Nat.reduceAdd, Nat.reduceSub, Nat.reduceLeDiff, indexAddrA, indexRefA, appendA, strA, Nat.reduceMul, Nat.zero_mul, Nat.reduceMod, Int.reduceEq, Int.reduceLT, Int.reduceLE, Nat.reduceLT, Nat.lt_irrefl, Nat.reduceBEq, tys0, tys1, tys2, tys3, tys4, tys5, tys6, tys7, tys8, tys9, tys10, tys11, tys12, tys13, tys14, tys15, tys16, tys17, tys18, Try.ntmps61, Try.results61, hbig]
      exact Fin.eq (by rw [← h4]; congr 1; omega) rfl
    have hpb := partL_bound (b := b) (by omega) hb2 E 1 (by omega) (by omega)
    have hx := part_ref (b := b) hb hc.1 E
    have l1 : 1 * 1 ≤ c * partL b E 1 := Int.mul_le_mul hc.1 hpb.1 (by omega) (by omega)
    have l2 : c * partL b E 1 ≤ 1000000 * 1000000000 := Int.mul_le_mul hc.2 hpb.2 (by omega) (by omega)
    have hw : IntKind.i64.wrap (c * partL b E 1) = c * partL b E 1 := w64_id (by omega) (by omega)
    have hw2 : IntKind.i64.wrap (s + c * partL b E 1) = s + c * partL b E 1 := w64_id (by omega) (by omega)
    simp only [run0, run1, run2, run3, run4, run5, run6, run7, run8, run9, run10, run11, run12, run13, run14, run15, run16, run17, run18, run19, run20, run21, run22, reduceCtorEq, Nat.reduceEqDiff, Nat.reduceAdd, Nat.reduceSub, Nat.reduceLeDiff, indexAddrA, indexRefA, appendA, strA, Nat.reduceMul, Nat.zero_mul, Nat.reduceMod, Int.reduceEq, Int.reduceLT, Int.reduceLE, Nat.reduceLT, Nat.lt_irrefl, Nat.reduceBEq, tys0, tys1, tys2, tys3, tys4, tys5, tys6, tys7, tys8, tys9, tys10, tys11, tys12, tys13, tys14, tys15, tys16, tys17, tys18, Try.ntmps61, Try.results61, hbig]
    refine ⟨by kernel_rfl, ?_⟩
    refine RunL.callp rfl rfl ok_f97 (dePower_ok b E hb hb2 (by omega)) (by first | rfl | simp only [pureL, pureB, Bool.and_self, Bool.and_true, Bool.true_and, Od.elems_pure, Od.pay_pure, Od.av_pure]) rfl ?_
    simp only [run0, run1, run2, run3, run4, run5, run6, run7, run8, run9, run10, run11, run12, run13, run14, run15, run16, run17, run18, run19, run20, run21, run22, reduceCtorEq, Nat.reduceEqDiff, Nat.reduceAdd, Nat.reduceSub, Nat.reduceLeDiff, indexAddrA, indexRefA, appendA, strA, Nat.reduceMul, Nat.zero_mul, Nat.reduceMod, Int.reduceEq, Int.reduceLT, Int.reduceLE, Nat.reduceLT, Nat.lt_irrefl, Nat.reduceBEq, tys0, tys1, tys2, tys3, tys4, tys5, tys6, tys7, tys8, tys9, tys10, tys11, tys12, tys13, tys14, tys15, tys16, tys17, tys18, Try.ntmps61, Try.results61, hw, hw2]
    by_cases hg : 1000000 < s + c * partL b E 1
    · have hg2 : 1000000 < s + c * b ^ E := by
        by_cases hl : c * b ^ E ≤ 1000000
        · rw [hx.1 hl] at hg; exact hg
        · omega
      rw [if_pos hg2] at h4
      simp only [run0, run1, run2, run3, run4, run5, run6, run7, run8, run9, run10, run11, run12, run13, run14, run15, run16, run17, run18, run19, run20, run21, run22, reduceCtorEq, Nat.reduceEqDiff, Nat.reduceAdd, Nat.reduceSub, Nat.reduceLeDiff, indexAddrA, indexRefA, appendA, strA, Nat.reduceMul, Nat.zero_mul, Nat.reduceMod, Int.reduceEq, Int.reduceLT, Int.reduceLE, Nat.reduceLT, Nat.lt_irrefl, Nat.reduceBEq, tys0, tys1, tys2, tys3, tys4, tys5, tys6, tys7, tys8, tys9, tys10, tys11, tys12, tys13, tys14, tys15, tys16, tys17, tys18, Try.ntmps61, Try.results61, hg]
      exact Fin.eq (by rw [← h4]) rfl
    · have hl : c * b ^ E ≤ 1000000 := by
        refine Decidable.byContradiction fun hl => ?_
        have := hx.2 (by omega); omega
      rw [hx.1 hl] at hg l1 ⊢
      rw [if_neg hg] at h4
      simp only [run0, run1, run2, run3, run4, run5, run6, run7, run8, run9, run10, run11, run12, run13, run14, run15, run16, run17, run18, run19, run20, run21, run22, reduceCtorEq, Nat.reduceEqDiff, Nat.reduceAdd, Nat.reduceSub, Nat.reduceLeDiff, indexAddrA, indexRefA, appendA, strA, Nat.reduceMul, Nat.zero_mul, Nat.reduceMod, Int.reduceEq, Int.reduceLT, Int.reduceLE, Nat.reduceLT, Nat.lt_irrefl, Nat.reduceBEq, tys0, tys1, tys2, tys3, tys4, tys5, tys6, tys7, tys8, tys9, tys10, tys11, tys12, tys13, tys14, tys15, tys16, tys17, tys18, Try.ntmps61, Try.results61, hg, e5]
      exact ⟨(d.app (cons e c nil), r, s + c * b ^ E, _), ⟨hn.symm, by simp only; omega, by simp only; omega, h4⟩, by simp [len], by repeat constructor, rfl⟩
termination_by a.sz

theorem deDigits_ok (a : Od) (b : Int) (hs : a.sz ≤ 1048576) : Ct Try.prog 60 [av a, .int .i64 b] [] (.bool (digT b a)) [] := by
  refine Ct.by_ hmix [] Try.func60 rfl ?_
  simp only [run0, run1, run2, run3, run4, run5, run6, run7, run8, run9, run10, run11, run12, run13, run14, run15, run16, run17, run18, run19, run20, run21, run22, reduceCtorEq, Nat.reduceEqDiff, Nat.reduceAdd, Nat.reduceSub, Nat.reduceLeDiff, indexAddrA, indexRefA, appendA, strA, Nat.reduceMul, Nat.zero_mul, Nat.reduceMod, Int.reduceEq, Int.reduceLT, Int.reduceLE, Nat.reduceLT, Nat.lt_irrefl, Nat.reduceBEq, tys0, tys1, tys2, tys3, tys4, tys5, tys6, tys7, tys8, tys9, tys10, tys11, tys12, tys13, tys14, tys15, tys16, tys17, tys18, Try.ntmps60, Try.results60, av, elems_length]
  refine AWp.loop_inv (ι := Od × Od × List AObj) (fun p => ⟨[.agg [.sl false (elems a)], .int .i64 b, .ptr 0 0, .junk, .bool false, .junk, .junk, .junk, .sl false (elems a), .int .i64 a.len, .int .i64 p.1.len, .junk, .junk, .junk, .junk, .junk, .junk, .junk, .junk, .junk, .junk, .junk, .junk, .junk, .junk, .junk], .box 24 [.sl false (elems a)] :: p.2.2⟩)
    (fun p => a = p.1.app p.2.1 ∧ digT b p.2.1 = digT b a) (fun p => p.2.1.len) (.nil, a, []) ⟨rfl, rfl⟩ ⟨by simp only [len, Int.natCast_zero]; repeat constructor, rfl⟩ ?_
  rintro ⟨d, r, X⟩ ⟨ha, h4⟩
  refine W.sound hmix (E := []) ?_
  simp only at ha h4
  cases r with
  | nil =>
    obtain ⟨e1, rfl⟩ := od_end ha
    simp only [run0, run1, run2, run3, run4, run5, run6, run7, run8, run9, run10, run11, run12, run13, run14, run15, run16, run17, run18, run19, run20, run21, run22, reduceCtorEq, Nat.reduceEqDiff, Nat.reduceAdd, Nat.reduceSub, Nat.reduceLeDiff, indexAddrA, indexRefA, appendA, strA, Nat.reduceMul, Nat.zero_mul, Nat.reduceMod, Int.reduceEq, Int.reduceLT, Int.reduceLE, Nat.reduceLT, Nat.lt_irrefl, Nat.reduceBEq, tys0, tys1, tys2, tys3, tys4, tys5, tys6, tys7, tys8, tys9, tys10, tys11, tys12, tys13, tys14, tys15, tys16, tys17, tys18, Try.ntmps60, Try.results60, elems_length, e1]
    exact Fin.eq (by rw [← h4]; rfl) rfl
  | cons e c r =>
    obtain ⟨e1, e2, e5, hlt, hn, _⟩ := od_step ha hs
    simp only [digT] at h4
    simp only [run0, run1, run2, run3, run4, run5, run6, run7, run8, run9, run10, run11, run12, run13, run14, run15, run16, run17, run18, run19, run20, run21, run22, reduceCtorEq, Nat.reduceEqDiff, Nat.reduceAdd, Nat.reduceSub, Nat.reduceLeDiff, indexAddrA, indexRefA, appendA, strA, Nat.reduceMul, Nat.zero_mul, Nat.reduceMod, Int.reduceEq, Int.reduceLT, Int.reduceLE, Nat.reduceLT, Nat.lt_irrefl, Nat.reduceBEq, tys0, tys1, tys2, tys3, tys4, tys5, tys6, tys7, tys8, tys9, tys10, tys11, tys12, tys13, tys14, tys15, tys16, tys17, tys18, Try.ntmps60, Try.results60, elems_length, e1, e2, Int.toNat_natCast, Int.natCast_nonneg]
    by_cases hc : b ≤ c
    · simp only [run0, run1, run2, run3, run4, run5, run6, run7, run8, run9, run10, run11, run12, run13, run14, run15, run16, run17, run18, run19, run20, run21, run22, reduceCtorEq, Nat.reduceEqDiff, Nat.reduceAdd, Nat.reduceSub, Nat.reduceLeDiff, indexAddrA, indexRefA, appendA, strA, Nat.reduceMul, Nat.zero_mul, Nat.reduceMod, Int.reduceEq, Int.reduceLT, Int.reduceLE, Nat.reduceLT, Nat.lt_irrefl, Nat.reduceBEq, tys0, tys1, tys2, tys3, tys4, tys5, tys6, tys7, tys8, tys9, tys10, tys11, tys12, tys13, tys14, tys15, tys16, tys17, tys18, Try.ntmps60, Try.results60, hc]
      exact Fin.eq (by rw [← h4]; simp [hc]) rfl
    · simp only [run0, run1, run2, run3, run4, run5, run6, run7, run8, run9, run10, run11, run12, run13, run14, run15, run16, run17, run18, run19, run20, run21, run22, reduceCtorEq, Nat.reduceEqDiff, Nat.reduceAdd, Nat.reduceSub, Nat.reduceLeDiff, indexAddrA, indexRefA, appendA, strA, Nat.reduceMul, Nat.zero_mul, Nat.reduceMod, Int.reduceEq, Int.reduceLT, Int.reduceLE, Nat.reduceLT, Nat.lt_irrefl, Nat.reduceBEq, tys0, tys1, tys2, tys3, tys4, tys5, tys6, tys7, tys8, tys9, tys10, tys11, tys12, tys13, tys14, tys15, tys16, tys17, tys18, Try.ntmps60, Try.results60, hc]
      refine RunL.callp rfl rfl ok_f60 (deDigits_ok e b (by omega)) (by first | rfl | simp only [pureL, pureB, Bool.and_self, Bool.and_true, Bool.true_and, Od.elems_pure, Od.pay_pure, Od.av_pure]) rfl ?_
      cases hd : digT b e
      · simp only [run0, run1, run2, run3, run4, run5, run6, run7, run8, run9, run10, run11, run12, run13, run14, run15, run16, run17, run18, run19, run20, run21, run22, reduceCtorEq, Nat.reduceEqDiff, Nat.reduceAdd, Nat.reduceSub, Nat.reduceLeDiff, indexAddrA, indexRefA, appendA, strA, Nat.reduceMul, Nat.zero_mul, Nat.reduceMod, Int.reduceEq, Int.reduceLT, Int.reduceLE, Nat.reduceLT, Nat.lt_irrefl, Nat.reduceBEq, tys0, tys1, tys2, tys3, tys4, tys5, tys6, tys7, tys8, tys9, tys10, tys11, tys12, tys13, tys14, tys15, tys16, tys17, tys18, Try.ntmps60, Try.results60, hd]
        exact Fin.eq (by rw [← h4, hd]; simp) rfl
      · rw [hd] at h4
        simp only [run0, run1, run2, run3, run4, run5, run6, run7, run8, run9, run10, run11, run12, run13, run14, run15, run16, run17, run18, run19, run20, run21, run22, reduceCtorEq, Nat.reduceEqDiff, Nat.reduceAdd, Nat.reduceSub, Nat.reduceLeDiff, indexAddrA, indexRefA, appendA, strA, Nat.reduceMul, Nat.zero_mul, Nat.reduceMod, Int.reduceEq, Int.reduceLT, Int.reduceLE, Nat.reduceLT, Nat.lt_irrefl, Nat.reduceBEq, tys0, tys1, tys2, tys3, tys4, tys5, tys6, tys7, tys8, tys9, tys10, tys11, tys12, tys13, tys14, tys15, tys16, tys17, tys18, Try.ntmps60, Try.results60, hd, e5]
        exact ⟨(d.app (cons e c nil), r, _), ⟨hn.symm, by simpa [hc] using h4⟩, by simp [len], by repeat constructor, rfl⟩
termination_by a.sz

/-- The first term that is not right. -/
def firstT (b : Int) : Od → Int → Int
  | .nil, _ => -1
  | .cons e c r, i => if decide (b ≤ c) || !digT b e then i else firstT b r (i + 1)
theorem firstT_cons (b : Int) (e r : Od) (c i : Int) : firstT b (.cons e c r) i = if decide (b ≤ c) || !digT b e then i else firstT b r (i + 1) := rfl
theorem firstT_dig (b : Int) : ∀ (a : Od) (i : Int), 0 ≤ i → decide (0 ≤ firstT b a i) = !digT b a
  | .nil, i, _ => rfl
  | .cons e c r, i, h => by
    have ih := firstT_dig b r (i + 1) (by omega)
    rw [firstT_cons]
    simp only [digT]
    cases h1 : decide (b ≤ c) <;> cases h2 : digT b e
    · simpa using h
    · simpa using ih
    · simpa using h
    · simpa using h
theorem closD_of {e : Od} {c b : Int} (h : Ct Try.prog 64 [av e, .int .i64 b] [] (.bool (digT b e)) []) :
    Ct Try.prog 101 [.agg [.sl false (elems e), .int .i64 c], .rptr (.agg [.int .i64 b]) 0] [] (.bool (decide (b ≤ c) || !digT b e)) [] := by
  refine Ct.by_ hmix [] Try.func101 rfl ?_
  simp only [run0, run1, run2, run3, run4, run5, run6, run7, run8, run9, run10, run11, run12, run13, run14, run15, run16, run17, run18, run19, run20, run21, run22, reduceCtorEq, Nat.reduceEqDiff, Nat.reduceAdd, Nat.reduceSub, Nat.reduceLeDiff, indexAddrA, indexRefA, appendA, strA, Nat.reduceMul, Nat.zero_mul, Nat.reduceMod, Int.reduceEq, Int.reduceLT, Int.reduceLE, Nat.reduceLT, Nat.lt_irrefl, Nat.reduceBEq, tys0, tys1, tys2, tys3, tys4, tys5, tys6, tys7, tys8, tys9, tys10, tys11, tys12, tys13, tys14, tys15, tys16, tys17, tys18, Try.ntmps101, Try.results101]
  by_cases hc : b ≤ c
  · simp only [run0, run1, run2, run3, run4, run5, run6, run7, run8, run9, run10, run11, run12, run13, run14, run15, run16, run17, run18, run19, run20, run21, run22, reduceCtorEq, Nat.reduceEqDiff, Nat.reduceAdd, Nat.reduceSub, Nat.reduceLeDiff, indexAddrA, indexRefA, appendA, strA, Nat.reduceMul, Nat.zero_mul, Nat.reduceMod, Int.reduceEq, Int.reduceLT, Int.reduceLE, Nat.reduceLT, Nat.lt_irrefl, Nat.reduceBEq, tys0, tys1, tys2, tys3, tys4, tys5, tys6, tys7, tys8, tys9, tys10, tys11, tys12, tys13, tys14, tys15, tys16, tys17, tys18, Try.ntmps101, Try.results101, hc]
    exact Fin.eq (by simp [hc]) rfl
  · simp only [run0, run1, run2, run3, run4, run5, run6, run7, run8, run9, run10, run11, run12, run13, run14, run15, run16, run17, run18, run19, run20, run21, run22, reduceCtorEq, Nat.reduceEqDiff, Nat.reduceAdd, Nat.reduceSub, Nat.reduceLeDiff, indexAddrA, indexRefA, appendA, strA, Nat.reduceMul, Nat.zero_mul, Nat.reduceMod, Int.reduceEq, Int.reduceLT, Int.reduceLE, Nat.reduceLT, Nat.lt_irrefl, Nat.reduceBEq, tys0, tys1, tys2, tys3, tys4, tys5, tys6, tys7, tys8, tys9, tys10, tys11, tys12, tys13, tys14, tys15, tys16, tys17, tys18, Try.ntmps101, Try.results101, hc]
    refine RunL.callp rfl rfl ok_f64 (h) (by first | rfl | simp only [pureL, pureB, Bool.and_self, Bool.and_true, Bool.true_and, Od.elems_pure, Od.pay_pure, Od.av_pure]) rfl ?_
    simp only [run0, run1, run2, run3, run4, run5, run6, run7, run8, run9, run10, run11, run12, run13, run14, run15, run16, run17, run18, run19, run20, run21, run22, reduceCtorEq, Nat.reduceEqDiff, Nat.reduceAdd, Nat.reduceSub, Nat.reduceLeDiff, indexAddrA, indexRefA, appendA, strA, Nat.reduceMul, Nat.zero_mul, Nat.reduceMod, Int.reduceEq, Int.reduceLT, Int.reduceLE, Nat.reduceLT, Nat.lt_irrefl, Nat.reduceBEq, tys0, tys1, tys2, tys3, tys4, tys5, tys6, tys7, tys8, tys9, tys10, tys11, tys12, tys13, tys14, tys15, tys16, tys17, tys18, Try.ntmps101, Try.results101]
    exact Fin.eq (by simp [hc]) rfl
theorem indexD_of {a : Od} {b : Int} (hs : a.sz ≤ 1048576) (h : ∀ e : Od, e.sz < a.sz → Ct Try.prog 64 [av e, .int .i64 b] [] (.bool (digT b e)) []) :
    Ct Try.prog 120 [.sl false (elems a), .fn 101 [.rptr (.agg [.int .i64 b]) 0]] [] (.int .i64 (firstT b a 0)) [] := by
  refine Ct.by_ hmix [] Try.func120 rfl ?_
  simp only [run0, run1, run2, run3, run4, run5, run6, run7, run8, run9, run10, run11, run12, run13, run14, run15, run16, run17, run18, run19, run20, run21, run22, reduceCtorEq, Nat.reduceEqDiff, Nat.reduceAdd, Nat.reduceSub, Nat.reduceLeDiff, indexAddrA, indexRefA, appendA, strA, Nat.reduceMul, Nat.zero_mul, Nat.reduceMod, Int.reduceEq, Int.reduceLT, Int.reduceLE, Nat.reduceLT, Nat.lt_irrefl, Nat.reduceBEq, tys0, tys1, tys2, tys3, tys4, tys5, tys6, tys7, tys8, tys9, tys10, tys11, tys12, tys13, tys14, tys15, tys16, tys17, tys18, Try.ntmps120, Try.results120, elems_length]
  refine AWp.loop_inv (ι := Od × Od) (fun p => ⟨[.sl false (elems a), .fn 101 [.rptr (.agg [.int .i64 b]) 0], .junk, .junk, .int .i64 0, .junk, .junk, .int .i64 a.len, .int .i64 p.1.len, .junk, .junk, .junk, .junk, .junk, .junk, .junk, .junk, .junk, .junk], []⟩)
    (fun p => a = p.1.app p.2 ∧ firstT b p.2 p.1.len = firstT b a 0) (fun p => p.2.len) (.nil, a) ⟨rfl, rfl⟩ ⟨by simp only [len, Int.natCast_zero]; repeat constructor, rfl⟩ ?_
  rintro ⟨d, r⟩ ⟨ha, h4⟩
  refine W.sound hmix (E := []) ?_
  simp only at ha h4
  cases r with
  | nil =>
    obtain ⟨e1, rfl⟩ := od_end ha
    simp only [run0, run1, run2, run3, run4, run5, run6, run7, run8, run9, run10, run11, run12, run13, run14, run15, run16, run17, run18, run19, run20, run21, run22, reduceCtorEq, Nat.reduceEqDiff, Nat.reduceAdd, Nat.reduceSub, Nat.reduceLeDiff, indexAddrA, indexRefA, appendA, strA, Nat.reduceMul, Nat.zero_mul, Nat.reduceMod, Int.reduceEq, Int.reduceLT, Int.reduceLE, Nat.reduceLT, Nat.lt_irrefl, Nat.reduceBEq, tys0, tys1, tys2, tys3, tys4, tys5, tys6, tys7, tys8, tys9, tys10, tys11, tys12, tys13, tys14, tys15, tys16, tys17, tys18, Try.ntmps120, Try.results120, elems_length, e1]
    exact Fin.eq (by rw [← h4]; rfl) rfl
  | cons e c r =>
    obtain ⟨e1, e2, e5, hlt, hn, _⟩ := od_step ha hs
    have hd1 : ((d.app (cons e c nil)).len : Int) = (d.len : Int) + 1 := by rw [len_app]; simp [len]
    simp only [run0, run1, run2, run3, run4, run5, run6, run7, run8, run9, run10, run11, run12, run13, run14, run15, run16, run17, run18, run19, run20, run21, run22, reduceCtorEq, Nat.reduceEqDiff, Nat.reduceAdd, Nat.reduceSub, Nat.reduceLeDiff, indexAddrA, indexRefA, appendA, strA, Nat.reduceMul, Nat.zero_mul, Nat.reduceMod, Int.reduceEq, Int.reduceLT, Int.reduceLE, Nat.reduceLT, Nat.lt_irrefl, Nat.reduceBEq, tys0, tys1, tys2, tys3, tys4, tys5, tys6, tys7, tys8, tys9, tys10, tys11, tys12, tys13, tys14, tys15, tys16, tys17, tys18, Try.ntmps120, Try.results120, elems_length, e1, e2, Int.toNat_natCast, Int.natCast_nonneg]
    refine RunL.callcp rfl rfl rfl ok_f101 rfl (closD_of (c := c) (h e hlt)) (by first | rfl | simp only [pureL, pureB, Bool.and_self, Bool.and_true, Bool.true_and, Od.elems_pure, Od.pay_pure, Od.av_pure]) rfl ?_
    simp only [run0, run1, run2, run3, run4, run5, run6, run7, run8, run9, run10, run11, run12, run13, run14, run15, run16, run17, run18, run19, run20, run21, run22, reduceCtorEq, Nat.reduceEqDiff, Nat.reduceAdd, Nat.reduceSub, Nat.reduceLeDiff, indexAddrA, indexRefA, appendA, strA, Nat.reduceMul, Nat.zero_mul, Nat.reduceMod, Int.reduceEq, Int.reduceLT, Int.reduceLE, Nat.reduceLT, Nat.lt_irrefl, Nat.reduceBEq, tys0, tys1, tys2, tys3, tys4, tys5, tys6, tys7, tys8, tys9, tys10, tys11, tys12, tys13, tys14, tys15, tys16, tys17, tys18, Try.ntmps120, Try.results120]
    rw [firstT_cons] at h4
    cases hd : (decide (b ≤ c) || !digT b e)
    · rw [hd] at h4
      simp only [run0, run1, run2, run3, run4, run5, run6, run7, run8, run9, run10, run11, run12, run13, run14, run15, run16, run17, run18, run19, run20, run21, run22, reduceCtorEq, Nat.reduceEqDiff, Nat.reduceAdd, Nat.reduceSub, Nat.reduceLeDiff, indexAddrA, indexRefA, appendA, strA, Nat.reduceMul, Nat.zero_mul, Nat.reduceMod, Int.reduceEq, Int.reduceLT, Int.reduceLE, Nat.reduceLT, Nat.lt_irrefl, Nat.reduceBEq, tys0, tys1, tys2, tys3, tys4, tys5, tys6, tys7, tys8, tys9, tys10, tys11, tys12, tys13, tys14, tys15, tys16, tys17, tys18, Try.ntmps120, Try.results120, hd, e5]
      exact ⟨(d.app (cons e c nil), r), ⟨hn.symm, by simp only [hd1]; simpa using h4⟩, by simp [len], by repeat constructor⟩
    · rw [hd] at h4
      simp only [run0, run1, run2, run3, run4, run5, run6, run7, run8, run9, run10, run11, run12, run13, run14, run15, run16, run17, run18, run19, run20, run21, run22, reduceCtorEq, Nat.reduceEqDiff, Nat.reduceAdd, Nat.reduceSub, Nat.reduceLeDiff, indexAddrA, indexRefA, appendA, strA, Nat.reduceMul, Nat.zero_mul, Nat.reduceMod, Int.reduceEq, Int.reduceLT, Int.reduceLE, Nat.reduceLT, Nat.lt_irrefl, Nat.reduceBEq, tys0, tys1, tys2, tys3, tys4, tys5, tys6, tys7, tys8, tys9, tys10, tys11, tys12, tys13, tys14, tys15, tys16, tys17, tys18, Try.ntmps120, Try.results120, hd]
      exact Fin.eq (by rw [← h4]; simp) rfl
theorem digitsBelow_ok (a : Od) (b : Int) (hs : a.sz ≤ 1048576) : Ct Try.prog 64 [av a, .int .i64 b] [] (.bool (digT b a)) [] := by
  have hc : Ct Try.prog 100 [.sl false (elems a), .fn 101 [.rptr (.agg [.int .i64 b]) 0]] [] (.bool (!digT b a)) [] := by
    refine Ct.by_ hmix [] Try.func100 rfl ?_
    simp only [run0, run1, run2, run3, run4, run5, run6, run7, run8, run9, run10, run11, run12, run13, run14, run15, run16, run17, run18, run19, run20, run21, run22, reduceCtorEq, Nat.reduceEqDiff, Nat.reduceAdd, Nat.reduceSub, Nat.reduceLeDiff, indexAddrA, indexRefA, appendA, strA, Nat.reduceMul, Nat.zero_mul, Nat.reduceMod, Int.reduceEq, Int.reduceLT, Int.reduceLE, Nat.reduceLT, Nat.lt_irrefl, Nat.reduceBEq, tys0, tys1, tys2, tys3, tys4, tys5, tys6, tys7, tys8, tys9, tys10, tys11, tys12, tys13, tys14, tys15, tys16, tys17, tys18, Try.ntmps100, Try.results100]
    refine RunL.callp rfl rfl ok_f120 (indexD_of hs (fun e he => digitsBelow_ok e b (by omega))) (by first | rfl | simp only [pureL, pureB, Bool.and_self, Bool.and_true, Bool.true_and, Od.elems_pure, Od.pay_pure, Od.av_pure]) rfl ?_
    simp only [run0, run1, run2, run3, run4, run5, run6, run7, run8, run9, run10, run11, run12, run13, run14, run15, run16, run17, run18, run19, run20, run21, run22, reduceCtorEq, Nat.reduceEqDiff, Nat.reduceAdd, Nat.reduceSub, Nat.reduceLeDiff, indexAddrA, indexRefA, appendA, strA, Nat.reduceMul, Nat.zero_mul, Nat.reduceMod, Int.reduceEq, Int.reduceLT, Int.reduceLE, Nat.reduceLT, Nat.lt_irrefl, Nat.reduceBEq, tys0, tys1, tys2, tys3, tys4, tys5, tys6, tys7, tys8, tys9, tys10, tys11, tys12, tys13, tys14, tys15, tys16, tys17, tys18, Try.ntmps100, Try.results100]
    exact Fin.eq (by rw [firstT_dig b a 0 (by omega)]) rfl
  refine Ct.by_ hmix [] Try.func64 rfl ?_
  simp only [run0, run1, run2, run3, run4, run5, run6, run7, run8, run9, run10, run11, run12, run13, run14, run15, run16, run17, run18, run19, run20, run21, run22, reduceCtorEq, Nat.reduceEqDiff, Nat.reduceAdd, Nat.reduceSub, Nat.reduceLeDiff, indexAddrA, indexRefA, appendA, strA, Nat.reduceMul, Nat.zero_mul, Nat.reduceMod, Int.reduceEq, Int.reduceLT, Int.reduceLE, Nat.reduceLT, Nat.lt_irrefl, Nat.reduceBEq, tys0, tys1, tys2, tys3, tys4, tys5, tys6, tys7, tys8, tys9, tys10, tys11, tys12, tys13, tys14, tys15, tys16, tys17, tys18, Try.ntmps64, Try.results64, av]
  refine RunL.lendV (ys := [.sl false (elems a), .fn 101 [.rptr (.agg [.int .i64 b]) 0]]) rfl rfl ok_f100 rfl hc (.cons (.pur (.of (by simp only [pureB, elems_pure]))) (.cons (Vw.fn (.cons (Vw.ptr rfl rfl) .nil)) .nil)) rfl rfl ?_
  simp only [run0, run1, run2, run3, run4, run5, run6, run7, run8, run9, run10, run11, run12, run13, run14, run15, run16, run17, run18, run19, run20, run21, run22, reduceCtorEq, Nat.reduceEqDiff, Nat.reduceAdd, Nat.reduceSub, Nat.reduceLeDiff, indexAddrA, indexRefA, appendA, strA, Nat.reduceMul, Nat.zero_mul, Nat.reduceMod, Int.reduceEq, Int.reduceLT, Int.reduceLE, Nat.reduceLT, Nat.lt_irrefl, Nat.reduceBEq, tys0, tys1, tys2, tys3, tys4, tys5, tys6, tys7, tys8, tys9, tys10, tys11, tys12, tys13, tys14, tys15, tys16, tys17, tys18, Try.ntmps64, Try.results64]
  exact Fin.eq (by simp) rfl
termination_by a.sz

/-! ### the law -/
def herOk (b : Int) (a : Od) : Bool := goodT a && inB b 2 1000 && digT b a && !decide (1000000 < valT b a)
theorem inB_spec {n lo hi : Int} (h : inB n lo hi = true) : lo ≤ n ∧ n ≤ hi := by simpa [inB] using h
theorem implHer_ok (a : Od) (b : Int) (hs : a.sz ≤ 1048576) : Ct Try.prog 20 [av a, .int .i64 b] [] (.tup [.int .i64 (if herOk b a then valT b a else 0), .bool (herOk b a)]) [] := by
  have hbo : Ct Try.prog 51 [.int .i64 b] [] (.bool (inB b 2 1000)) [] := by
    refine Ct.by_ hmix [] Try.func51 rfl ?_
    simp only [run0, run1, run2, run3, run4, run5, run6, run7, run8, run9, run10, run11, run12, run13, run14, run15, run16, run17, run18, run19, run20, run21, run22, reduceCtorEq, Nat.reduceEqDiff, Nat.reduceAdd, Nat.reduceSub, Nat.reduceLeDiff, indexAddrA, indexRefA, appendA, strA, Nat.reduceMul, Nat.zero_mul, Nat.reduceMod, Int.reduceEq, Int.reduceLT, Int.reduceLE, Nat.reduceLT, Nat.lt_irrefl, Nat.reduceBEq, tys0, tys1, tys2, tys3, tys4, tys5, tys6, tys7, tys8, tys9, tys10, tys11, tys12, tys13, tys14, tys15, tys16, tys17, tys18, Try.ntmps51, Try.results51]
    refine RunL.callp rfl rfl ok_f50 (in_ok b 2 1000) (by first | rfl | simp only [pureL, pureB, Bool.and_self, Bool.and_true, Bool.true_and, Od.elems_pure, Od.pay_pure, Od.av_pure]) rfl ?_
    simp only [run0, run1, run2, run3, run4, run5, run6, run7, run8, run9, run10, run11, run12, run13, run14, run15, run16, run17, run18, run19, run20, run21, run22, reduceCtorEq, Nat.reduceEqDiff, Nat.reduceAdd, Nat.reduceSub, Nat.reduceLeDiff, indexAddrA, indexRefA, appendA, strA, Nat.reduceMul, Nat.zero_mul, Nat.reduceMod, Int.reduceEq, Int.reduceLT, Int.reduceLE, Nat.reduceLT, Nat.lt_irrefl, Nat.reduceBEq, tys0, tys1, tys2, tys3, tys4, tys5, tys6, tys7, tys8, tys9, tys10, tys11, tys12, tys13, tys14, tys15, tys16, tys17, tys18, Try.ntmps51, Try.results51]
    exact Fin.eq rfl rfl
  refine Ct.by_ hmix [] Try.func20 rfl ?_
  simp only [run0, run1, run2, run3, run4, run5, run6, run7, run8, run9, run10, run11, run12, run13, run14, run15, run16, run17, run18, run19, run20, run21, run22, reduceCtorEq, Nat.reduceEqDiff, Nat.reduceAdd, Nat.reduceSub, Nat.reduceLeDiff, indexAddrA, indexRefA, appendA, strA, Nat.reduceMul, Nat.zero_mul, Nat.reduceMod, Int.reduceEq, Int.reduceLT, Int.reduceLE, Nat.reduceLT, Nat.lt_irrefl, Nat.reduceBEq, tys0, tys1, tys2, tys3, tys4, tys5, tys6, tys7, tys8, tys9, tys10, tys11, tys12, tys13, tys14, tys15, tys16, tys17, tys18, Try.ntmps20, Try.results20, av]
  refine RunL.callp rfl rfl ok_f63 (IsOrdinal_ok a hs) (by first | rfl | simp only [pureL, pureB, Bool.and_self, Bool.and_true, Bool.true_and, Od.elems_pure, Od.pay_pure, Od.av_pure]) rfl ?_
  cases h1 : goodT a
  · simp only [run0, run1, run2, run3, run4, run5, run6, run7, run8, run9, run10, run11, run12, run13, run14, run15, run16, run17, run18, run19, run20, run21, run22, reduceCtorEq, Nat.reduceEqDiff, Nat.reduceAdd, Nat.reduceSub, Nat.reduceLeDiff, indexAddrA, indexRefA, appendA, strA, Nat.reduceMul, Nat.zero_mul, Nat.reduceMod, Int.reduceEq, Int.reduceLT, Int.reduceLE, Nat.reduceLT, Nat.lt_irrefl, Nat.reduceBEq, tys0, tys1, tys2, tys3, tys4, tys5, tys6, tys7, tys8, tys9, tys10, tys11, tys12, tys13, tys14, tys15, tys16, tys17, tys18, Try.ntmps20, Try.results20, h1]
    exact Fin.eq (by simp [herOk, h1]) rfl
  simp only [run0, run1, run2, run3, run4, run5, run6, run7, run8, run9, run10, run11, run12, run13, run14, run15, run16, run17, run18, run19, run20, run21, run22, reduceCtorEq, Nat.reduceEqDiff, Nat.reduceAdd, Nat.reduceSub, Nat.reduceLeDiff, indexAddrA, indexRefA, appendA, strA, Nat.reduceMul, Nat.zero_mul, Nat.reduceMod, Int.reduceEq, Int.reduceLT, Int.reduceLE, Nat.reduceLT, Nat.lt_irrefl, Nat.reduceBEq, tys0, tys1, tys2, tys3, tys4, tys5, tys6, tys7, tys8, tys9, tys10, tys11, tys12, tys13, tys14, tys15, tys16, tys17, tys18, Try.ntmps20, Try.results20, h1]
  refine RunL.callp rfl rfl ok_f51 (hbo) (by first | rfl | simp only [pureL, pureB, Bool.and_self, Bool.and_true, Bool.true_and, Od.elems_pure, Od.pay_pure, Od.av_pure]) rfl ?_
  cases h2 : inB b 2 1000
  · simp only [run0, run1, run2, run3, run4, run5, run6, run7, run8, run9, run10, run11, run12, run13, run14, run15, run16, run17, run18, run19, run20, run21, run22, reduceCtorEq, Nat.reduceEqDiff, Nat.reduceAdd, Nat.reduceSub, Nat.reduceLeDiff, indexAddrA, indexRefA, appendA, strA, Nat.reduceMul, Nat.zero_mul, Nat.reduceMod, Int.reduceEq, Int.reduceLT, Int.reduceLE, Nat.reduceLT, Nat.lt_irrefl, Nat.reduceBEq, tys0, tys1, tys2, tys3, tys4, tys5, tys6, tys7, tys8, tys9, tys10, tys11, tys12, tys13, tys14, tys15, tys16, tys17, tys18, Try.ntmps20, Try.results20, h2]
    exact Fin.eq (by simp [herOk, h2]) rfl
  obtain ⟨b1, b2⟩ := inB_spec h2
  simp only [run0, run1, run2, run3, run4, run5, run6, run7, run8, run9, run10, run11, run12, run13, run14, run15, run16, run17, run18, run19, run20, run21, run22, reduceCtorEq, Nat.reduceEqDiff, Nat.reduceAdd, Nat.reduceSub, Nat.reduceLeDiff, indexAddrA, indexRefA, appendA, strA, Nat.reduceMul, Nat.zero_mul, Nat.reduceMod, Int.reduceEq, Int.reduceLT, Int.reduceLE, Nat.reduceLT, Nat.lt_irrefl, Nat.reduceBEq, tys0, tys1, tys2, tys3, tys4, tys5, tys6, tys7, tys8, tys9, tys10, tys11, tys12, tys13, tys14, tys15, tys16, tys17, tys18, Try.ntmps20, Try.results20, h2]
  refine RunL.callp rfl rfl ok_f64 (digitsBelow_ok a b hs) (by first | rfl | simp only [pureL, pureB, Bool.and_self, Bool.and_true, Bool.true_and, Od.elems_pure, Od.pay_pure, Od.av_pure]) rfl ?_
  cases h3 : digT b a
  · simp only [run0, run1, run2, run3, run4, run5, run6, run7, run8, run9, run10, run11, run12, run13, run14, run15, run16, run17, run18, run19, run20, run21, run22, reduceCtorEq, Nat.reduceEqDiff, Nat.reduceAdd, Nat.reduceSub, Nat.reduceLeDiff, indexAddrA, indexRefA, appendA, strA, Nat.reduceMul, Nat.zero_mul, Nat.reduceMod, Int.reduceEq, Int.reduceLT, Int.reduceLE, Nat.reduceLT, Nat.lt_irrefl, Nat.reduceBEq, tys0, tys1, tys2, tys3, tys4, tys5, tys6, tys7, tys8, tys9, tys10, tys11, tys12, tys13, tys14, tys15, tys16, tys17, tys18, Try.ntmps20, Try.results20, h3]
    exact Fin.eq (by simp [herOk, h3]) rfl
  simp only [run0, run1, run2, run3, run4, run5, run6, run7, run8, run9, run10, run11, run12, run13, run14, run15, run16, run17, run18, run19, run20, run21, run22, reduceCtorEq, Nat.reduceEqDiff, Nat.reduceAdd, Nat.reduceSub, Nat.reduceLeDiff, indexAddrA, indexRefA, appendA, strA, Nat.reduceMul, Nat.zero_mul, Nat.reduceMod, Int.reduceEq, Int.reduceLT, Int.reduceLE, Nat.reduceLT, Nat.lt_irrefl, Nat.reduceBEq, tys0, tys1, tys2, tys3, tys4, tys5, tys6, tys7, tys8, tys9, tys10, tys11, tys12, tys13, tys14, tys15, tys16, tys17, tys18, Try.ntmps20, Try.results20, h3]
  refine RunL.callp rfl rfl ok_f65 (valueOf_ok a b hs b1 b2 (goodT_rng h1)) (by first | rfl | simp only [pureL, pureB, Bool.and_self, Bool.and_true, Bool.true_and, Od.elems_pure, Od.pay_pure, Od.av_pure]) rfl ?_
  by_cases h4 : 1000000 < valT b a
  · simp only [run0, run1, run2, run3, run4, run5, run6, run7, run8, run9, run10, run11, run12, run13, run14, run15, run16, run17, run18, run19, run20, run21, run22, reduceCtorEq, Nat.reduceEqDiff, Nat.reduceAdd, Nat.reduceSub, Nat.reduceLeDiff, indexAddrA, indexRefA, appendA, strA, Nat.reduceMul, Nat.zero_mul, Nat.reduceMod, Int.reduceEq, Int.reduceLT, Int.reduceLE, Nat.reduceLT, Nat.lt_irrefl, Nat.reduceBEq, tys0, tys1, tys2, tys3, tys4, tys5, tys6, tys7, tys8, tys9, tys10, tys11, tys12, tys13, tys14, tys15, tys16, tys17, tys18, Try.ntmps20, Try.results20, h4]
    exact Fin.eq (by simp [herOk, h4]) rfl
  · simp only [run0, run1, run2, run3, run4, run5, run6, run7, run8, run9, run10, run11, run12, run13, run14, run15, run16, run17, run18, run19, run20, run21, run22, reduceCtorEq, Nat.reduceEqDiff, Nat.reduceAdd, Nat.reduceSub, Nat.reduceLeDiff, indexAddrA, indexRefA, appendA, strA, Nat.reduceMul, Nat.zero_mul, Nat.reduceMod, Int.reduceEq, Int.reduceLT, Int.reduceLE, Nat.reduceLT, Nat.lt_irrefl, Nat.reduceBEq, tys0, tys1, tys2, tys3, tys4, tys5, tys6, tys7, tys8, tys9, tys10, tys11, tys12, tys13, tys14, tys15, tys16, tys17, tys18, Try.ntmps20, Try.results20, h4]
    exact Fin.eq (by simp [herOk, h1, h2, h3, h4]) rfl
theorem specHer_ok (a : Od) (b : Int) (hs : a.sz ≤ 1048576) : Ct Try.prog 18 [av a, .int .i64 b] [] (.tup [.int .i64 (if herOk b a then valT b a else 0), .bool (herOk b a)]) [] := by
  refine Ct.by_ hmix [] Try.func18 rfl ?_
  simp only [run0, run1, run2, run3, run4, run5, run6, run7, run8, run9, run10, run11, run12, run13, run14, run15, run16, run17, run18, run19, run20, run21, run22, reduceCtorEq, Nat.reduceEqDiff, Nat.reduceAdd, Nat.reduceSub, Nat.reduceLeDiff, indexAddrA, indexRefA, appendA, strA, Nat.reduceMul, Nat.zero_mul, Nat.reduceMod, Int.reduceEq, Int.reduceLT, Int.reduceLE, Nat.reduceLT, Nat.lt_irrefl, Nat.reduceBEq, tys0, tys1, tys2, tys3, tys4, tys5, tys6, tys7, tys8, tys9, tys10, tys11, tys12, tys13, tys14, tys15, tys16, tys17, tys18, Try.ntmps18, Try.results18, av]
  refine RunL.callp rfl rfl ok_f58 (odGood_ok a hs) (by first | rfl | simp only [pureL, pureB, Bool.and_self, Bool.and_true, Bool.true_and, Od.elems_pure, Od.pay_pure, Od.av_pure]) rfl ?_
  cases h1 : goodT a
  · simp only [run0, run1, run2, run3, run4, run5, run6, run7, run8, run9, run10, run11, run12, run13, run14, run15, run16, run17, run18, run19, run20, run21, run22, reduceCtorEq, Nat.reduceEqDiff, Nat.reduceAdd, Nat.reduceSub, Nat.reduceLeDiff, indexAddrA, indexRefA, appendA, strA, Nat.reduceMul, Nat.zero_mul, Nat.reduceMod, Int.reduceEq, Int.reduceLT, Int.reduceLE, Nat.reduceLT, Nat.lt_irrefl, Nat.reduceBEq, tys0, tys1, tys2, tys3, tys4, tys5, tys6, tys7, tys8, tys9, tys10, tys11, tys12, tys13, tys14, tys15, tys16, tys17, tys18, Try.ntmps18, Try.results18, h1]
    exact Fin.eq (by simp [herOk, h1]) rfl
  simp only [run0, run1, run2, run3, run4, run5, run6, run7, run8, run9, run10, run11, run12, run13, run14, run15, run16, run17, run18, run19, run20, run21, run22, reduceCtorEq, Nat.reduceEqDiff, Nat.reduceAdd, Nat.reduceSub, Nat.reduceLeDiff, indexAddrA, indexRefA, appendA, strA, Nat.reduceMul, Nat.zero_mul, Nat.reduceMod, Int.reduceEq, Int.reduceLT, Int.reduceLE, Nat.reduceLT, Nat.lt_irrefl, Nat.reduceBEq, tys0, tys1, tys2, tys3, tys4, tys5, tys6, tys7, tys8, tys9, tys10, tys11, tys12, tys13, tys14, tys15, tys16, tys17, tys18, Try.ntmps18, Try.results18, h1]
  refine RunL.callp rfl rfl ok_f59 (l1In_ok b 2 1000) (by first | rfl | simp only [pureL, pureB, Bool.and_self, Bool.and_true, Bool.true_and, Od.elems_pure, Od.pay_pure, Od.av_pure]) rfl ?_
  cases h2 : inB b 2 1000
  · simp only [run0, run1, run2, run3, run4, run5, run6, run7, run8, run9, run10, run11, run12, run13, run14, run15, run16, run17, run18, run19, run20, run21, run22, reduceCtorEq, Nat.reduceEqDiff, Nat.reduceAdd, Nat.reduceSub, Nat.reduceLeDiff, indexAddrA, indexRefA, appendA, strA, Nat.reduceMul, Nat.zero_mul, Nat.reduceMod, Int.reduceEq, Int.reduceLT, Int.reduceLE, Nat.reduceLT, Nat.lt_irrefl, Nat.reduceBEq, tys0, tys1, tys2, tys3, tys4, tys5, tys6, tys7, tys8, tys9, tys10, tys11, tys12, tys13, tys14, tys15, tys16, tys17, tys18, Try.ntmps18, Try.results18, h2]
    exact Fin.eq (by simp [herOk, h2]) rfl
  obtain ⟨b1, b2⟩ := inB_spec h2
  simp only [run0, run1, run2, run3, run4, run5, run6, run7, run8, run9, run10, run11, run12, run13, run14, run15, run16, run17, run18, run19, run20, run21, run22, reduceCtorEq, Nat.reduceEqDiff, Nat.reduceAdd, Nat.reduceSub, Nat.reduceLeDiff, indexAddrA, indexRefA, appendA, strA, Nat.reduceMul, Nat.zero_mul, Nat.reduceMod, Int.reduceEq, Int.reduceLT, Int.reduceLE, Nat.reduceLT, Nat.lt_irrefl, Nat.reduceBEq, tys0, tys1, tys2, tys3, tys4, tys5, tys6, tys7, tys8, tys9, tys10, tys11, tys12, tys13, tys14, tys15, tys16, tys17, tys18, Try.ntmps18, Try.results18, h2]
  refine RunL.callp rfl rfl ok_f60 (deDigits_ok a b hs) (by first | rfl | simp only [pureL, pureB, Bool.and_self, Bool.and_true, Bool.true_and, Od.elems_pure, Od.pay_pure, Od.av_pure]) rfl ?_
  cases h3 : digT b a
  · simp only [run0, run1, run2, run3, run4, run5, run6, run7, run8, run9, run10, run11, run12, run13, run14, run15, run16, run17, run18, run19, run20, run21, run22, reduceCtorEq, Nat.reduceEqDiff, Nat.reduceAdd, Nat.reduceSub, Nat.reduceLeDiff, indexAddrA, indexRefA, appendA, strA, Nat.reduceMul, Nat.zero_mul, Nat.reduceMod, Int.reduceEq, Int.reduceLT, Int.reduceLE, Nat.reduceLT, Nat.lt_irrefl, Nat.reduceBEq, tys0, tys1, tys2, tys3, tys4, tys5, tys6, tys7, tys8, tys9, tys10, tys11, tys12, tys13, tys14, tys15, tys16, tys17, tys18, Try.ntmps18, Try.results18, h3]
    exact Fin.eq (by simp [herOk, h3]) rfl
  simp only [run0, run1, run2, run3, run4, run5, run6, run7, run8, run9, run10, run11, run12, run13, run14, run15, run16, run17, run18, run19, run20, run21, run22, reduceCtorEq, Nat.reduceEqDiff, Nat.reduceAdd, Nat.reduceSub, Nat.reduceLeDiff, indexAddrA, indexRefA, appendA, strA, Nat.reduceMul, Nat.zero_mul, Nat.reduceMod, Int.reduceEq, Int.reduceLT, Int.reduceLE, Nat.reduceLT, Nat.lt_irrefl, Nat.reduceBEq, tys0, tys1, tys2, tys3, tys4, tys5, tys6, tys7, tys8, tys9, tys10, tys11, tys12, tys13, tys14, tys15, tys16, tys17, tys18, Try.ntmps18, Try.results18, h3]
  refine RunL.callp rfl rfl ok_f61 (deValue_ok a b hs b1 b2 (goodT_rng h1)) (by first | rfl | simp only [pureL, pureB, Bool.and_self, Bool.and_true, Bool.true_and, Od.elems_pure, Od.pay_pure, Od.av_pure]) rfl ?_
  by_cases h4 : 1000000 < valT b a
  · simp only [run0, run1, run2, run3, run4, run5, run6, run7, run8, run9, run10, run11, run12, run13, run14, run15, run16, run17, run18, run19, run20, run21, run22, reduceCtorEq, Nat.reduceEqDiff, Nat.reduceAdd, Nat.reduceSub, Nat.reduceLeDiff, indexAddrA, indexRefA, appendA, strA, Nat.reduceMul, Nat.zero_mul, Nat.reduceMod, Int.reduceEq, Int.reduceLT, Int.reduceLE, Nat.reduceLT, Nat.lt_irrefl, Nat.reduceBEq, tys0, tys1, tys2, tys3, tys4, tys5, tys6, tys7, tys8, tys9, tys10, tys11, tys12, tys13, tys14, tys15, tys16, tys17, tys18, Try.ntmps18, Try.results18, h4]
    exact Fin.eq (by simp [herOk, h4]) rfl
  · simp only [run0, run1, run2, run3, run4, run5, run6, run7, run8, run9, run10, run11, run12, run13, run14, run15, run16, run17, run18, run19, run20, run21, run22, reduceCtorEq, Nat.reduceEqDiff, Nat.reduceAdd, Nat.reduceSub, Nat.reduceLeDiff, indexAddrA, indexRefA, appendA, strA, Nat.reduceMul, Nat.zero_mul, Nat.reduceMod, Int.reduceEq, Int.reduceLT, Int.reduceLE, Nat.reduceLT, Nat.lt_irrefl, Nat.reduceBEq, tys0, tys1, tys2, tys3, tys4, tys5, tys6, tys7, tys8, tys9, tys10, tys11, tys12, tys13, tys14, tys15, tys16, tys17, tys18, Try.ntmps18, Try.results18, h4]
    refine RunL.callp rfl rfl ok_f61 (deValue_ok a b hs b1 b2 (goodT_rng h1)) (by first | rfl | simp only [pureL, pureB, Bool.and_self, Bool.and_true, Bool.true_and, Od.elems_pure, Od.pay_pure, Od.av_pure]) rfl ?_
    simp only [run0, run1, run2, run3, run4, run5, run6, run7, run8, run9, run10, run11, run12, run13, run14, run15, run16, run17, run18, run19, run20, run21, run22, reduceCtorEq, Nat.reduceEqDiff, Nat.reduceAdd, Nat.reduceSub, Nat.reduceLeDiff, indexAddrA, indexRefA, appendA, strA, Nat.reduceMul, Nat.zero_mul, Nat.reduceMod, Int.reduceEq, Int.reduceLT, Int.reduceLE, Nat.reduceLT, Nat.lt_irrefl, Nat.reduceBEq, tys0, tys1, tys2, tys3, tys4, tys5, tys6, tys7, tys8, tys9, tys10, tys11, tys12, tys13, tys14, tys15, tys16, tys17, tys18, Try.ntmps18, Try.results18]
    exact Fin.eq (by simp [herOk, h1, h2, h3, h4]) rfl

theorem FnExactFromHereditary_ok {a0 a1 : AV} (h0 : IsOf Try.prog 32 a0) (h1 : IsOf Try.prog 3 a1) : Ct Try.prog 4 [a0, a1] [] (.bool true) [] := by
  obtain ⟨a, rfl, hf⟩ := laws_isOd h0
  obtain ⟨_, h1⟩ := h1.one ty_a3
  obtain ⟨b, e, _⟩ := h1.int Try.underlying3
  simp only [List.cons.injEq, and_true] at e
  subst e
  refine Ct.by_ hmix [] Try.func4 rfl ?_
  simp only [run0, run1, run2, run3, run4, run5, run6, run7, run8, run9, run10, run11, run12, run13, run14, run15, run16, run17, run18, run19, run20, run21, run22, reduceCtorEq, Nat.reduceEqDiff, Nat.reduceAdd, Nat.reduceSub, Nat.reduceLeDiff, indexAddrA, indexRefA, appendA, strA, Nat.reduceMul, Nat.zero_mul, Nat.reduceMod, Int.reduceEq, Int.reduceLT, Int.reduceLE, Nat.reduceLT, Nat.lt_irrefl, Nat.reduceBEq, tys0, tys1, tys2, tys3, tys4, tys5, tys6, tys7, tys8, tys9, tys10, tys11, tys12, tys13, tys14, tys15, tys16, tys17, tys18, Try.ntmps4, Try.results4, av]
  refine RunL.callp rfl rfl ok_f17 (szOrdinal_ok a 1048576 hf (by omega) (by omega)) (by first | rfl | simp only [pureL, pureB, Bool.and_self, Bool.and_true, Bool.true_and, Od.elems_pure, Od.pay_pure, Od.av_pure]) rfl ?_
  rcases szR_spec a.sz 1048576 with ⟨hs, hr⟩ | ⟨hs, hr⟩
  case inr =>
    have e1 : szR a.sz 1048576 < 0 := by omega
    simp only [run0, run1, run2, run3, run4, run5, run6, run7, run8, run9, run10, run11, run12, run13, run14, run15, run16, run17, run18, run19, run20, run21, run22, reduceCtorEq, Nat.reduceEqDiff, Nat.reduceAdd, Nat.reduceSub, Nat.reduceLeDiff, indexAddrA, indexRefA, appendA, strA, Nat.reduceMul, Nat.zero_mul, Nat.reduceMod, Int.reduceEq, Int.reduceLT, Int.reduceLE, Nat.reduceLT, Nat.lt_irrefl, Nat.reduceBEq, tys0, tys1, tys2, tys3, tys4, tys5, tys6, tys7, tys8, tys9, tys10, tys11, tys12, tys13, tys14, tys15, tys16, tys17, tys18, Try.ntmps4, Try.results4, e1]
    exact Fin.eq rfl rfl
  have ha : a.sz ≤ 1048576 := by omega
  have e1 : ¬ (szR a.sz 1048576 < 0) := by omega
  simp only [run0, run1, run2, run3, run4, run5, run6, run7, run8, run9, run10, run11, run12, run13, run14, run15, run16, run17, run18, run19, run20, run21, run22, reduceCtorEq, Nat.reduceEqDiff, Nat.reduceAdd, Nat.reduceSub, Nat.reduceLeDiff, indexAddrA, indexRefA, appendA, strA, Nat.reduceMul, Nat.zero_mul, Nat.reduceMod, Int.reduceEq, Int.reduceLT, Int.reduceLE, Nat.reduceLT, Nat.lt_irrefl, Nat.reduceBEq, tys0, tys1, tys2, tys3, tys4, tys5, tys6, tys7, tys8, tys9, tys10, tys11, tys12, tys13, tys14, tys15, tys16, tys17, tys18, Try.ntmps4, Try.results4, e1]
  refine RunL.callp rfl rfl ok_f19 (toOrdinal_ok a ha) (by first | rfl | simp only [pureL, pureB, Bool.and_self, Bool.and_true, Bool.true_and, Od.elems_pure, Od.pay_pure, Od.av_pure]) rfl ?_
  simp only [run0, run1, run2, run3, run4, run5, run6, run7, run8, run9, run10, run11, run12, run13, run14, run15, run16, run17, run18, run19, run20, run21, run22, reduceCtorEq, Nat.reduceEqDiff, Nat.reduceAdd, Nat.reduceSub, Nat.reduceLeDiff, indexAddrA, indexRefA, appendA, strA, Nat.reduceMul, Nat.zero_mul, Nat.reduceMod, Int.reduceEq, Int.reduceLT, Int.reduceLE, Nat.reduceLT, Nat.lt_irrefl, Nat.reduceBEq, tys0, tys1, tys2, tys3, tys4, tys5, tys6, tys7, tys8, tys9, tys10, tys11, tys12, tys13, tys14, tys15, tys16, tys17, tys18, Try.ntmps4, Try.results4, av]
  refine RunL.callp rfl rfl ok_f18 (specHer_ok a b ha) (by first | rfl | simp only [pureL, pureB, Bool.and_self, Bool.and_true, Bool.true_and, Od.elems_pure, Od.pay_pure, Od.av_pure]) rfl ?_
  simp only [run0, run1, run2, run3, run4, run5, run6, run7, run8, run9, run10, run11, run12, run13, run14, run15, run16, run17, run18, run19, run20, run21, run22, reduceCtorEq, Nat.reduceEqDiff, Nat.reduceAdd, Nat.reduceSub, Nat.reduceLeDiff, indexAddrA, indexRefA, appendA, strA, Nat.reduceMul, Nat.zero_mul, Nat.reduceMod, Int.reduceEq, Int.reduceLT, Int.reduceLE, Nat.reduceLT, Nat.lt_irrefl, Nat.reduceBEq, tys0, tys1, tys2, tys3, tys4, tys5, tys6, tys7, tys8, tys9, tys10, tys11, tys12, tys13, tys14, tys15, tys16, tys17, tys18, Try.ntmps4, Try.results4, av]
  refine RunL.callp rfl rfl ok_f19 (toOrdinal_ok a ha) (by first | rfl | simp only [pureL, pureB, Bool.and_self, Bool.and_true, Bool.true_and, Od.elems_pure, Od.pay_pure, Od.av_pure]) rfl ?_
  simp only [run0, run1, run2, run3, run4, run5, run6, run7, run8, run9, run10, run11, run12, run13, run14, run15, run16, run17, run18, run19, run20, run21, run22, reduceCtorEq, Nat.reduceEqDiff, Nat.reduceAdd, Nat.reduceSub, Nat.reduceLeDiff, indexAddrA, indexRefA, appendA, strA, Nat.reduceMul, Nat.zero_mul, Nat.reduceMod, Int.reduceEq, Int.reduceLT, Int.reduceLE, Nat.reduceLT, Nat.lt_irrefl, Nat.reduceBEq, tys0, tys1, tys2, tys3, tys4, tys5, tys6, tys7, tys8, tys9, tys10, tys11, tys12, tys13, tys14, tys15, tys16, tys17, tys18, Try.ntmps4, Try.results4, av]
  refine RunL.callp rfl rfl ok_f20 (implHer_ok a b ha) (by first | rfl | simp only [pureL, pureB, Bool.and_self, Bool.and_true, Bool.true_and, Od.elems_pure, Od.pay_pure, Od.av_pure]) rfl ?_
  simp only [run0, run1, run2, run3, run4, run5, run6, run7, run8, run9, run10, run11, run12, run13, run14, run15, run16, run17, run18, run19, run20, run21, run22, reduceCtorEq, Nat.reduceEqDiff, Nat.reduceAdd, Nat.reduceSub, Nat.reduceLeDiff, indexAddrA, indexRefA, appendA, strA, Nat.reduceMul, Nat.zero_mul, Nat.reduceMod, Int.reduceEq, Int.reduceLT, Int.reduceLE, Nat.reduceLT, Nat.lt_irrefl, Nat.reduceBEq, tys0, tys1, tys2, tys3, tys4, tys5, tys6, tys7, tys8, tys9, tys10, tys11, tys12, tys13, tys14, tys15, tys16, tys17, tys18, Try.ntmps4, Try.results4, av, bne_self_eq_false]
  refine ⟨by kernel_rfl, ?_⟩
  refine RunL.callp rfl rfl ok_f19 (toOrdinal_ok a ha) (by first | rfl | simp only [pureL, pureB, Bool.and_self, Bool.and_true, Bool.true_and, Od.elems_pure, Od.pay_pure, Od.av_pure]) rfl ?_
  simp only [run0, run1, run2, run3, run4, run5, run6, run7, run8, run9, run10, run11, run12, run13, run14, run15, run16, run17, run18, run19, run20, run21, run22, reduceCtorEq, Nat.reduceEqDiff, Nat.reduceAdd, Nat.reduceSub, Nat.reduceLeDiff, indexAddrA, indexRefA, appendA, strA, Nat.reduceMul, Nat.zero_mul, Nat.reduceMod, Int.reduceEq, Int.reduceLT, Int.reduceLE, Nat.reduceLT, Nat.lt_irrefl, Nat.reduceBEq, tys0, tys1, tys2, tys3, tys4, tys5, tys6, tys7, tys8, tys9, tys10, tys11, tys12, tys13, tys14, tys15, tys16, tys17, tys18, Try.ntmps4, Try.results4, av]
  refine RunL.callp rfl rfl ok_f14 (eqOrdinal_ok a a ha) (by first | rfl | simp only [pureL, pureB, Bool.and_self, Bool.and_true, Bool.true_and, Od.elems_pure, Od.pay_pure, Od.av_pure]) rfl ?_
  simp only [run0, run1, run2, run3, run4, run5, run6, run7, run8, run9, run10, run11, run12, run13, run14, run15, run16, run17, run18, run19, run20, run21, run22, reduceCtorEq, Nat.reduceEqDiff, Nat.reduceAdd, Nat.reduceSub, Nat.reduceLeDiff, indexAddrA, indexRefA, appendA, strA, Nat.reduceMul, Nat.zero_mul, Nat.reduceMod, Int.reduceEq, Int.reduceLT, Int.reduceLE, Nat.reduceLT, Nat.lt_irrefl, Nat.reduceBEq, tys0, tys1, tys2, tys3, tys4, tys5, tys6, tys7, tys8, tys9, tys10, tys11, tys12, tys13, tys14, tys15, tys16, tys17, tys18, Try.ntmps4, Try.results4, eqT_refl]
  exact Fin.eq rfl rfl

end Go.Proofs.Ytphmkhaboghagaa
