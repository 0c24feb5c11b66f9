/-
  Texts joined in one: C2, C8, DO3, DO4, DO5, DO6.
-/
import Derived.Test.YtphmkhaboghagaaMDescenD
import Derived.Test.YtphmkhaboghagaaMDescenC
/-
  Hereditary forms: reading them back: the law.
-/
namespace Go.Proofs.Ytphmkhaboghagaa
open Go K Od
set_option linter.unusedSimpArgs false
set_option linter.unusedVariables false
set_option maxHeartbeats 1600000

theorem valueOf_ok (a : Od) (b : Int) (hs : a.sz ≤ 1048576) (hb : 2 ≤ b) (hb2 : b ≤ 2000) (ra : rng a) : Ct Try.prog 65 [av a, .int .i64 b] [] (.int .i64 (valT b a)) [] := by
  refine Ct.by_ hmix [] Try.func65 rfl ?_
  simp only [run0, run1, run2, run3, run4, run5, run6, run7, run8, run9, run10, run11, run12, run13, run14, run15, run16, run17, run18, run19, run20, run21, run22, reduceCtorEq, Nat.reduceEqDiff, Nat.reduceAdd, Nat.reduceSub, Nat.reduceLeDiff, indexAddrA, indexRefA, appendA, strA, Nat.reduceMul, Nat.zero_mul, Nat.reduceMod, Int.reduceEq, Int.reduceLT, Int.reduceLE, Nat.reduceLT, Nat.lt_irrefl, Nat.reduceBEq, tys0, tys1, tys2, tys3, tys4, tys5, tys6, tys7, tys8, tys9, tys10, tys11, tys12, tys13, tys14, tys15, tys16, tys17, tys18, Try.ntmps65, Try.results65, av, elems_length]
  refine AWp.loop_inv (ι := Od × Od × Int × List AObj) (fun p => ⟨[.agg [.sl false (elems a)], .int .i64 b, .ptr 0 0, .junk, .junk, .int .i64 p.2.2.1, .junk, .junk, .junk, .junk, .junk, .sl false (elems a), .int .i64 a.len, .int .i64 p.1.len, .junk, .junk, .junk, .junk, .junk, .junk, .junk, .junk, .junk, .junk, .junk, .junk, .junk, .junk, .junk, .junk, .junk, .junk, .junk, .junk, .junk, .junk, .junk, .junk, .junk, .junk, .junk], .box 24 [.sl false (elems a)] :: p.2.2.2⟩)
    (fun p => a = p.1.app p.2.1 ∧ 0 ≤ p.2.2.1 ∧ p.2.2.1 ≤ 1000000 ∧ valS b p.2.1 p.2.2.1 = valT b a) (fun p => p.2.1.len) (.nil, a, 0, []) ⟨rfl, by simp only; omega, by simp only; omega, rfl⟩ ⟨by simp only [len, Int.natCast_zero]; repeat constructor, rfl⟩ ?_
  rintro ⟨d, r, s, X⟩ ⟨ha, h2, h3, h4⟩
  refine W.sound hmix (E := []) ?_
  simp only at ha h2 h3 h4
  cases r with
  | nil =>
    obtain ⟨e1, rfl⟩ := od_end ha
    simp only [run0, run1, run2, run3, run4, run5, run6, run7, run8, run9, run10, run11, run12, run13, run14, run15, run16, run17, run18, run19, run20, run21, run22, reduceCtorEq, Nat.reduceEqDiff, Nat.reduceAdd, Nat.reduceSub, Nat.reduceLeDiff, indexAddrA, indexRefA, appendA, strA, Nat.reduceMul, Nat.zero_mul, Nat.reduceMod, Int.reduceEq, Int.reduceLT, Int.reduceLE, Nat.reduceLT, Nat.lt_irrefl, Nat.reduceBEq, tys0, tys1, tys2, tys3, tys4, tys5, tys6, tys7, tys8, tys9, tys10, tys11, tys12, tys13, tys14, tys15, tys16, tys17, tys18, Try.ntmps65, Try.results65, elems_length, e1]
    exact Fin.eq (by rw [← h4]; rfl) rfl
  | cons e c r =>
    obtain ⟨e1, e2, e5, hlt, hn, _⟩ := od_step ha hs
    rw [ha] at ra
    have ra := rng_app ra
    have hc : 1 ≤ c ∧ c ≤ 1000000 := ⟨ra.1, ra.2.1⟩
    have hv := valS_range (b := b) hb (a := e) (s := 0) ra.2.2.1 (by omega) (by omega)
    obtain ⟨E, hE⟩ : ∃ E : Nat, valT b e = (E : Int) := ⟨(valT b e).toNat, by have : 0 ≤ valT b e := hv.1; omega⟩
    have hcv := valueOf_ok e b (by omega) hb hb2 ra.2.2.1
    rw [hE] at hcv
    rw [valS_cons, hE, Int.toNat_natCast] at h4
    simp only [run0, run1, run2, run3, run4, run5, run6, run7, run8, run9, run10, run11, run12, run13, run14, run15, run16, run17, run18, run19, run20, run21, run22, reduceCtorEq, Nat.reduceEqDiff, Nat.reduceAdd, Nat.reduceSub, Nat.reduceLeDiff, indexAddrA, indexRefA, appendA, strA, Nat.reduceMul, Nat.zero_mul, Nat.reduceMod, Int.reduceEq, Int.reduceLT, Int.reduceLE, Nat.reduceLT, Nat.lt_irrefl, Nat.reduceBEq, tys0, tys1, tys2, tys3, tys4, tys5, tys6, tys7, tys8, tys9, tys10, tys11, tys12, tys13, tys14, tys15, tys16, tys17, tys18, Try.ntmps65, Try.results65, elems_length, e1, e2, Int.toNat_natCast, Int.natCast_nonneg]
    refine ⟨by kernel_rfl, ?_⟩
    refine RunL.callp rfl rfl ok_f65 (hcv) (by first | rfl | simp only [pureL, pureB, Bool.and_self, Bool.and_true, Bool.true_and, Od.elems_pure, Od.pay_pure, Od.av_pure]) rfl ?_
    simp only [run0, run1, run2, run3, run4, run5, run6, run7, run8, run9, run10, run11, run12, run13, run14, run15, run16, run17, run18, run19, run20, run21, run22, reduceCtorEq, Nat.reduceEqDiff, Nat.reduceAdd, Nat.reduceSub, Nat.reduceLeDiff, indexAddrA, indexRefA, appendA, strA, Nat.reduceMul, Nat.zero_mul, Nat.reduceMod, Int.reduceEq, Int.reduceLT, Int.reduceLE, Nat.reduceLT, Nat.lt_irrefl, Nat.reduceBEq, tys0, tys1, tys2, tys3, tys4, tys5, tys6, tys7, tys8, tys9, tys10, tys11, tys12, tys13, tys14, tys15, tys16, tys17, tys18, Try.ntmps65, Try.results65]
    refine AWp.loop_inv (ι := Nat × Int) (fun p => ⟨[.agg [.sl false (elems a)], .int .i64 b, .ptr 0 0, .junk, .junk, .int .i64 s, .junk, .junk, .int .i64 p.1, .int .i64 p.2, .junk, .sl false (elems a), .int .i64 a.len, .int .i64 d.len, .junk, .junk, .junk, .junk, .junk, .junk, .junk, .junk, .junk, .junk, .junk, .junk, .junk, .junk, .junk, .junk, .junk, .junk, .junk, .junk, .junk, .junk, .junk, .junk, .junk, .junk, .junk], .box 24 [.sl false (elems a)] :: (X ++ [.box 88 [.sl false (elems e), .int .i64 c]])⟩)
      (fun p => partL b p.1 p.2 = partL b E c ∧ 1 ≤ p.2 ∧ p.2 ≤ 2000000000 ∧ (p.1 : Int) ≤ 1000001) (fun p => p.1) (E, c) ⟨rfl, hc.1, by simp only; omega, by simp only; rw [← hE]; exact hv.2⟩ ⟨by repeat constructor, rfl⟩ ?_
    rintro ⟨k, q⟩ ⟨g1, g2, g3, g4⟩
    refine W.sound hmix (E := []) ?_
    simp only at g1 g2 g3 g4
    have hpb := partL_bound (b := b) (by omega) hb2 E c hc.1 (by omega)
    by_cases hk0 : k = 0
    · subst hk0
      have hk : ¬ ((0 : Int) < ((0 : Nat) : Int)) := by omega
      have hq2 : True := trivial
      have hq : q = partL b E c := g1
      subst hq
      have hw2 : IntKind.i64.wrap (s + partL b E c) = s + partL b E c := w64_id (by omega) (by omega)
      have hx := partL_spec (b := b) (by omega) E c hc.1
      by_cases hg : 1000000 < s + partL b E c
      · have hg2 : 1000000 < s + c * b ^ E := by
          by_cases hl : c * b ^ E ≤ 1000000
          · rw [hx.1 hl] at hg; exact hg
          · omega
        rw [if_pos hg2] at h4
        simp only [run0, run1, run2, run3, run4, run5, run6, run7, run8, run9, run10, run11, run12, run13, run14, run15, run16, run17, run18, run19, run20, run21, run22, reduceCtorEq, Nat.reduceEqDiff, Nat.reduceAdd, Nat.reduceSub, Nat.reduceLeDiff, indexAddrA, indexRefA, appendA, strA, Nat.reduceMul, Nat.zero_mul, Nat.reduceMod, Int.reduceEq, Int.reduceLT, Int.reduceLE, Nat.reduceLT, Nat.lt_irrefl, Nat.reduceBEq, tys0, tys1, tys2, tys3, tys4, tys5, tys6, tys7, tys8, tys9, tys10, tys11, tys12, tys13, tys14, tys15, tys16, tys17, tys18, Try.ntmps65, Try.results65, hk, hq2, hw2, hg]
        exact Fin.eq (by rw [← h4]) rfl
      · have hl : c * b ^ E ≤ 1000000 := by
          refine Decidable.byContradiction fun hl => ?_
          have := hx.2 (by omega); omega
        rw [hx.1 hl] at hg hw2 hpb ⊢
        rw [if_neg hg] at h4
        simp only [run0, run1, run2, run3, run4, run5, run6, run7, run8, run9, run10, run11, run12, run13, run14, run15, run16, run17, run18, run19, run20, run21, run22, reduceCtorEq, Nat.reduceEqDiff, Nat.reduceAdd, Nat.reduceSub, Nat.reduceLeDiff, indexAddrA, indexRefA, appendA, strA, Nat.reduceMul, Nat.zero_mul, Nat.reduceMod, Int.reduceEq, Int.reduceLT, Int.reduceLE, Nat.reduceLT, Nat.lt_irrefl, Nat.reduceBEq, tys0, tys1, tys2, tys3, tys4, tys5, tys6, tys7, tys8, tys9, tys10, tys11, tys12, tys13, tys14, tys15, tys16, tys17, tys18, Try.ntmps65, Try.results65, hk, hq2, hw2, hg, e5]
        exact ⟨(d.app (cons e c nil), r, s + c * b ^ E, _), ⟨hn.symm, by simp only; omega, by simp only; omega, h4⟩, by simp [len], by repeat constructor, rfl⟩
    have hk : (0 : Int) < (k : Int) := by omega
    by_cases hq2 : q ≤ 1000000
    · obtain ⟨k, rfl⟩ : ∃ j, k = j + 1 := ⟨k - 1, by omega⟩
      have l1 : 1 * 1 ≤ q * b := Int.mul_le_mul g2 (by omega) (by omega) (by omega)
      have l2 : q * b ≤ 1000000 * 2000 := Int.mul_le_mul hq2 hb2 (by omega) (by omega)
      have hw : IntKind.i64.wrap (q * b) = q * b := w64_id (by omega) (by omega)
      have hw3 : IntKind.i64.wrap (((k + 1 : Nat) : Int) - 1) = (k : Int) := by rw [w64_id (by omega) (by omega)]; omega
      rw [partL, if_pos hq2] at g1
      simp only [run0, run1, run2, run3, run4, run5, run6, run7, run8, run9, run10, run11, run12, run13, run14, run15, run16, run17, run18, run19, run20, run21, run22, reduceCtorEq, Nat.reduceEqDiff, Nat.reduceAdd, Nat.reduceSub, Nat.reduceLeDiff, indexAddrA, indexRefA, appendA, strA, Nat.reduceMul, Nat.zero_mul, Nat.reduceMod, Int.reduceEq, Int.reduceLT, Int.reduceLE, Nat.reduceLT, Nat.lt_irrefl, Nat.reduceBEq, tys0, tys1, tys2, tys3, tys4, tys5, tys6, tys7, tys8, tys9, tys10, tys11, tys12, tys13, tys14, tys15, tys16, tys17, tys18, Try.ntmps65, Try.results65, hk, hq2, hw, hw3]
      exact ⟨(k, q * b), ⟨g1, by simp only; omega, by simp only; omega, by simp only; omega⟩, by simp, by repeat constructor⟩
    · have hq : q = partL b E c := by rw [← g1, partL_le (by omega) k q hq2]
      subst hq
      have hw2 : IntKind.i64.wrap (s + partL b E c) = s + partL b E c := w64_id (by omega) (by omega)
      have hx := partL_spec (b := b) (by omega) E c hc.1
      by_cases hg : 1000000 < s + partL b E c
      · have hg2 : 1000000 < s + c * b ^ E := by
          by_cases hl : c * b ^ E ≤ 1000000
          · rw [hx.1 hl] at hg; exact hg
          · omega
        rw [if_pos hg2] at h4
        simp only [run0, run1, run2, run3, run4, run5, run6, run7, run8, run9, run10, run11, run12, run13, run14, run15, run16, run17, run18, run19, run20, run21, run22, reduceCtorEq, Nat.reduceEqDiff, Nat.reduceAdd, Nat.reduceSub, Nat.reduceLeDiff, indexAddrA, indexRefA, appendA, strA, Nat.reduceMul, Nat.zero_mul, Nat.reduceMod, Int.reduceEq, Int.reduceLT, Int.reduceLE, Nat.reduceLT, Nat.lt_irrefl, Nat.reduceBEq, tys0, tys1, tys2, tys3, tys4, tys5, tys6, tys7, tys8, tys9, tys10, tys11, tys12, tys13, tys14, tys15, tys16, tys17, tys18, Try.ntmps65, Try.results65, hk, hq2, hw2, hg]
        exact Fin.eq (by rw [← h4]) rfl
      · have hl : c * b ^ E ≤ 1000000 := by
          refine Decidable.byContradiction fun hl => ?_
          have := hx.2 (by omega); omega
        exact absurd (by rw [hx.1 hl]; exact hl) hq2
termination_by a.sz

theorem dePower_ok (b : Int) (E : Nat) (hb : 2 ≤ b) (hb2 : b ≤ 2000) (hE : (E : Int) ≤ 1000000) : Ct Try.prog 97 [.int .i64 b, .int .i64 E] [] (.int .i64 (partL b E 1)) [] := by
  refine Ct.by_ hmix [] Try.func97 rfl ?_
  simp only [run0, run1, run2, run3, run4, run5, run6, run7, run8, run9, run10, run11, run12, run13, run14, run15, run16, run17, run18, run19, run20, run21, run22, reduceCtorEq, Nat.reduceEqDiff, Nat.reduceAdd, Nat.reduceSub, Nat.reduceLeDiff, indexAddrA, indexRefA, appendA, strA, Nat.reduceMul, Nat.zero_mul, Nat.reduceMod, Int.reduceEq, Int.reduceLT, Int.reduceLE, Nat.reduceLT, Nat.lt_irrefl, Nat.reduceBEq, tys0, tys1, tys2, tys3, tys4, tys5, tys6, tys7, tys8, tys9, tys10, tys11, tys12, tys13, tys14, tys15, tys16, tys17, tys18, Try.ntmps97, Try.results97]
  refine AWp.loop_inv (ι := Nat × Int) (fun p => ⟨[.int .i64 b, .int .i64 p.1, .junk, .junk, .int .i64 0, .int .i64 p.2, .junk, .junk, .junk, .junk, .junk, .junk, .junk, .junk, .junk, .junk, .junk, .junk], []⟩)
    (fun p => partL b p.1 p.2 = partL b E 1 ∧ 1 ≤ p.2 ∧ p.2 ≤ 2000000000 ∧ (p.1 : Int) ≤ 1000000) (fun p => p.1) (E, 1) ⟨rfl, by simp only; omega, by simp only; omega, hE⟩ ⟨by repeat constructor, rfl⟩ ?_
  rintro ⟨k, q⟩ ⟨g1, g2, g3, g4⟩
  refine W.sound hmix (E := []) ?_
  simp only at g1 g2 g3 g4
  by_cases hk0 : k = 0
  · subst hk0
    have hk : ¬ ((0 : Int) < ((0 : Nat) : Int)) := by omega
    simp only [run0, run1, run2, run3, run4, run5, run6, run7, run8, run9, run10, run11, run12, run13, run14, run15, run16, run17, run18, run19, run20, run21, run22, reduceCtorEq, Nat.reduceEqDiff, Nat.reduceAdd, Nat.reduceSub, Nat.reduceLeDiff, indexAddrA, indexRefA, appendA, strA, Nat.reduceMul, Nat.zero_mul, Nat.reduceMod, Int.reduceEq, Int.reduceLT, Int.reduceLE, Nat.reduceLT, Nat.lt_irrefl, Nat.reduceBEq, tys0, tys1, tys2, tys3, tys4, tys5, tys6, tys7, tys8, tys9, tys10, tys11, tys12, tys13, tys14, tys15, tys16, tys17, tys18, Try.ntmps97, Try.results97, hk]
    exact Fin.eq (by rw [← g1]; rfl) rfl
  have hk : (0 : Int) < (k : Int) := by omega
  by_cases hq2 : q ≤ 1000000
  · obtain ⟨k, rfl⟩ : ∃ j, k = j + 1 := ⟨k - 1, by omega⟩
    have l1 : 1 * 1 ≤ q * b := Int.mul_le_mul g2 (by omega) (by omega) (by omega)
    have l2 : q * b ≤ 1000000 * 2000 := Int.mul_le_mul hq2 hb2 (by omega) (by omega)
    have hw : IntKind.i64.wrap (q * b) = q * b := w64_id (by omega) (by omega)
    have hw3 : IntKind.i64.wrap (((k + 1 : Nat) : Int) - 1) = (k : Int) := by rw [w64_id (by omega) (by omega)]; omega
    rw [partL, if_pos hq2] at g1
    simp only [run0, run1, run2, run3, run4, run5, run6, run7, run8, run9, run10, run11, run12, run13, run14, run15, run16, run17, run18, run19, run20, run21, run22, reduceCtorEq, Nat.reduceEqDiff, Nat.reduceAdd, Nat.reduceSub, Nat.reduceLeDiff, indexAddrA, indexRefA, appendA, strA, Nat.reduceMul, Nat.zero_mul, Nat.reduceMod, Int.reduceEq, Int.reduceLT, Int.reduceLE, Nat.reduceLT, Nat.lt_irrefl, Nat.reduceBEq, tys0, tys1, tys2, tys3, tys4, tys5, tys6, tys7, tys8, tys9, tys10, tys11, tys12, tys13, tys14, tys15, tys16, tys17, tys18, Try.ntmps97, Try.results97, hk, hq2, hw, hw3]
    exact ⟨(k, q * b), ⟨g1, by simp only; omega, by simp only; omega, by simp only; omega⟩, by simp, by repeat constructor⟩
  · simp only [run0, run1, run2, run3, run4, run5, run6, run7, run8, run9, run10, run11, run12, run13, run14, run15, run16, run17, run18, run19, run20, run21, run22, reduceCtorEq, Nat.reduceEqDiff, Nat.reduceAdd, Nat.reduceSub, Nat.reduceLeDiff, indexAddrA, indexRefA, appendA, strA, Nat.reduceMul, Nat.zero_mul, Nat.reduceMod, Int.reduceEq, Int.reduceLT, Int.reduceLE, Nat.reduceLT, Nat.lt_irrefl, Nat.reduceBEq, tys0, tys1, tys2, tys3, tys4, tys5, tys6, tys7, tys8, tys9, tys10, tys11, tys12, tys13, tys14, tys15, tys16, tys17, tys18, Try.ntmps97, Try.results97, hk, hq2]
    exact Fin.eq (by rw [← g1, partL_le (by omega) k q hq2]) rfl

theorem deValue_ok (a : Od) (b : Int) (hs : a.sz ≤ 1048576) (hb : 2 ≤ b) (hb2 : b ≤ 2000) (ra : rng a) : Ct Try.prog 61 [av a, .int .i64 b] [] (.int .i64 (valT b a)) [] := by
  refine Ct.by_ hmix [] Try.func61 rfl ?_
  simp only [run0, run1, run2, run3, run4, run5, run6, run7, run8, run9, run10, run11, run12, run13, run14, run15, run16, run17, run18, run19, run20, run21, run22, reduceCtorEq, Nat.reduceEqDiff, Nat.reduceAdd, Nat.reduceSub, Nat.reduceLeDiff, indexAddrA, indexRefA, appendA, strA, Nat.reduceMul, Nat.zero_mul, Nat.reduceMod, Int.reduceEq, Int.reduceLT, Int.reduceLE, Nat.reduceLT, Nat.lt_irrefl, Nat.reduceBEq, tys0, tys1, tys2, tys3, tys4, tys5, tys6, tys7, tys8, tys9, tys10, tys11, tys12, tys13, tys14, tys15, tys16, tys17, tys18, Try.ntmps61, Try.results61, av, elems_length]
  refine AWp.loop_inv (ι := Od × Od × Int × List AObj) (fun p => ⟨[.agg [.sl false (elems a)], .int .i64 b, .ptr 0 0, .junk, .junk, .int .i64 p.2.2.1, .junk, .junk, .junk, .junk, .sl false (elems a), .int .i64 a.len, .int .i64 p.1.len, .junk, .junk, .junk, .junk, .junk, .junk, .junk, .junk, .junk, .junk, .junk, .junk, .junk, .junk, .junk, .junk, .junk, .junk, .junk, .junk, .junk, .junk], .box 24 [.sl false (elems a)] :: p.2.2.2⟩)
    (fun p => a = p.1.app p.2.1 ∧ 0 ≤ p.2.2.1 ∧ p.2.2.1 ≤ 1000000 ∧ valS b p.2.1 p.2.2.1 = valT b a) (fun p => p.2.1.len) (.nil, a, 0, []) ⟨rfl, by simp only; omega, by simp only; omega, rfl⟩ ⟨by simp only [len, Int.natCast_zero]; repeat constructor, rfl⟩ ?_
  rintro ⟨d, r, s, X⟩ ⟨ha, h2, h3, h4⟩
  refine W.sound hmix (E := []) ?_
  simp only at ha h2 h3 h4
  cases r with
  | nil =>
    obtain ⟨e1, rfl⟩ := od_end ha
    simp only [run0, run1, run2, run3, run4, run5, run6, run7, run8, run9, run10, run11, run12, run13, run14, run15, run16, run17, run18, run19, run20, run21, run22, reduceCtorEq, Nat.reduceEqDiff, Nat.reduceAdd, Nat.reduceSub, Nat.reduceLeDiff, indexAddrA, indexRefA, appendA, strA, Nat.reduceMul, Nat.zero_mul, Nat.reduceMod, Int.reduceEq, Int.reduceLT, Int.reduceLE, Nat.reduceLT, Nat.lt_irrefl, Nat.reduceBEq, tys0, tys1, tys2, tys3, tys4, tys5, tys6, tys7, tys8, tys9, tys10, tys11, tys12, tys13, tys14, tys15, tys16, tys17, tys18, Try.ntmps61, Try.results61, elems_length, e1]
    exact Fin.eq (by rw [← h4]; rfl) rfl
  | cons e c r =>
    obtain ⟨e1, e2, e5, hlt, hn, _⟩ := od_step ha hs
    rw [ha] at ra
    have ra := rng_app ra
    have hc : 1 ≤ c ∧ c ≤ 1000000 := ⟨ra.1, ra.2.1⟩
    have hv := valS_range (b := b) hb (a := e) (s := 0) ra.2.2.1 (by omega) (by omega)
    obtain ⟨E, hE⟩ : ∃ E : Nat, valT b e = (E : Int) := ⟨(valT b e).toNat, by have : 0 ≤ valT b e := hv.1; omega⟩
    have hcv := deValue_ok e b (by omega) hb hb2 ra.2.2.1
    have hv2 : (E : Int) ≤ 1000001 := by rw [← hE]; exact hv.2
    rw [hE] at hcv
    rw [valS_cons, hE, Int.toNat_natCast] at h4
    simp only [run0, run1, run2, run3, run4, run5, run6, run7, run8, run9, run10, run11, run12, run13, run14, run15, run16, run17, run18, run19, run20, run21, run22, reduceCtorEq, Nat.reduceEqDiff, Nat.reduceAdd, Nat.reduceSub, Nat.reduceLeDiff, indexAddrA, indexRefA, appendA, strA, Nat.reduceMul, Nat.zero_mul, Nat.reduceMod, Int.reduceEq, Int.reduceLT, Int.reduceLE, Nat.reduceLT, Nat.lt_irrefl, Nat.reduceBEq, tys0, tys1, tys2, tys3, tys4, tys5, tys6, tys7, tys8, tys9, tys10, tys11, tys12, tys13, tys14, tys15, tys16, tys17, tys18, Try.ntmps61, Try.results61, elems_length, e1, e2, Int.toNat_natCast, Int.natCast_nonneg]
    refine RunL.callp rfl rfl ok_f61 (hcv) (by first | rfl | simp only [pureL, pureB, Bool.and_self, Bool.and_true, Bool.true_and, Od.elems_pure, Od.pay_pure, Od.av_pure]) rfl ?_
    by_cases hbig : (1000000 : Int) < (E : Int)
    · have hp := lt_pow hb E
      have h1 : 1 * b ^ E ≤ c * b ^ E := Int.mul_le_mul_of_nonneg_right hc.1 (by omega)
      rw [if_pos (by omega)] at h4
      simp only [run0, run1, run2, run3, run4, run5, run6, run7, run8, run9, run10, run11, run12, run13, run14, run15, run16, run17, run18, run19, run20, run21, run22, reduceCtorEq, Nat.reduceEqDiff, Nat.reduceAdd, Nat.reduceSub, Nat.reduceLeDiff, indexAddrA, indexRefA, appendA, strA, Nat.reduceMul, Nat.zero_mul, Nat.reduceMod, Int.reduceEq, Int.reduceLT, Int.reduceLE, Nat.reduceLT, Nat.lt_irrefl, Nat.reduceBEq, tys0, tys1, tys2, tys3, tys4, tys5, tys6, tys7, tys8, tys9, tys10, tys11, tys12, tys13, tys14, tys15, tys16, tys17, tys18, Try.ntmps61, Try.results61, hbig]
      exact Fin.eq (by rw [← h4]; congr 1; omega) rfl
    have hpb := partL_bound (b := b) (by omega) hb2 E 1 (by omega) (by omega)
    have hx := part_ref (b := b) hb hc.1 E
    have l1 : 1 * 1 ≤ c * partL b E 1 := Int.mul_le_mul hc.1 hpb.1 (by omega) (by omega)
    have l2 : c * partL b E 1 ≤ 1000000 * 2000000000 := Int.mul_le_mul hc.2 hpb.2 (by omega) (by omega)
    have hw : IntKind.i64.wrap (c * partL b E 1) = c * partL b E 1 := w64_id (by omega) (by omega)
    have hw2 : IntKind.i64.wrap (s + c * partL b E 1) = s + c * partL b E 1 := w64_id (by omega) (by omega)
    simp only [run0, run1, run2, run3, run4, run5, run6, run7, run8, run9, run10, run11, run12, run13, run14, run15, run16, run17, run18, run19, run20, run21, run22, reduceCtorEq, Nat.reduceEqDiff, Nat.reduceAdd, Nat.reduceSub, Nat.reduceLeDiff, indexAddrA, indexRefA, appendA, strA, Nat.reduceMul, Nat.zero_mul, Nat.reduceMod, Int.reduceEq, Int.reduceLT, Int.reduceLE, Nat.reduceLT, Nat.lt_irrefl, Nat.reduceBEq, tys0, tys1, tys2, tys3, tys4, tys5, tys6, tys7, tys8, tys9, tys10, tys11, tys12, tys13, tys14, tys15, tys16, tys17, tys18, Try.ntmps61, Try.results61, hbig]
    refine ⟨by kernel_rfl, ?_⟩
    refine RunL.callp rfl rfl ok_f97 (dePower_ok b E hb hb2 (by omega)) (by first | rfl | simp only [pureL, pureB, Bool.and_self, Bool.and_true, Bool.true_and, Od.elems_pure, Od.pay_pure, Od.av_pure]) rfl ?_
    simp only [run0, run1, run2, run3, run4, run5, run6, run7, run8, run9, run10, run11, run12, run13, run14, run15, run16, run17, run18, run19, run20, run21, run22, reduceCtorEq, Nat.reduceEqDiff, Nat.reduceAdd, Nat.reduceSub, Nat.reduceLeDiff, indexAddrA, indexRefA, appendA, strA, Nat.reduceMul, Nat.zero_mul, Nat.reduceMod, Int.reduceEq, Int.reduceLT, Int.reduceLE, Nat.reduceLT, Nat.lt_irrefl, Nat.reduceBEq, tys0, tys1, tys2, tys3, tys4, tys5, tys6, tys7, tys8, tys9, tys10, tys11, tys12, tys13, tys14, tys15, tys16, tys17, tys18, Try.ntmps61, Try.results61, hw, hw2]
    by_cases hg : 1000000 < s + c * partL b E 1
    · have hg2 : 1000000 < s + c * b ^ E := by
        by_cases hl : c * b ^ E ≤ 1000000
        · rw [hx.1 hl] at hg; exact hg
        · omega
      rw [if_pos hg2] at h4
      simp only [run0, run1, run2, run3, run4, run5, run6, run7, run8, run9, run10, run11, run12, run13, run14, run15, run16, run17, run18, run19, run20, run21, run22, reduceCtorEq, Nat.reduceEqDiff, Nat.reduceAdd, Nat.reduceSub, Nat.reduceLeDiff, indexAddrA, indexRefA, appendA, strA, Nat.reduceMul, Nat.zero_mul, Nat.reduceMod, Int.reduceEq, Int.reduceLT, Int.reduceLE, Nat.reduceLT, Nat.lt_irrefl, Nat.reduceBEq, tys0, tys1, tys2, tys3, tys4, tys5, tys6, tys7, tys8, tys9, tys10, tys11, tys12, tys13, tys14, tys15, tys16, tys17, tys18, Try.ntmps61, Try.results61, hg]
      exact Fin.eq (by rw [← h4]) rfl
    · have hl : c * b ^ E ≤ 1000000 := by
        refine Decidable.byContradiction fun hl => ?_
        have := hx.2 (by omega); omega
      rw [hx.1 hl] at hg l1 ⊢
      rw [if_neg hg] at h4
      simp only [run0, run1, run2, run3, run4, run5, run6, run7, run8, run9, run10, run11, run12, run13, run14, run15, run16, run17, run18, run19, run20, run21, run22, reduceCtorEq, Nat.reduceEqDiff, Nat.reduceAdd, Nat.reduceSub, Nat.reduceLeDiff, indexAddrA, indexRefA, appendA, strA, Nat.reduceMul, Nat.zero_mul, Nat.reduceMod, Int.reduceEq, Int.reduceLT, Int.reduceLE, Nat.reduceLT, Nat.lt_irrefl, Nat.reduceBEq, tys0, tys1, tys2, tys3, tys4, tys5, tys6, tys7, tys8, tys9, tys10, tys11, tys12, tys13, tys14, tys15, tys16, tys17, tys18, Try.ntmps61, Try.results61, hg, e5]
      exact ⟨(d.app (cons e c nil), r, s + c * b ^ E, _), ⟨hn.symm, by simp only; omega, by simp only; omega, h4⟩, by simp [len], by repeat constructor, rfl⟩
termination_by a.sz

theorem deDigits_ok (a : Od) (b : Int) (hs : a.sz ≤ 1048576) : Ct Try.prog 60 [av a, .int .i64 b] [] (.bool (digT b a)) [] := by
  refine Ct.by_ hmix [] Try.func60 rfl ?_
  simp only [run0, run1, run2, run3, run4, run5, run6, run7, run8, run9, run10, run11, run12, run13, run14, run15, run16, run17, run18, run19, run20, run21, run22, reduceCtorEq, Nat.reduceEqDiff, Nat.reduceAdd, Nat.reduceSub, Nat.reduceLeDiff, indexAddrA, indexRefA, appendA, strA, Nat.reduceMul, Nat.zero_mul, Nat.reduceMod, Int.reduceEq, Int.reduceLT, Int.reduceLE, Nat.reduceLT, Nat.lt_irrefl, Nat.reduceBEq, tys0, tys1, tys2, tys3, tys4, tys5, tys6, tys7, tys8, tys9, tys10, tys11, tys12, tys13, tys14, tys15, tys16, tys17, tys18, Try.ntmps60, Try.results60, av, elems_length]
  refine AWp.loop_inv (ι := Od × Od × List AObj) (fun p => ⟨[.agg [.sl false (elems a)], .int .i64 b, .ptr 0 0, .junk, .bool false, .junk, .junk, .junk, .sl false (elems a), .int .i64 a.len, .int .i64 p.1.len, .junk, .junk, .junk, .junk, .junk, .junk, .junk, .junk, .junk, .junk, .junk, .junk, .junk, .junk, .junk], .box 24 [.sl false (elems a)] :: p.2.2⟩)
    (fun p => a = p.1.app p.2.1 ∧ digT b p.2.1 = digT b a) (fun p => p.2.1.len) (.nil, a, []) ⟨rfl, rfl⟩ ⟨by simp only [len, Int.natCast_zero]; repeat constructor, rfl⟩ ?_
  rintro ⟨d, r, X⟩ ⟨ha, h4⟩
  refine W.sound hmix (E := []) ?_
  simp only at ha h4
  cases r with
  | nil =>
    obtain ⟨e1, rfl⟩ := od_end ha
    simp only [run0, run1, run2, run3, run4, run5, run6, run7, run8, run9, run10, run11, run12, run13, run14, run15, run16, run17, run18, run19, run20, run21, run22, reduceCtorEq, Nat.reduceEqDiff, Nat.reduceAdd, Nat.reduceSub, Nat.reduceLeDiff, indexAddrA, indexRefA, appendA, strA, Nat.reduceMul, Nat.zero_mul, Nat.reduceMod, Int.reduceEq, Int.reduceLT, Int.reduceLE, Nat.reduceLT, Nat.lt_irrefl, Nat.reduceBEq, tys0, tys1, tys2, tys3, tys4, tys5, tys6, tys7, tys8, tys9, tys10, tys11, tys12, tys13, tys14, tys15, tys16, tys17, tys18, Try.ntmps60, Try.results60, elems_length, e1]
    exact Fin.eq (by rw [← h4]; rfl) rfl
  | cons e c r =>
    obtain ⟨e1, e2, e5, hlt, hn, _⟩ := od_step ha hs
    simp only [digT] at h4
    simp only [run0, run1, run2, run3, run4, run5, run6, run7, run8, run9, run10, run11, run12, run13, run14, run15, run16, run17, run18, run19, run20, run21, run22, reduceCtorEq, Nat.reduceEqDiff, Nat.reduceAdd, Nat.reduceSub, Nat.reduceLeDiff, indexAddrA, indexRefA, appendA, strA, Nat.reduceMul, Nat.zero_mul, Nat.reduceMod, Int.reduceEq, Int.reduceLT, Int.reduceLE, Nat.reduceLT, Nat.lt_irrefl, Nat.reduceBEq, tys0, tys1, tys2, tys3, tys4, tys5, tys6, tys7, tys8, tys9, tys10, tys11, tys12, tys13, tys14, tys15, tys16, tys17, tys18, Try.ntmps60, Try.results60, elems_length, e1, e2, Int.toNat_natCast, Int.natCast_nonneg]
    by_cases hc : b ≤ c
    · simp only [run0, run1, run2, run3, run4, run5, run6, run7, run8, run9, run10, run11, run12, run13, run14, run15, run16, run17, run18, run19, run20, run21, run22, reduceCtorEq, Nat.reduceEqDiff, Nat.reduceAdd, Nat.reduceSub, Nat.reduceLeDiff, indexAddrA, indexRefA, appendA, strA, Nat.reduceMul, Nat.zero_mul, Nat.reduceMod, Int.reduceEq, Int.reduceLT, Int.reduceLE, Nat.reduceLT, Nat.lt_irrefl, Nat.reduceBEq, tys0, tys1, tys2, tys3, tys4, tys5, tys6, tys7, tys8, tys9, tys10, tys11, tys12, tys13, tys14, tys15, tys16, tys17, tys18, Try.ntmps60, Try.results60, hc]
      exact Fin.eq (by rw [← h4]; simp [hc]) rfl
    · simp only [run0, run1, run2, run3, run4, run5, run6, run7, run8, run9, run10, run11, run12, run13, run14, run15, run16, run17, run18, run19, run20, run21, run22, reduceCtorEq, Nat.reduceEqDiff, Nat.reduceAdd, Nat.reduceSub, Nat.reduceLeDiff, indexAddrA, indexRefA, appendA, strA, Nat.reduceMul, Nat.zero_mul, Nat.reduceMod, Int.reduceEq, Int.reduceLT, Int.reduceLE, Nat.reduceLT, Nat.lt_irrefl, Nat.reduceBEq, tys0, tys1, tys2, tys3, tys4, tys5, tys6, tys7, tys8, tys9, tys10, tys11, tys12, tys13, tys14, tys15, tys16, tys17, tys18, Try.ntmps60, Try.results60, hc]
      refine RunL.callp rfl rfl ok_f60 (deDigits_ok e b (by omega)) (by first | rfl | simp only [pureL, pureB, Bool.and_self, Bool.and_true, Bool.true_and, Od.elems_pure, Od.pay_pure, Od.av_pure]) rfl ?_
      cases hd : digT b e
      · simp only [run0, run1, run2, run3, run4, run5, run6, run7, run8, run9, run10, run11, run12, run13, run14, run15, run16, run17, run18, run19, run20, run21, run22, reduceCtorEq, Nat.reduceEqDiff, Nat.reduceAdd, Nat.reduceSub, Nat.reduceLeDiff, indexAddrA, indexRefA, appendA, strA, Nat.reduceMul, Nat.zero_mul, Nat.reduceMod, Int.reduceEq, Int.reduceLT, Int.reduceLE, Nat.reduceLT, Nat.lt_irrefl, Nat.reduceBEq, tys0, tys1, tys2, tys3, tys4, tys5, tys6, tys7, tys8, tys9, tys10, tys11, tys12, tys13, tys14, tys15, tys16, tys17, tys18, Try.ntmps60, Try.results60, hd]
        exact Fin.eq (by rw [← h4, hd]; simp) rfl
      · rw [hd] at h4
        simp only [run0, run1, run2, run3, run4, run5, run6, run7, run8, run9, run10, run11, run12, run13, run14, run15, run16, run17, run18, run19, run20, run21, run22, reduceCtorEq, Nat.reduceEqDiff, Nat.reduceAdd, Nat.reduceSub, Nat.reduceLeDiff, indexAddrA, indexRefA, appendA, strA, Nat.reduceMul, Nat.zero_mul, Nat.reduceMod, Int.reduceEq, Int.reduceLT, Int.reduceLE, Nat.reduceLT, Nat.lt_irrefl, Nat.reduceBEq, tys0, tys1, tys2, tys3, tys4, tys5, tys6, tys7, tys8, tys9, tys10, tys11, tys12, tys13, tys14, tys15, tys16, tys17, tys18, Try.ntmps60, Try.results60, hd, e5]
        exact ⟨(d.app (cons e c nil), r, _), ⟨hn.symm, by simpa [hc] using h4⟩, by simp [len], by repeat constructor, rfl⟩
termination_by a.sz

/-- The first term that is not right. -/
def firstT (b : Int) : Od → Int → Int
  | .nil, _ => -1
  | .cons e c r, i => if decide (b ≤ c) || !digT b e then i else firstT b r (i + 1)
theorem firstT_cons (b : Int) (e r : Od) (c i : Int) : firstT b (.cons e c r) i = if decide (b ≤ c) || !digT b e then i else firstT b r (i + 1) := rfl
theorem firstT_dig (b : Int) : ∀ (a : Od) (i : Int), 0 ≤ i → decide (0 ≤ firstT b a i) = !digT b a
  | .nil, i, _ => rfl
  | .cons e c r, i, h => by
    have ih := firstT_dig b r (i + 1) (by omega)
    rw [firstT_cons]
    simp only [digT]
    cases h1 : decide (b ≤ c) <;> cases h2 : digT b e
    · simpa using h
    · simpa using ih
    · simpa using h
    · simpa using h
theorem closD_of {e : Od} {c b : Int} (h : Ct Try.prog 64 [av e, .int .i64 b] [] (.bool (digT b e)) []) :
    Ct Try.prog 101 [.agg [.sl false (elems e), .int .i64 c], .rptr (.agg [.int .i64 b]) 0] [] (.bool (decide (b ≤ c) || !digT b e)) [] := by
  refine Ct.by_ hmix [] Try.func101 rfl ?_
  simp only [run0, run1, run2, run3, run4, run5, run6, run7, run8, run9, run10, run11, run12, run13, run14, run15, run16, run17, run18, run19, run20, run21, run22, reduceCtorEq, Nat.reduceEqDiff, Nat.reduceAdd, Nat.reduceSub, Nat.reduceLeDiff, indexAddrA, indexRefA, appendA, strA, Nat.reduceMul, Nat.zero_mul, Nat.reduceMod, Int.reduceEq, Int.reduceLT, Int.reduceLE, Nat.reduceLT, Nat.lt_irrefl, Nat.reduceBEq, tys0, tys1, tys2, tys3, tys4, tys5, tys6, tys7, tys8, tys9, tys10, tys11, tys12, tys13, tys14, tys15, tys16, tys17, tys18, Try.ntmps101, Try.results101]
  by_cases hc : b ≤ c
  · simp only [run0, run1, run2, run3, run4, run5, run6, run7, run8, run9, run10, run11, run12, run13, run14, run15, run16, run17, run18, run19, run20, run21, run22, reduceCtorEq, Nat.reduceEqDiff, Nat.reduceAdd, Nat.reduceSub, Nat.reduceLeDiff, indexAddrA, indexRefA, appendA, strA, Nat.reduceMul, Nat.zero_mul, Nat.reduceMod, Int.reduceEq, Int.reduceLT, Int.reduceLE, Nat.reduceLT, Nat.lt_irrefl, Nat.reduceBEq, tys0, tys1, tys2, tys3, tys4, tys5, tys6, tys7, tys8, tys9, tys10, tys11, tys12, tys13, tys14, tys15, tys16, tys17, tys18, Try.ntmps101, Try.results101, hc]
    exact Fin.eq (by simp [hc]) rfl
  · simp only [run0, run1, run2, run3, run4, run5, run6, run7, run8, run9, run10, run11, run12, run13, run14, run15, run16, run17, run18, run19, run20, run21, run22, reduceCtorEq, Nat.reduceEqDiff, Nat.reduceAdd, Nat.reduceSub, Nat.reduceLeDiff, indexAddrA, indexRefA, appendA, strA, Nat.reduceMul, Nat.zero_mul, Nat.reduceMod, Int.reduceEq, Int.reduceLT, Int.reduceLE, Nat.reduceLT, Nat.lt_irrefl, Nat.reduceBEq, tys0, tys1, tys2, tys3, tys4, tys5, tys6, tys7, tys8, tys9, tys10, tys11, tys12, tys13, tys14, tys15, tys16, tys17, tys18, Try.ntmps101, Try.results101, hc]
    refine RunL.callp rfl rfl ok_f64 (h) (by first | rfl | simp only [pureL, pureB, Bool.and_self, Bool.and_true, Bool.true_and, Od.elems_pure, Od.pay_pure, Od.av_pure]) rfl ?_
    simp only [run0, run1, run2, run3, run4, run5, run6, run7, run8, run9, run10, run11, run12, run13, run14, run15, run16, run17, run18, run19, run20, run21, run22, reduceCtorEq, Nat.reduceEqDiff, Nat.reduceAdd, Nat.reduceSub, Nat.reduceLeDiff, indexAddrA, indexRefA, appendA, strA, Nat.reduceMul, Nat.zero_mul, Nat.reduceMod, Int.reduceEq, Int.reduceLT, Int.reduceLE, Nat.reduceLT, Nat.lt_irrefl, Nat.reduceBEq, tys0, tys1, tys2, tys3, tys4, tys5, tys6, tys7, tys8, tys9, tys10, tys11, tys12, tys13, tys14, tys15, tys16, tys17, tys18, Try.ntmps101, Try.results101]
    exact Fin.eq (by simp [hc]) rfl
theorem indexD_of {a : Od} {b : Int} (hs : a.sz ≤ 1048576) (h : ∀ e : Od, e.sz < a.sz → Ct Try.prog 64 [av e, .int .i64 b] [] (.bool (digT b e)) []) :
    Ct Try.prog 120 [.sl false (elems a), .fn 101 [.rptr (.agg [.int .i64 b]) 0]] [] (.int .i64 (firstT b a 0)) [] := by
  refine Ct.by_ hmix [] Try.func120 rfl ?_
  simp only [run0, run1, run2, run3, run4, run5, run6, run7, run8, run9, run10, run11, run12, run13, run14, run15, run16, run17, run18, run19, run20, run21, run22, reduceCtorEq, Nat.reduceEqDiff, Nat.reduceAdd, Nat.reduceSub, Nat.reduceLeDiff, indexAddrA, indexRefA, appendA, strA, Nat.reduceMul, Nat.zero_mul, Nat.reduceMod, Int.reduceEq, Int.reduceLT, Int.reduceLE, Nat.reduceLT, Nat.lt_irrefl, Nat.reduceBEq, tys0, tys1, tys2, tys3, tys4, tys5, tys6, tys7, tys8, tys9, tys10, tys11, tys12, tys13, tys14, tys15, tys16, tys17, tys18, Try.ntmps120, Try.results120, elems_length]
  refine AWp.loop_inv (ι := Od × Od) (fun p => ⟨[.sl false (elems a), .fn 101 [.rptr (.agg [.int .i64 b]) 0], .junk, .junk, .int .i64 0, .junk, .junk, .int .i64 a.len, .int .i64 p.1.len, .junk, .junk, .junk, .junk, .junk, .junk, .junk, .junk, .junk, .junk], []⟩)
    (fun p => a = p.1.app p.2 ∧ firstT b p.2 p.1.len = firstT b a 0) (fun p => p.2.len) (.nil, a) ⟨rfl, rfl⟩ ⟨by simp only [len, Int.natCast_zero]; repeat constructor, rfl⟩ ?_
  rintro ⟨d, r⟩ ⟨ha, h4⟩
  refine W.sound hmix (E := []) ?_
  simp only at ha h4
  cases r with
  | nil =>
    obtain ⟨e1, rfl⟩ := od_end ha
    simp only [run0, run1, run2, run3, run4, run5, run6, run7, run8, run9, run10, run11, run12, run13, run14, run15, run16, run17, run18, run19, run20, run21, run22, reduceCtorEq, Nat.reduceEqDiff, Nat.reduceAdd, Nat.reduceSub, Nat.reduceLeDiff, indexAddrA, indexRefA, appendA, strA, Nat.reduceMul, Nat.zero_mul, Nat.reduceMod, Int.reduceEq, Int.reduceLT, Int.reduceLE, Nat.reduceLT, Nat.lt_irrefl, Nat.reduceBEq, tys0, tys1, tys2, tys3, tys4, tys5, tys6, tys7, tys8, tys9, tys10, tys11, tys12, tys13, tys14, tys15, tys16, tys17, tys18, Try.ntmps120, Try.results120, elems_length, e1]
    exact Fin.eq (by rw [← h4]; rfl) rfl
  | cons e c r =>
    obtain ⟨e1, e2, e5, hlt, hn, _⟩ := od_step ha hs
    have hd1 : ((d.app (cons e c nil)).len : Int) = (d.len : Int) + 1 := by rw [len_app]; simp [len]
    simp only [run0, run1, run2, run3, run4, run5, run6, run7, run8, run9, run10, run11, run12, run13, run14, run15, run16, run17, run18, run19, run20, run21, run22, reduceCtorEq, Nat.reduceEqDiff, Nat.reduceAdd, Nat.reduceSub, Nat.reduceLeDiff, indexAddrA, indexRefA, appendA, strA, Nat.reduceMul, Nat.zero_mul, Nat.reduceMod, Int.reduceEq, Int.reduceLT, Int.reduceLE, Nat.reduceLT, Nat.lt_irrefl, Nat.reduceBEq, tys0, tys1, tys2, tys3, tys4, tys5, tys6, tys7, tys8, tys9, tys10, tys11, tys12, tys13, tys14, tys15, tys16, tys17, tys18, Try.ntmps120, Try.results120, elems_length, e1, e2, Int.toNat_natCast, Int.natCast_nonneg]
    refine RunL.callcp rfl rfl rfl ok_f101 rfl (closD_of (c := c) (h e hlt)) (by first | rfl | simp only [pureL, pureB, Bool.and_self, Bool.and_true, Bool.true_and, Od.elems_pure, Od.pay_pure, Od.av_pure]) rfl ?_
    simp only [run0, run1, run2, run3, run4, run5, run6, run7, run8, run9, run10, run11, run12, run13, run14, run15, run16, run17, run18, run19, run20, run21, run22, reduceCtorEq, Nat.reduceEqDiff, Nat.reduceAdd, Nat.reduceSub, Nat.reduceLeDiff, indexAddrA, indexRefA, appendA, strA, Nat.reduceMul, Nat.zero_mul, Nat.reduceMod, Int.reduceEq, Int.reduceLT, Int.reduceLE, Nat.reduceLT, Nat.lt_irrefl, Nat.reduceBEq, tys0, tys1, tys2, tys3, tys4, tys5, tys6, tys7, tys8, tys9, tys10, tys11, tys12, tys13, tys14, tys15, tys16, tys17, tys18, Try.ntmps120, Try.results120]
    rw [firstT_cons] at h4
    cases hd : (decide (b ≤ c) || !digT b e)
    · rw [hd] at h4
      simp only [run0, run1, run2, run3, run4, run5, run6, run7, run8, run9, run10, run11, run12, run13, run14, run15, run16, run17, run18, run19, run20, run21, run22, reduceCtorEq, Nat.reduceEqDiff, Nat.reduceAdd, Nat.reduceSub, Nat.reduceLeDiff, indexAddrA, indexRefA, appendA, strA, Nat.reduceMul, Nat.zero_mul, Nat.reduceMod, Int.reduceEq, Int.reduceLT, Int.reduceLE, Nat.reduceLT, Nat.lt_irrefl, Nat.reduceBEq, tys0, tys1, tys2, tys3, tys4, tys5, tys6, tys7, tys8, tys9, tys10, tys11, tys12, tys13, tys14, tys15, tys16, tys17, tys18, Try.ntmps120, Try.results120, hd, e5]
      exact ⟨(d.app (cons e c nil), r), ⟨hn.symm, by simp only [hd1]; simpa using h4⟩, by simp [len], by repeat constructor⟩
    · rw [hd] at h4
      simp only [run0, run1, run2, run3, run4, run5, run6, run7, run8, run9, run10, run11, run12, run13, run14, run15, run16, run17, run18, run19, run20, run21, run22, reduceCtorEq, Nat.reduceEqDiff, Nat.reduceAdd, Nat.reduceSub, Nat.reduceLeDiff, indexAddrA, indexRefA, appendA, strA, Nat.reduceMul, Nat.zero_mul, Nat.reduceMod, Int.reduceEq, Int.reduceLT, Int.reduceLE, Nat.reduceLT, Nat.lt_irrefl, Nat.reduceBEq, tys0, tys1, tys2, tys3, tys4, tys5, tys6, tys7, tys8, tys9, tys10, tys11, tys12, tys13, tys14, tys15, tys16, tys17, tys18, Try.ntmps120, Try.results120, hd]
      exact Fin.eq (by rw [← h4]; simp) rfl
theorem digitsBelow_ok (a : Od) (b : Int) (hs : a.sz ≤ 1048576) : Ct Try.prog 64 [av a, .int .i64 b] [] (.bool (digT b a)) [] := by
  have hc : Ct Try.prog 100 [.sl false (elems a), .fn 101 [.rptr (.agg [.int .i64 b]) 0]] [] (.bool (!digT b a)) [] := by
    refine Ct.by_ hmix [] Try.func100 rfl ?_
    simp only [run0, run1, run2, run3, run4, run5, run6, run7, run8, run9, run10, run11, run12, run13, run14, run15, run16, run17, run18, run19, run20, run21, run22, reduceCtorEq, Nat.reduceEqDiff, Nat.reduceAdd, Nat.reduceSub, Nat.reduceLeDiff, indexAddrA, indexRefA, appendA, strA, Nat.reduceMul, Nat.zero_mul, Nat.reduceMod, Int.reduceEq, Int.reduceLT, Int.reduceLE, Nat.reduceLT, Nat.lt_irrefl, Nat.reduceBEq, tys0, tys1, tys2, tys3, tys4, tys5, tys6, tys7, tys8, tys9, tys10, tys11, tys12, tys13, tys14, tys15, tys16, tys17, tys18, Try.ntmps100, Try.results100]
    refine RunL.callp rfl rfl ok_f120 (indexD_of hs (fun e he => digitsBelow_ok e b (by omega))) (by first | rfl | simp only [pureL, pureB, Bool.and_self, Bool.and_true, Bool.true_and, Od.elems_pure, Od.pay_pure, Od.av_pure]) rfl ?_
    simp only [run0, run1, run2, run3, run4, run5, run6, run7, run8, run9, run10, run11, run12, run13, run14, run15, run16, run17, run18, run19, run20, run21, run22, reduceCtorEq, Nat.reduceEqDiff, Nat.reduceAdd, Nat.reduceSub, Nat.reduceLeDiff, indexAddrA, indexRefA, appendA, strA, Nat.reduceMul, Nat.zero_mul, Nat.reduceMod, Int.reduceEq, Int.reduceLT, Int.reduceLE, Nat.reduceLT, Nat.lt_irrefl, Nat.reduceBEq, tys0, tys1, tys2, tys3, tys4, tys5, tys6, tys7, tys8, tys9, tys10, tys11, tys12, tys13, tys14, tys15, tys16, tys17, tys18, Try.ntmps100, Try.results100]
    exact Fin.eq (by rw [firstT_dig b a 0 (by omega)]) rfl
  refine Ct.by_ hmix [] Try.func64 rfl ?_
  simp only [run0, run1, run2, run3, run4, run5, run6, run7, run8, run9, run10, run11, run12, run13, run14, run15, run16, run17, run18, run19, run20, run21, run22, reduceCtorEq, Nat.reduceEqDiff, Nat.reduceAdd, Nat.reduceSub, Nat.reduceLeDiff, indexAddrA, indexRefA, appendA, strA, Nat.reduceMul, Nat.zero_mul, Nat.reduceMod, Int.reduceEq, Int.reduceLT, Int.reduceLE, Nat.reduceLT, Nat.lt_irrefl, Nat.reduceBEq, tys0, tys1, tys2, tys3, tys4, tys5, tys6, tys7, tys8, tys9, tys10, tys11, tys12, tys13, tys14, tys15, tys16, tys17, tys18, Try.ntmps64, Try.results64, av]
  refine RunL.lendV (ys := [.sl false (elems a), .fn 101 [.rptr (.agg [.int .i64 b]) 0]]) rfl rfl ok_f100 rfl hc (.cons (.pur (.of (by simp only [pureB, elems_pure]))) (.cons (Vw.fn (.cons (Vw.ptr rfl rfl) .nil)) .nil)) rfl rfl ?_
  simp only [run0, run1, run2, run3, run4, run5, run6, run7, run8, run9, run10, run11, run12, run13, run14, run15, run16, run17, run18, run19, run20, run21, run22, reduceCtorEq, Nat.reduceEqDiff, Nat.reduceAdd, Nat.reduceSub, Nat.reduceLeDiff, indexAddrA, indexRefA, appendA, strA, Nat.reduceMul, Nat.zero_mul, Nat.reduceMod, Int.reduceEq, Int.reduceLT, Int.reduceLE, Nat.reduceLT, Nat.lt_irrefl, Nat.reduceBEq, tys0, tys1, tys2, tys3, tys4, tys5, tys6, tys7, tys8, tys9, tys10, tys11, tys12, tys13, tys14, tys15, tys16, tys17, tys18, Try.ntmps64, Try.results64]
  exact Fin.eq (by simp) rfl
termination_by a.sz

/-! ### the law -/
def herOk (b : Int) (a : Od) : Bool := goodT a && inB b 2 1000 && digT b a && !decide (1000000 < valT b a)
theorem inB_spec {n lo hi : Int} (h : inB n lo hi = true) : lo ≤ n ∧ n ≤ hi := by simpa [inB] using h
theorem implHer_ok (a : Od) (b : Int) (hs : a.sz ≤ 1048576) : Ct Try.prog 20 [av a, .int .i64 b] [] (.tup [.int .i64 (if herOk b a then valT b a else 0), .bool (herOk b a)]) [] := by
  have hbo : Ct Try.prog 51 [.int .i64 b] [] (.bool (inB b 2 1000)) [] := by
    refine Ct.by_ hmix [] Try.func51 rfl ?_
    simp only [run0, run1, run2, run3, run4, run5, run6, run7, run8, run9, run10, run11, run12, run13, run14, run15, run16, run17, run18, run19, run20, run21, run22, reduceCtorEq, Nat.reduceEqDiff, Nat.reduceAdd, Nat.reduceSub, Nat.reduceLeDiff, indexAddrA, indexRefA, appendA, strA, Nat.reduceMul, Nat.zero_mul, Nat.reduceMod, Int.reduceEq, Int.reduceLT, Int.reduceLE, Nat.reduceLT, Nat.lt_irrefl, Nat.reduceBEq, tys0, tys1, tys2, tys3, tys4, tys5, tys6, tys7, tys8, tys9, tys10, tys11, tys12, tys13, tys14, tys15, tys16, tys17, tys18, Try.ntmps51, Try.results51]
    refine RunL.callp rfl rfl ok_f50 (in_ok b 2 1000) (by first | rfl | simp only [pureL, pureB, Bool.and_self, Bool.and_true, Bool.true_and, Od.elems_pure, Od.pay_pure, Od.av_pure]) rfl ?_
    simp only [run0, run1, run2, run3, run4, run5, run6, run7, run8, run9, run10, run11, run12, run13, run14, run15, run16, run17, run18, run19, run20, run21, run22, reduceCtorEq, Nat.reduceEqDiff, Nat.reduceAdd, Nat.reduceSub, Nat.reduceLeDiff, indexAddrA, indexRefA, appendA, strA, Nat.reduceMul, Nat.zero_mul, Nat.reduceMod, Int.reduceEq, Int.reduceLT, Int.reduceLE, Nat.reduceLT, Nat.lt_irrefl, Nat.reduceBEq, tys0, tys1, tys2, tys3, tys4, tys5, tys6, tys7, tys8, tys9, tys10, tys11, tys12, tys13, tys14, tys15, tys16, tys17, tys18, Try.ntmps51, Try.results51]
    exact Fin.eq rfl rfl
  refine Ct.by_ hmix [] Try.func20 rfl ?_
  simp only [run0, run1, run2, run3, run4, run5, run6, run7, run8, run9, run10, run11, run12, run13, run14, run15, run16, run17, run18, run19, run20, run21, run22, reduceCtorEq, Nat.reduceEqDiff, Nat.reduceAdd, Nat.reduceSub, Nat.reduceLeDiff, indexAddrA, indexRefA, appendA, strA, Nat.reduceMul, Nat.zero_mul, Nat.reduceMod, Int.reduceEq, Int.reduceLT, Int.reduceLE, Nat.reduceLT, Nat.lt_irrefl, Nat.reduceBEq, tys0, tys1, tys2, tys3, tys4, tys5, tys6, tys7, tys8, tys9, tys10, tys11, tys12, tys13, tys14, tys15, tys16, tys17, tys18, Try.ntmps20, Try.results20, av]
  refine RunL.callp rfl rfl ok_f63 (IsOrdinal_ok a hs) (by first | rfl | simp only [pureL, pureB, Bool.and_self, Bool.and_true, Bool.true_and, Od.elems_pure, Od.pay_pure, Od.av_pure]) rfl ?_
  cases h1 : goodT a
  · simp only [run0, run1, run2, run3, run4, run5, run6, run7, run8, run9, run10, run11, run12, run13, run14, run15, run16, run17, run18, run19, run20, run21, run22, reduceCtorEq, Nat.reduceEqDiff, Nat.reduceAdd, Nat.reduceSub, Nat.reduceLeDiff, indexAddrA, indexRefA, appendA, strA, Nat.reduceMul, Nat.zero_mul, Nat.reduceMod, Int.reduceEq, Int.reduceLT, Int.reduceLE, Nat.reduceLT, Nat.lt_irrefl, Nat.reduceBEq, tys0, tys1, tys2, tys3, tys4, tys5, tys6, tys7, tys8, tys9, tys10, tys11, tys12, tys13, tys14, tys15, tys16, tys17, tys18, Try.ntmps20, Try.results20, h1]
    exact Fin.eq (by simp [herOk, h1]) rfl
  simp only [run0, run1, run2, run3, run4, run5, run6, run7, run8, run9, run10, run11, run12, run13, run14, run15, run16, run17, run18, run19, run20, run21, run22, reduceCtorEq, Nat.reduceEqDiff, Nat.reduceAdd, Nat.reduceSub, Nat.reduceLeDiff, indexAddrA, indexRefA, appendA, strA, Nat.reduceMul, Nat.zero_mul, Nat.reduceMod, Int.reduceEq, Int.reduceLT, Int.reduceLE, Nat.reduceLT, Nat.lt_irrefl, Nat.reduceBEq, tys0, tys1, tys2, tys3, tys4, tys5, tys6, tys7, tys8, tys9, tys10, tys11, tys12, tys13, tys14, tys15, tys16, tys17, tys18, Try.ntmps20, Try.results20, h1]
  refine RunL.callp rfl rfl ok_f51 (hbo) (by first | rfl | simp only [pureL, pureB, Bool.and_self, Bool.and_true, Bool.true_and, Od.elems_pure, Od.pay_pure, Od.av_pure]) rfl ?_
  cases h2 : inB b 2 1000
  · simp only [run0, run1, run2, run3, run4, run5, run6, run7, run8, run9, run10, run11, run12, run13, run14, run15, run16, run17, run18, run19, run20, run21, run22, reduceCtorEq, Nat.reduceEqDiff, Nat.reduceAdd, Nat.reduceSub, Nat.reduceLeDiff, indexAddrA, indexRefA, appendA, strA, Nat.reduceMul, Nat.zero_mul, Nat.reduceMod, Int.reduceEq, Int.reduceLT, Int.reduceLE, Nat.reduceLT, Nat.lt_irrefl, Nat.reduceBEq, tys0, tys1, tys2, tys3, tys4, tys5, tys6, tys7, tys8, tys9, tys10, tys11, tys12, tys13, tys14, tys15, tys16, tys17, tys18, Try.ntmps20, Try.results20, h2]
    exact Fin.eq (by simp [herOk, h2]) rfl
  obtain ⟨b1, b2⟩ := inB_spec h2
  simp only [run0, run1, run2, run3, run4, run5, run6, run7, run8, run9, run10, run11, run12, run13, run14, run15, run16, run17, run18, run19, run20, run21, run22, reduceCtorEq, Nat.reduceEqDiff, Nat.reduceAdd, Nat.reduceSub, Nat.reduceLeDiff, indexAddrA, indexRefA, appendA, strA, Nat.reduceMul, Nat.zero_mul, Nat.reduceMod, Int.reduceEq, Int.reduceLT, Int.reduceLE, Nat.reduceLT, Nat.lt_irrefl, Nat.reduceBEq, tys0, tys1, tys2, tys3, tys4, tys5, tys6, tys7, tys8, tys9, tys10, tys11, tys12, tys13, tys14, tys15, tys16, tys17, tys18, Try.ntmps20, Try.results20, h2]
  refine RunL.callp rfl rfl ok_f64 (digitsBelow_ok a b hs) (by first | rfl | simp only [pureL, pureB, Bool.and_self, Bool.and_true, Bool.true_and, Od.elems_pure, Od.pay_pure, Od.av_pure]) rfl ?_
  cases h3 : digT b a
  · simp only [run0, run1, run2, run3, run4, run5, run6, run7, run8, run9, run10, run11, run12, run13, run14, run15, run16, run17, run18, run19, run20, run21, run22, reduceCtorEq, Nat.reduceEqDiff, Nat.reduceAdd, Nat.reduceSub, Nat.reduceLeDiff, indexAddrA, indexRefA, appendA, strA, Nat.reduceMul, Nat.zero_mul, Nat.reduceMod, Int.reduceEq, Int.reduceLT, Int.reduceLE, Nat.reduceLT, Nat.lt_irrefl, Nat.reduceBEq, tys0, tys1, tys2, tys3, tys4, tys5, tys6, tys7, tys8, tys9, tys10, tys11, tys12, tys13, tys14, tys15, tys16, tys17, tys18, Try.ntmps20, Try.results20, h3]
    exact Fin.eq (by simp [herOk, h3]) rfl
  simp only [run0, run1, run2, run3, run4, run5, run6, run7, run8, run9, run10, run11, run12, run13, run14, run15, run16, run17, run18, run19, run20, run21, run22, reduceCtorEq, Nat.reduceEqDiff, Nat.reduceAdd, Nat.reduceSub, Nat.reduceLeDiff, indexAddrA, indexRefA, appendA, strA, Nat.reduceMul, Nat.zero_mul, Nat.reduceMod, Int.reduceEq, Int.reduceLT, Int.reduceLE, Nat.reduceLT, Nat.lt_irrefl, Nat.reduceBEq, tys0, tys1, tys2, tys3, tys4, tys5, tys6, tys7, tys8, tys9, tys10, tys11, tys12, tys13, tys14, tys15, tys16, tys17, tys18, Try.ntmps20, Try.results20, h3]
  refine RunL.callp rfl rfl ok_f65 (valueOf_ok a b hs b1 (by omega) (goodT_rng h1)) (by first | rfl | simp only [pureL, pureB, Bool.and_self, Bool.and_true, Bool.true_and, Od.elems_pure, Od.pay_pure, Od.av_pure]) rfl ?_
  by_cases h4 : 1000000 < valT b a
  · simp only [run0, run1, run2, run3, run4, run5, run6, run7, run8, run9, run10, run11, run12, run13, run14, run15, run16, run17, run18, run19, run20, run21, run22, reduceCtorEq, Nat.reduceEqDiff, Nat.reduceAdd, Nat.reduceSub, Nat.reduceLeDiff, indexAddrA, indexRefA, appendA, strA, Nat.reduceMul, Nat.zero_mul, Nat.reduceMod, Int.reduceEq, Int.reduceLT, Int.reduceLE, Nat.reduceLT, Nat.lt_irrefl, Nat.reduceBEq, tys0, tys1, tys2, tys3, tys4, tys5, tys6, tys7, tys8, tys9, tys10, tys11, tys12, tys13, tys14, tys15, tys16, tys17, tys18, Try.ntmps20, Try.results20, h4]
    exact Fin.eq (by simp [herOk, h4]) rfl
  · simp only [run0, run1, run2, run3, run4, run5, run6, run7, run8, run9, run10, run11, run12, run13, run14, run15, run16, run17, run18, run19, run20, run21, run22, reduceCtorEq, Nat.reduceEqDiff, Nat.reduceAdd, Nat.reduceSub, Nat.reduceLeDiff, indexAddrA, indexRefA, appendA, strA, Nat.reduceMul, Nat.zero_mul, Nat.reduceMod, Int.reduceEq, Int.reduceLT, Int.reduceLE, Nat.reduceLT, Nat.lt_irrefl, Nat.reduceBEq, tys0, tys1, tys2, tys3, tys4, tys5, tys6, tys7, tys8, tys9, tys10, tys11, tys12, tys13, tys14, tys15, tys16, tys17, tys18, Try.ntmps20, Try.results20, h4]
    exact Fin.eq (by simp [herOk, h1, h2, h3, h4]) rfl
theorem specHer_ok (a : Od) (b : Int) (hs : a.sz ≤ 1048576) : Ct Try.prog 18 [av a, .int .i64 b] [] (.tup [.int .i64 (if herOk b a then valT b a else 0), .bool (herOk b a)]) [] := by
  refine Ct.by_ hmix [] Try.func18 rfl ?_
  simp only [run0, run1, run2, run3, run4, run5, run6, run7, run8, run9, run10, run11, run12, run13, run14, run15, run16, run17, run18, run19, run20, run21, run22, reduceCtorEq, Nat.reduceEqDiff, Nat.reduceAdd, Nat.reduceSub, Nat.reduceLeDiff, indexAddrA, indexRefA, appendA, strA, Nat.reduceMul, Nat.zero_mul, Nat.reduceMod, Int.reduceEq, Int.reduceLT, Int.reduceLE, Nat.reduceLT, Nat.lt_irrefl, Nat.reduceBEq, tys0, tys1, tys2, tys3, tys4, tys5, tys6, tys7, tys8, tys9, tys10, tys11, tys12, tys13, tys14, tys15, tys16, tys17, tys18, Try.ntmps18, Try.results18, av]
  refine RunL.callp rfl rfl ok_f58 (odGood_ok a hs) (by first | rfl | simp only [pureL, pureB, Bool.and_self, Bool.and_true, Bool.true_and, Od.elems_pure, Od.pay_pure, Od.av_pure]) rfl ?_
  cases h1 : goodT a
  · simp only [run0, run1, run2, run3, run4, run5, run6, run7, run8, run9, run10, run11, run12, run13, run14, run15, run16, run17, run18, run19, run20, run21, run22, reduceCtorEq, Nat.reduceEqDiff, Nat.reduceAdd, Nat.reduceSub, Nat.reduceLeDiff, indexAddrA, indexRefA, appendA, strA, Nat.reduceMul, Nat.zero_mul, Nat.reduceMod, Int.reduceEq, Int.reduceLT, Int.reduceLE, Nat.reduceLT, Nat.lt_irrefl, Nat.reduceBEq, tys0, tys1, tys2, tys3, tys4, tys5, tys6, tys7, tys8, tys9, tys10, tys11, tys12, tys13, tys14, tys15, tys16, tys17, tys18, Try.ntmps18, Try.results18, h1]
    exact Fin.eq (by simp [herOk, h1]) rfl
  simp only [run0, run1, run2, run3, run4, run5, run6, run7, run8, run9, run10, run11, run12, run13, run14, run15, run16, run17, run18, run19, run20, run21, run22, reduceCtorEq, Nat.reduceEqDiff, Nat.reduceAdd, Nat.reduceSub, Nat.reduceLeDiff, indexAddrA, indexRefA, appendA, strA, Nat.reduceMul, Nat.zero_mul, Nat.reduceMod, Int.reduceEq, Int.reduceLT, Int.reduceLE, Nat.reduceLT, Nat.lt_irrefl, Nat.reduceBEq, tys0, tys1, tys2, tys3, tys4, tys5, tys6, tys7, tys8, tys9, tys10, tys11, tys12, tys13, tys14, tys15, tys16, tys17, tys18, Try.ntmps18, Try.results18, h1]
  refine RunL.callp rfl rfl ok_f59 (l1In_ok b 2 1000) (by first | rfl | simp only [pureL, pureB, Bool.and_self, Bool.and_true, Bool.true_and, Od.elems_pure, Od.pay_pure, Od.av_pure]) rfl ?_
  cases h2 : inB b 2 1000
  · simp only [run0, run1, run2, run3, run4, run5, run6, run7, run8, run9, run10, run11, run12, run13, run14, run15, run16, run17, run18, run19, run20, run21, run22, reduceCtorEq, Nat.reduceEqDiff, Nat.reduceAdd, Nat.reduceSub, Nat.reduceLeDiff, indexAddrA, indexRefA, appendA, strA, Nat.reduceMul, Nat.zero_mul, Nat.reduceMod, Int.reduceEq, Int.reduceLT, Int.reduceLE, Nat.reduceLT, Nat.lt_irrefl, Nat.reduceBEq, tys0, tys1, tys2, tys3, tys4, tys5, tys6, tys7, tys8, tys9, tys10, tys11, tys12, tys13, tys14, tys15, tys16, tys17, tys18, Try.ntmps18, Try.results18, h2]
    exact Fin.eq (by simp [herOk, h2]) rfl
  obtain ⟨b1, b2⟩ := inB_spec h2
  simp only [run0, run1, run2, run3, run4, run5, run6, run7, run8, run9, run10, run11, run12, run13, run14, run15, run16, run17, run18, run19, run20, run21, run22, reduceCtorEq, Nat.reduceEqDiff, Nat.reduceAdd, Nat.reduceSub, Nat.reduceLeDiff, indexAddrA, indexRefA, appendA, strA, Nat.reduceMul, Nat.zero_mul, Nat.reduceMod, Int.reduceEq, Int.reduceLT, Int.reduceLE, Nat.reduceLT, Nat.lt_irrefl, Nat.reduceBEq, tys0, tys1, tys2, tys3, tys4, tys5, tys6, tys7, tys8, tys9, tys10, tys11, tys12, tys13, tys14, tys15, tys16, tys17, tys18, Try.ntmps18, Try.results18, h2]
  refine RunL.callp rfl rfl ok_f60 (deDigits_ok a b hs) (by first | rfl | simp only [pureL, pureB, Bool.and_self, Bool.and_true, Bool.true_and, Od.elems_pure, Od.pay_pure, Od.av_pure]) rfl ?_
  cases h3 : digT b a
  · simp only [run0, run1, run2, run3, run4, run5, run6, run7, run8, run9, run10, run11, run12, run13, run14, run15, run16, run17, run18, run19, run20, run21, run22, reduceCtorEq, Nat.reduceEqDiff, Nat.reduceAdd, Nat.reduceSub, Nat.reduceLeDiff, indexAddrA, indexRefA, appendA, strA, Nat.reduceMul, Nat.zero_mul, Nat.reduceMod, Int.reduceEq, Int.reduceLT, Int.reduceLE, Nat.reduceLT, Nat.lt_irrefl, Nat.reduceBEq, tys0, tys1, tys2, tys3, tys4, tys5, tys6, tys7, tys8, tys9, tys10, tys11, tys12, tys13, tys14, tys15, tys16, tys17, tys18, Try.ntmps18, Try.results18, h3]
    exact Fin.eq (by simp [herOk, h3]) rfl
  simp only [run0, run1, run2, run3, run4, run5, run6, run7, run8, run9, run10, run11, run12, run13, run14, run15, run16, run17, run18, run19, run20, run21, run22, reduceCtorEq, Nat.reduceEqDiff, Nat.reduceAdd, Nat.reduceSub, Nat.reduceLeDiff, indexAddrA, indexRefA, appendA, strA, Nat.reduceMul, Nat.zero_mul, Nat.reduceMod, Int.reduceEq, Int.reduceLT, Int.reduceLE, Nat.reduceLT, Nat.lt_irrefl, Nat.reduceBEq, tys0, tys1, tys2, tys3, tys4, tys5, tys6, tys7, tys8, tys9, tys10, tys11, tys12, tys13, tys14, tys15, tys16, tys17, tys18, Try.ntmps18, Try.results18, h3]
  refine RunL.callp rfl rfl ok_f61 (deValue_ok a b hs b1 (by omega) (goodT_rng h1)) (by first | rfl | simp only [pureL, pureB, Bool.and_self, Bool.and_true, Bool.true_and, Od.elems_pure, Od.pay_pure, Od.av_pure]) rfl ?_
  by_cases h4 : 1000000 < valT b a
  · simp only [run0, run1, run2, run3, run4, run5, run6, run7, run8, run9, run10, run11, run12, run13, run14, run15, run16, run17, run18, run19, run20, run21, run22, reduceCtorEq, Nat.reduceEqDiff, Nat.reduceAdd, Nat.reduceSub, Nat.reduceLeDiff, indexAddrA, indexRefA, appendA, strA, Nat.reduceMul, Nat.zero_mul, Nat.reduceMod, Int.reduceEq, Int.reduceLT, Int.reduceLE, Nat.reduceLT, Nat.lt_irrefl, Nat.reduceBEq, tys0, tys1, tys2, tys3, tys4, tys5, tys6, tys7, tys8, tys9, tys10, tys11, tys12, tys13, tys14, tys15, tys16, tys17, tys18, Try.ntmps18, Try.results18, h4]
    exact Fin.eq (by simp [herOk, h4]) rfl
  · simp only [run0, run1, run2, run3, run4, run5, run6, run7, run8, run9, run10, run11, run12, run13, run14, run15, run16, run17, run18, run19, run20, run21, run22, reduceCtorEq, Nat.reduceEqDiff, Nat.reduceAdd, Nat.reduceSub, Nat.reduceLeDiff, indexAddrA, indexRefA, appendA, strA, Nat.reduceMul, Nat.zero_mul, Nat.reduceMod, Int.reduceEq, Int.reduceLT, Int.reduceLE, Nat.reduceLT, Nat.lt_irrefl, Nat.reduceBEq, tys0, tys1, tys2, tys3, tys4, tys5, tys6, tys7, tys8, tys9, tys10, tys11, tys12, tys13, tys14, tys15, tys16, tys17, tys18, Try.ntmps18, Try.results18, h4]
    refine RunL.callp rfl rfl ok_f61 (deValue_ok a b hs b1 (by omega) (goodT_rng h1)) (by first | rfl | simp only [pureL, pureB, Bool.and_self, Bool.and_true, Bool.true_and, Od.elems_pure, Od.pay_pure, Od.av_pure]) rfl ?_
    simp only [run0, run1, run2, run3, run4, run5, run6, run7, run8, run9, run10, run11, run12, run13, run14, run15, run16, run17, run18, run19, run20, run21, run22, reduceCtorEq, Nat.reduceEqDiff, Nat.reduceAdd, Nat.reduceSub, Nat.reduceLeDiff, indexAddrA, indexRefA, appendA, strA, Nat.reduceMul, Nat.zero_mul, Nat.reduceMod, Int.reduceEq, Int.reduceLT, Int.reduceLE, Nat.reduceLT, Nat.lt_irrefl, Nat.reduceBEq, tys0, tys1, tys2, tys3, tys4, tys5, tys6, tys7, tys8, tys9, tys10, tys11, tys12, tys13, tys14, tys15, tys16, tys17, tys18, Try.ntmps18, Try.results18]
    exact Fin.eq (by simp [herOk, h1, h2, h3, h4]) rfl

theorem FnExactFromHereditary_ok {a0 a1 : AV} (h0 : IsOf Try.prog 32 a0) (h1 : IsOf Try.prog 3 a1) : Ct Try.prog 4 [a0, a1] [] (.bool true) [] := by
  obtain ⟨a, rfl, hf⟩ := laws_isOd h0
  obtain ⟨_, h1⟩ := h1.one ty_a3
  obtain ⟨b, e, _⟩ := h1.int Try.underlying3
  simp only [List.cons.injEq, and_true] at e
  subst e
  refine Ct.by_ hmix [] Try.func4 rfl ?_
  simp only [run0, run1, run2, run3, run4, run5, run6, run7, run8, run9, run10, run11, run12, run13, run14, run15, run16, run17, run18, run19, run20, run21, run22, reduceCtorEq, Nat.reduceEqDiff, Nat.reduceAdd, Nat.reduceSub, Nat.reduceLeDiff, indexAddrA, indexRefA, appendA, strA, Nat.reduceMul, Nat.zero_mul, Nat.reduceMod, Int.reduceEq, Int.reduceLT, Int.reduceLE, Nat.reduceLT, Nat.lt_irrefl, Nat.reduceBEq, tys0, tys1, tys2, tys3, tys4, tys5, tys6, tys7, tys8, tys9, tys10, tys11, tys12, tys13, tys14, tys15, tys16, tys17, tys18, Try.ntmps4, Try.results4, av]
  refine RunL.callp rfl rfl ok_f17 (szOrdinal_ok a 1048576 hf (by omega) (by omega)) (by first | rfl | simp only [pureL, pureB, Bool.and_self, Bool.and_true, Bool.true_and, Od.elems_pure, Od.pay_pure, Od.av_pure]) rfl ?_
  rcases szR_spec a.sz 1048576 with ⟨hs, hr⟩ | ⟨hs, hr⟩
  case inr =>
    have e1 : szR a.sz 1048576 < 0 := by omega
    simp only [run0, run1, run2, run3, run4, run5, run6, run7, run8, run9, run10, run11, run12, run13, run14, run15, run16, run17, run18, run19, run20, run21, run22, reduceCtorEq, Nat.reduceEqDiff, Nat.reduceAdd, Nat.reduceSub, Nat.reduceLeDiff, indexAddrA, indexRefA, appendA, strA, Nat.reduceMul, Nat.zero_mul, Nat.reduceMod, Int.reduceEq, Int.reduceLT, Int.reduceLE, Nat.reduceLT, Nat.lt_irrefl, Nat.reduceBEq, tys0, tys1, tys2, tys3, tys4, tys5, tys6, tys7, tys8, tys9, tys10, tys11, tys12, tys13, tys14, tys15, tys16, tys17, tys18, Try.ntmps4, Try.results4, e1]
    exact Fin.eq rfl rfl
  have ha : a.sz ≤ 1048576 := by omega
  have e1 : ¬ (szR a.sz 1048576 < 0) := by omega
  simp only [run0, run1, run2, run3, run4, run5, run6, run7, run8, run9, run10, run11, run12, run13, run14, run15, run16, run17, run18, run19, run20, run21, run22, reduceCtorEq, Nat.reduceEqDiff, Nat.reduceAdd, Nat.reduceSub, Nat.reduceLeDiff, indexAddrA, indexRefA, appendA, strA, Nat.reduceMul, Nat.zero_mul, Nat.reduceMod, Int.reduceEq, Int.reduceLT, Int.reduceLE, Nat.reduceLT, Nat.lt_irrefl, Nat.reduceBEq, tys0, tys1, tys2, tys3, tys4, tys5, tys6, tys7, tys8, tys9, tys10, tys11, tys12, tys13, tys14, tys15, tys16, tys17, tys18, Try.ntmps4, Try.results4, e1]
  refine RunL.callp rfl rfl ok_f19 (toOrdinal_ok a ha) (by first | rfl | simp only [pureL, pureB, Bool.and_self, Bool.and_true, Bool.true_and, Od.elems_pure, Od.pay_pure, Od.av_pure]) rfl ?_
  simp only [run0, run1, run2, run3, run4, run5, run6, run7, run8, run9, run10, run11, run12, run13, run14, run15, run16, run17, run18, run19, run20, run21, run22, reduceCtorEq, Nat.reduceEqDiff, Nat.reduceAdd, Nat.reduceSub, Nat.reduceLeDiff, indexAddrA, indexRefA, appendA, strA, Nat.reduceMul, Nat.zero_mul, Nat.reduceMod, Int.reduceEq, Int.reduceLT, Int.reduceLE, Nat.reduceLT, Nat.lt_irrefl, Nat.reduceBEq, tys0, tys1, tys2, tys3, tys4, tys5, tys6, tys7, tys8, tys9, tys10, tys11, tys12, tys13, tys14, tys15, tys16, tys17, tys18, Try.ntmps4, Try.results4, av]
  refine RunL.callp rfl rfl ok_f18 (specHer_ok a b ha) (by first | rfl | simp only [pureL, pureB, Bool.and_self, Bool.and_true, Bool.true_and, Od.elems_pure, Od.pay_pure, Od.av_pure]) rfl ?_
  simp only [run0, run1, run2, run3, run4, run5, run6, run7, run8, run9, run10, run11, run12, run13, run14, run15, run16, run17, run18, run19, run20, run21, run22, reduceCtorEq, Nat.reduceEqDiff, Nat.reduceAdd, Nat.reduceSub, Nat.reduceLeDiff, indexAddrA, indexRefA, appendA, strA, Nat.reduceMul, Nat.zero_mul, Nat.reduceMod, Int.reduceEq, Int.reduceLT, Int.reduceLE, Nat.reduceLT, Nat.lt_irrefl, Nat.reduceBEq, tys0, tys1, tys2, tys3, tys4, tys5, tys6, tys7, tys8, tys9, tys10, tys11, tys12, tys13, tys14, tys15, tys16, tys17, tys18, Try.ntmps4, Try.results4, av]
  refine RunL.callp rfl rfl ok_f19 (toOrdinal_ok a ha) (by first | rfl | simp only [pureL, pureB, Bool.and_self, Bool.and_true, Bool.true_and, Od.elems_pure, Od.pay_pure, Od.av_pure]) rfl ?_
  simp only [run0, run1, run2, run3, run4, run5, run6, run7, run8, run9, run10, run11, run12, run13, run14, run15, run16, run17, run18, run19, run20, run21, run22, reduceCtorEq, Nat.reduceEqDiff, Nat.reduceAdd, Nat.reduceSub, Nat.reduceLeDiff, indexAddrA, indexRefA, appendA, strA, Nat.reduceMul, Nat.zero_mul, Nat.reduceMod, Int.reduceEq, Int.reduceLT, Int.reduceLE, Nat.reduceLT, Nat.lt_irrefl, Nat.reduceBEq, tys0, tys1, tys2, tys3, tys4, tys5, tys6, tys7, tys8, tys9, tys10, tys11, tys12, tys13, tys14, tys15, tys16, tys17, tys18, Try.ntmps4, Try.results4, av]
  refine RunL.callp rfl rfl ok_f20 (implHer_ok a b ha) (by first | rfl | simp only [pureL, pureB, Bool.and_self, Bool.and_true, Bool.true_and, Od.elems_pure, Od.pay_pure, Od.av_pure]) rfl ?_
  simp only [run0, run1, run2, run3, run4, run5, run6, run7, run8, run9, run10, run11, run12, run13, run14, run15, run16, run17, run18, run19, run20, run21, run22, reduceCtorEq, Nat.reduceEqDiff, Nat.reduceAdd, Nat.reduceSub, Nat.reduceLeDiff, indexAddrA, indexRefA, appendA, strA, Nat.reduceMul, Nat.zero_mul, Nat.reduceMod, Int.reduceEq, Int.reduceLT, Int.reduceLE, Nat.reduceLT, Nat.lt_irrefl, Nat.reduceBEq, tys0, tys1, tys2, tys3, tys4, tys5, tys6, tys7, tys8, tys9, tys10, tys11, tys12, tys13, tys14, tys15, tys16, tys17, tys18, Try.ntmps4, Try.results4, av, bne_self_eq_false]
  refine ⟨by kernel_rfl, ?_⟩
  refine RunL.callp rfl rfl ok_f19 (toOrdinal_ok a ha) (by first | rfl | simp only [pureL, pureB, Bool.and_self, Bool.and_true, Bool.true_and, Od.elems_pure, Od.pay_pure, Od.av_pure]) rfl ?_
  simp only [run0, run1, run2, run3, run4, run5, run6, run7, run8, run9, run10, run11, run12, run13, run14, run15, run16, run17, run18, run19, run20, run21, run22, reduceCtorEq, Nat.reduceEqDiff, Nat.reduceAdd, Nat.reduceSub, Nat.reduceLeDiff, indexAddrA, indexRefA, appendA, strA, Nat.reduceMul, Nat.zero_mul, Nat.reduceMod, Int.reduceEq, Int.reduceLT, Int.reduceLE, Nat.reduceLT, Nat.lt_irrefl, Nat.reduceBEq, tys0, tys1, tys2, tys3, tys4, tys5, tys6, tys7, tys8, tys9, tys10, tys11, tys12, tys13, tys14, tys15, tys16, tys17, tys18, Try.ntmps4, Try.results4, av]
  refine RunL.callp rfl rfl ok_f14 (eqOrdinal_ok a a ha) (by first | rfl | simp only [pureL, pureB, Bool.and_self, Bool.and_true, Bool.true_and, Od.elems_pure, Od.pay_pure, Od.av_pure]) rfl ?_
  simp only [run0, run1, run2, run3, run4, run5, run6, run7, run8, run9, run10, run11, run12, run13, run14, run15, run16, run17, run18, run19, run20, run21, run22, reduceCtorEq, Nat.reduceEqDiff, Nat.reduceAdd, Nat.reduceSub, Nat.reduceLeDiff, indexAddrA, indexRefA, appendA, strA, Nat.reduceMul, Nat.zero_mul, Nat.reduceMod, Int.reduceEq, Int.reduceLT, Int.reduceLE, Nat.reduceLT, Nat.lt_irrefl, Nat.reduceBEq, tys0, tys1, tys2, tys3, tys4, tys5, tys6, tys7, tys8, tys9, tys10, tys11, tys12, tys13, tys14, tys15, tys16, tys17, tys18, Try.ntmps4, Try.results4, eqT_refl]
  exact Fin.eq rfl rfl

end Go.Proofs.Ytphmkhaboghagaa
/-
  Hereditary forms: a form is read back as its number. No program in sight.
-/
namespace Go.Proofs.Ytphmkhaboghagaa
open Go K Od
set_option linter.unusedSimpArgs false
set_option linter.unusedVariables false

/-- The value of a form, not cut off. -/
def valX (b : Int) : Od → Int
  | .nil => 0
  | .cons e c r => c * b ^ (valX b e).toNat + valX b r
theorem valX_cons (b : Int) (e r : Od) (c : Int) : valX b (.cons e c r) = c * b ^ (valX b e).toNat + valX b r := rfl
theorem valX_app (b : Int) : ∀ d r : Od, valX b (d.app r) = valX b d + valX b r
  | .nil, r => by simp [app, valX]
  | .cons e c d, r => by simp only [app, valX, valX_app b d r]; omega
theorem valX_nonneg {b : Int} (hb : 2 ≤ b) : ∀ {a : Od}, rng a → 0 ≤ valX b a
  | .nil, _ => by simp [valX]
  | .cons e c r, h => by
    have hp := one_le_pow (b := b) (by omega) (valX b e).toNat
    have h1 := valX_nonneg hb h.2.2.2
    have h2 : 0 ≤ c * b ^ (valX b e).toNat := Int.mul_nonneg (by have := h.1; omega) (by omega)
    rw [valX_cons]; omega

theorem valS_X {b : Int} (hb : 2 ≤ b) : ∀ {a : Od} {s : Int}, rng a → 0 ≤ s → s + valX b a ≤ 1000000 → valS b a s = s + valX b a
  | .nil, s, _, h1, h2 => by simp [valS, valX]
  | .cons e c r, s, h, h1, h2 => by
    have hx := valX_nonneg hb h.2.2.1
    have hr := valX_nonneg hb h.2.2.2
    have hp := lt_pow hb (valX b e).toNat
    have hc := h.1
    have hm : 1 * b ^ (valX b e).toNat ≤ c * b ^ (valX b e).toNat := Int.mul_le_mul_of_nonneg_right hc (by have := one_le_pow (b := b) (by omega) (valX b e).toNat; omega)
    rw [valX_cons] at h2 ⊢
    have he : valT b e = valX b e := by
      have := valS_X hb (a := e) (s := 0) h.2.2.1 (Int.le_refl _) (by omega)
      unfold valT; omega
    rw [valS_cons, he, if_neg (by omega), valS_X hb h.2.2.2 (by omega) (by omega)]
    omega
theorem valT_X {b : Int} (hb : 2 ≤ b) {a : Od} (h : rng a) (h2 : valX b a ≤ 1000000) : valT b a = valX b a := by
  have := valS_X hb (s := 0) h (Int.le_refl _) (by omega)
  unfold valT; omega
theorem valS_back {b : Int} (hb : 2 ≤ b) : ∀ {a : Od} {s : Int}, rng a → 0 ≤ s → valS b a s ≤ 1000000 → valS b a s = s + valX b a
  | .nil, s, _, h1, h2 => by simp [valS, valX]
  | .cons e c r, s, h, h1, h2 => by
    have hc := h.1
    have hv := valS_range (b := b) hb (a := e) (s := 0) h.2.2.1 (by omega) (by omega)
    have hp := lt_pow hb (valT b e).toNat
    have hm : 1 * b ^ (valT b e).toNat ≤ c * b ^ (valT b e).toNat := Int.mul_le_mul_of_nonneg_right hc (by have := one_le_pow (b := b) (by omega) (valT b e).toNat; omega)
    rw [valS_cons] at h2 ⊢
    by_cases hg : 1000000 < s + c * b ^ (valT b e).toNat
    · rw [if_pos hg] at h2; omega
    · rw [if_neg hg] at h2 ⊢
      have he : valT b e = valX b e := by
        have h0 : 0 ≤ valT b e := hv.1
        have := valS_back hb (a := e) (s := 0) h.2.2.1 (Int.le_refl _) (by show valT b e ≤ _; omega)
        unfold valT; omega
      have h3 := valS_back hb h.2.2.2 (by omega) h2
      rw [h3, valX_cons, he]; omega
theorem valT_back {b : Int} (hb : 2 ≤ b) {a : Od} (h : rng a) (h2 : valT b a ≤ 1000000) : valT b a = valX b a := by
  have := valS_back hb (s := 0) h (Int.le_refl _) h2
  unfold valT at *; omega

theorem pow_mono {b c : Int} (hb : 2 ≤ b) (hc : b ≤ c) : ∀ {e f : Nat}, e ≤ f → b ^ e ≤ c ^ f := by
  intro e f hef
  have h1 : ∀ e : Nat, b ^ e ≤ c ^ e := fun e => by
    induction e with
    | zero => simp
    | succ e ih =>
      have := one_le_pow (b := b) (by omega) e
      rw [Int.pow_succ, Int.pow_succ]
      exact Int.mul_le_mul ih hc (by omega) (by omega)
  have h2 : ∀ k : Nat, c ^ e ≤ c ^ (e + k) := fun k => by
    induction k with
    | zero => simp
    | succ k ih =>
      have := one_le_pow (b := c) (by omega) (e + k)
      have h3 : c ^ (e + k) * 1 ≤ c ^ (e + k) * c := Int.mul_le_mul_of_nonneg_left (by omega) (by omega)
      rw [← Nat.add_assoc, Int.pow_succ]; omega
  have := h1 e
  have := h2 (f - e)
  rw [show e + (f - e) = f by omega] at this
  omega
theorem valX_mono {b c : Int} (hb : 2 ≤ b) (hc : b ≤ c) : ∀ {a : Od}, rng a → valX b a ≤ valX c a
  | .nil, _ => Int.le_refl _
  | .cons e k r, h => by
    have h1 := valX_mono hb hc h.2.2.1
    have h2 := valX_mono hb hc h.2.2.2
    have h3 := pow_mono hb hc (e := (valX b e).toNat) (f := (valX c e).toNat) (by omega)
    have h4 : k * b ^ (valX b e).toNat ≤ k * c ^ (valX c e).toNat := Int.mul_le_mul_of_nonneg_left h3 (by have := h.1; omega)
    rw [valX_cons, valX_cons]; omega

theorem herL_X {b : Nat} (rec : Nat → Od) (n : Nat) (hr : ∀ i, i < n → valX b (rec i) = i) : ∀ (ds : List Nat) (e : Nat) (acc : Od), e + ds.length ≤ n → valX b (herL rec ds e acc) = (numD b ds e : Int) + valX b acc
  | [], e, acc, _ => by simp [herL, numD]
  | d :: ds, e, acc, h => by
    simp only [List.length_cons] at h
    simp only [herL, numD]
    rw [herL_X rec n hr ds (e + 1) _ (by omega)]
    by_cases hd : d = 0
    · rw [if_pos hd, hd]; simp
    · rw [if_neg hd, valX_cons, hr e (by omega), Int.toNat_natCast]
      simp only [Int.natCast_add, Int.natCast_mul, Int.natCast_pow]; omega
theorem her_X {b : Nat} (hb : 2 ≤ b) : ∀ f n, n < f → valX b (her b f n) = n
  | 0, n, h => by omega
  | f + 1, n, h => by
    have hl := dg_len b n
    rw [her_succ, herL_X (her b f) n (fun i hi => her_X hb f i (by omega)) (dg b n) 0 .nil (by omega), numD_dg hb n n 0 (Nat.le_refl _)]
    simp [valX]
theorem herL_dig {b : Nat} (rec : Nat → Od) (hr : ∀ i, digT b (rec i) = true) : ∀ (ds : List Nat) (e : Nat) (acc : Od), (∀ d ∈ ds, d < b) → digT b acc = true → digT b (herL rec ds e acc) = true
  | [], e, acc, _, h => h
  | d :: ds, e, acc, hd, h => by
    simp only [herL]
    refine herL_dig rec hr ds (e + 1) _ (fun x hx => hd x (List.mem_cons_of_mem _ hx)) ?_
    split
    · exact h
    · have := hd d (List.mem_cons_self ..)
      simp only [digT, hr e, h, Bool.and_true]
      simp; omega
theorem her_dig {b : Nat} (hb : 2 ≤ b) : ∀ f n, digT b (her b f n) = true
  | 0, n => rfl
  | f + 1, n => herL_dig (her b f) (her_dig hb f) (dg b n) 0 .nil (dg_lt hb n n) rfl
theorem herL_rng {b : Nat} (hb : b ≤ 1000000) (rec : Nat → Od) (hr : ∀ i, rng (rec i)) : ∀ (ds : List Nat) (e : Nat) (acc : Od), (∀ d ∈ ds, d < b) → rng acc → rng (herL rec ds e acc)
  | [], e, acc, _, h => h
  | d :: ds, e, acc, hd, h => by
    simp only [herL]
    refine herL_rng hb rec hr ds (e + 1) _ (fun x hx => hd x (List.mem_cons_of_mem _ hx)) ?_
    split
    · exact h
    · have := hd d (List.mem_cons_self ..)
      exact ⟨by omega, by omega, hr e, h⟩
theorem her_rng {b : Nat} (hb : 2 ≤ b) (hb2 : b ≤ 1000000) : ∀ f n, rng (her b f n)
  | 0, n => trivial
  | f + 1, n => herL_rng hb2 (her b f) (her_rng hb hb2 f) (dg b n) 0 .nil (dg_lt hb n n) trivial

theorem hoT_rng {m c : Nat} (hc : 2 ≤ c) (hc2 : c ≤ 1000000) : rng (hoT m c) := her_rng hc hc2 _ _
theorem hoT_X {m c : Nat} (h1 : m ≤ 1000000) (hc : 2 ≤ c) : valX c (hoT m c) = m := her_X hc _ _ (by simp only [Int.toNat_natCast]; omega)
theorem hoT_val {m c : Nat} (h1 : m ≤ 1000000) (hc : 2 ≤ c) (hc2 : c ≤ 1000000) : valT c (hoT m c) = m := by
  rw [valT_X (by omega) (hoT_rng hc hc2) (by rw [hoT_X h1 hc]; omega), hoT_X h1 hc]
theorem hoT_dig {m c : Nat} (hc : 2 ≤ c) : digT c (hoT m c) = true := her_dig hc _ _
theorem digT_mono {b c : Int} (h : b ≤ c) : ∀ {a : Od}, digT b a = true → digT c a = true
  | .nil, _ => rfl
  | .cons e k r, hd => by
    simp only [digT, Bool.and_eq_true, Bool.not_eq_true', decide_eq_false_iff_not] at hd ⊢
    exact ⟨⟨by omega, digT_mono h hd.1.2⟩, digT_mono h hd.2⟩

end Go.Proofs.Ytphmkhaboghagaa
/-
  Goodstein's sequences: both ways to run them.
-/
namespace Go.Proofs.Ytphmkhaboghagaa
open Go K Od
set_option linter.unusedSimpArgs false
set_option linter.unusedVariables false
set_option maxHeartbeats 1600000
set_option maxRecDepth 8000

def raV (n b : Nat) : Int := valT ((b : Int) + 1) (hoT n b)
theorem raV_rng {n b : Nat} (hb : 2 ≤ b) (hb2 : b ≤ 2000) (hn : n ≤ 1000000) (h0 : 0 < n) : 1 ≤ raV n b ∧ raV n b ≤ 1000001 := by
  have hr := hoT_rng (m := n) hb (show b ≤ 1000000 by omega)
  have hv := valS_range (b := (b : Int) + 1) (by omega) (s := 0) hr (by omega) (by omega)
  refine ⟨?_, hv.2⟩
  by_cases hg : raV n b ≤ 1000000
  · have h1 := valT_back (b := (b : Int) + 1) (by omega) hr hg
    have h2 := valX_mono (b := b) (c := (b : Int) + 1) (by omega) (by omega) hr
    rw [hoT_X hn hb] at h2
    have h3 : raV n b = valX ((b : Int) + 1) (hoT n b) := h1
    omega
  · omega

/-- What comes behind a number of a sequence. -/
def gsR : Nat → Nat → Nat → Option (List Nat)
  | 0, _, _ => some []
  | k + 1, b, n => if n = 0 then some [] else if 1000000 < raV n b then none else (gsR k (b + 1) ((raV n b).toNat - 1)).map (((raV n b).toNat - 1) :: ·)
theorem gsR_zero (k b : Nat) : gsR k b 0 = some [] := by cases k <;> simp [gsR]
theorem gsR_big {k b n : Nat} (h0 : 0 < n) (hg : 1000000 < raV n b) : gsR (k + 1) b n = none := by simp only [gsR]; rw [if_neg (by omega), if_pos hg]
theorem gsR_step {k b n : Nat} (h0 : 0 < n) (hg : ¬ 1000000 < raV n b) : gsR (k + 1) b n = (gsR k (b + 1) ((raV n b).toNat - 1)).map (((raV n b).toNat - 1) :: ·) := by
  simp only [gsR]; rw [if_neg (by omega), if_neg hg]
theorem gsR_all : ∀ {k b n : Nat} {l : List Nat}, gsR k b n = some l → l.length ≤ k ∧ ∀ m ∈ l, m ≤ 1000000
  | 0, b, n, l, h => by simp [gsR] at h; subst h; simp
  | k + 1, b, n, l, h => by
    by_cases h0 : n = 0
    · subst h0; rw [gsR_zero] at h; cases h; simp
    by_cases hg : 1000000 < raV n b
    · rw [gsR_big (by omega) hg] at h; cases h
    · rw [gsR_step (by omega) hg] at h
      obtain ⟨l', h1, rfl⟩ := Option.map_eq_some_iff.1 h
      obtain ⟨h2, h3⟩ := gsR_all h1
      refine ⟨by simp; omega, fun m hm => ?_⟩
      rcases List.mem_cons.1 hm with rfl | hm
      · omega
      · exact h3 m hm
def gsT (n b most : Int) : Option (List Nat) := if hoIn n b && inB most 0 60 then (gsR most.toNat b.toNat n.toNat).map (n.toNat :: ·) else none
def optV (o : Option (List Nat)) : AV := .tup [.sl false (ints (nats (o.getD []))), .bool o.isSome]
theorem gsT_all {n b most : Int} {l : List Nat} (h : gsT n b most = some l) : l.length ≤ 61 ∧ (∀ m ∈ l, m ≤ 1000000) ∧ ∃ c : Nat, b = c ∧ 2 ≤ c ∧ c ≤ 1000 := by
  unfold gsT at h
  split at h
  · rename_i hc
    simp only [Bool.and_eq_true] at hc
    obtain ⟨m, c, rfl, rfl, q1, q2, q3⟩ := hoIn_spec hc.1
    have := inB_spec hc.2
    obtain ⟨l', h1, rfl⟩ := Option.map_eq_some_iff.1 h
    obtain ⟨h2, h3⟩ := gsR_all h1
    refine ⟨by simp; omega, fun x hx => ?_, c, rfl, q2, q3⟩
    rcases List.mem_cons.1 hx with rfl | hx
    · simpa using q1
    · exact h3 x hx
  · cases h

theorem hered_ok (m b : Nat) (h1 : m ≤ 1000000) (hb : 2 ≤ b) (hb2 : b ≤ 2000) : Ct Try.prog 53 [.int .i64 (m : Int), .int .i64 (b : Int)] [] (av (hoT m b)) [] :=
  hereditary_ok b hb hb2 1000001 m h1 (by omega)
theorem form_ok (m b : Nat) (h1 : m ≤ 1000000) (hb : 2 ≤ b) (hb2 : b ≤ 2000) : Ct Try.prog 49 [.int .i64 (m : Int), .int .i64 (b : Int)] [] (av (hoT m b)) [] :=
  deForm_ok b hb hb2 1000001 m h1 (by omega)
theorem Vw_intsR {L : List AObj} {id g n : Nat} {T : TypeId} {l : List Int} (hL : L[id]? = some (.vec T 1 g (ints l))) (hn : n = l.length) : Vw L (.ref id [] g n) (.sl false (ints l)) := by
  have := Vw.refPur (o := false) (n := n) hL (by rw [hn]; simp) (fun e he c hc => by
    obtain ⟨x, _, rfl⟩ := List.mem_map.1 he
    simp only [AV.cells, List.mem_singleton] at hc
    subst hc
    exact ⟨Pur.int _ _, fun xs h => by cases h⟩)
  rwa [List.take_of_length_le (by rw [hn]; simp)] at this

theorem runI_ok (n b most : Nat) (h1 : n ≤ 1000000) (hb : 2 ≤ b) (hb2 : b ≤ 1000) (hm : most ≤ 60) : Ct Try.prog 74 [.int .i64 (n : Int), .int .i64 (b : Int), .int .i64 (most : Int)] [] (optV ((gsR most b n).map (n :: ·))) [] := by
  have e0 : inB (n : Int) 0 1000000 = true := by simp [inB]; omega
  have e1 : inB (b : Int) 2 1000 = true := by simp [inB]; omega
  have e2 : inB (most : Int) 0 60 = true := by simp [inB]; omega
  refine Ct.by_ hmix [ 1000000 + 24] Try.func74 rfl ?_
  simp only [run0, run1, run2, run3, run4, run5, run6, run7, run8, run9, run10, run11, run12, run13, run14, run15, run16, run17, run18, run19, run20, run21, run22, reduceCtorEq, Nat.reduceEqDiff, Nat.reduceAdd, Nat.reduceSub, Nat.reduceLeDiff, indexAddrA, indexRefA, appendA, strA, Nat.reduceMul, Nat.zero_mul, Nat.reduceMod, Int.reduceEq, Int.reduceLT, Int.reduceLE, Nat.reduceLT, Nat.lt_irrefl, Nat.reduceBEq, tys0, tys1, tys2, tys3, tys4, tys5, tys6, tys7, tys8, tys9, tys10, tys11, tys12, tys13, tys14, tys15, tys16, tys17, tys18, Try.ntmps74, Try.results74]
  refine RunL.callp rfl rfl ok_f50 (in_ok (n : Int) 0 1000000) (by first | rfl | simp only [pureL, pureB, Bool.and_self, Bool.and_true, Bool.true_and, Od.elems_pure, Od.pay_pure, Od.av_pure]) rfl ?_
  simp only [run0, run1, run2, run3, run4, run5, run6, run7, run8, run9, run10, run11, run12, run13, run14, run15, run16, run17, run18, run19, run20, run21, run22, reduceCtorEq, Nat.reduceEqDiff, Nat.reduceAdd, Nat.reduceSub, Nat.reduceLeDiff, indexAddrA, indexRefA, appendA, strA, Nat.reduceMul, Nat.zero_mul, Nat.reduceMod, Int.reduceEq, Int.reduceLT, Int.reduceLE, Nat.reduceLT, Nat.lt_irrefl, Nat.reduceBEq, tys0, tys1, tys2, tys3, tys4, tys5, tys6, tys7, tys8, tys9, tys10, tys11, tys12, tys13, tys14, tys15, tys16, tys17, tys18, Try.ntmps74, Try.results74, e0]
  refine RunL.callp rfl rfl ok_f51 (baseOk_ok b) (by first | rfl | simp only [pureL, pureB, Bool.and_self, Bool.and_true, Bool.true_and, Od.elems_pure, Od.pay_pure, Od.av_pure]) rfl ?_
  simp only [run0, run1, run2, run3, run4, run5, run6, run7, run8, run9, run10, run11, run12, run13, run14, run15, run16, run17, run18, run19, run20, run21, run22, reduceCtorEq, Nat.reduceEqDiff, Nat.reduceAdd, Nat.reduceSub, Nat.reduceLeDiff, indexAddrA, indexRefA, appendA, strA, Nat.reduceMul, Nat.zero_mul, Nat.reduceMod, Int.reduceEq, Int.reduceLT, Int.reduceLE, Nat.reduceLT, Nat.lt_irrefl, Nat.reduceBEq, tys0, tys1, tys2, tys3, tys4, tys5, tys6, tys7, tys8, tys9, tys10, tys11, tys12, tys13, tys14, tys15, tys16, tys17, tys18, Try.ntmps74, Try.results74, e1]
  refine RunL.callp rfl rfl ok_f50 (in_ok (most : Int) 0 60) (by first | rfl | simp only [pureL, pureB, Bool.and_self, Bool.and_true, Bool.true_and, Od.elems_pure, Od.pay_pure, Od.av_pure]) rfl ?_
  simp only [run0, run1, run2, run3, run4, run5, run6, run7, run8, run9, run10, run11, run12, run13, run14, run15, run16, run17, run18, run19, run20, run21, run22, reduceCtorEq, Nat.reduceEqDiff, Nat.reduceAdd, Nat.reduceSub, Nat.reduceLeDiff, indexAddrA, indexRefA, appendA, strA, Nat.reduceMul, Nat.zero_mul, Nat.reduceMod, Int.reduceEq, Int.reduceLT, Int.reduceLE, Nat.reduceLT, Nat.lt_irrefl, Nat.reduceBEq, tys0, tys1, tys2, tys3, tys4, tys5, tys6, tys7, tys8, tys9, tys10, tys11, tys12, tys13, tys14, tys15, tys16, tys17, tys18, Try.ntmps74, Try.results74, e2]
  refine AWp.loop_inv (ι := List Nat × Nat × Nat) (fun p => ⟨[.int .i64 p.2.2, .int .i64 b, .int .i64 most, .junk, .junk, .junk, .lit (.slice none 0 0), .bool false, .ref 0 [] p.2.1 (p.2.1 + 1), .int .i64 p.2.1, .junk, .junk, .junk, .junk, .junk, .junk, .junk, .junk, .junk, .junk, .junk, .junk, .junk, .junk, .junk, .junk, .junk, .junk, .junk, .junk, .junk, .junk, .junk, .junk, .junk, .junk, .junk, .junk, .junk, .junk, .junk, .junk, .junk, .junk, .junk, .junk, .junk, .junk, .junk, .junk, .junk, .junk, .junk], [.vec 3 1 p.2.1 (ints (nats p.1))]⟩)
    (fun p => p.2.1 ≤ most ∧ p.1.length = p.2.1 + 1 ∧ p.2.2 ≤ 1000000 ∧ (gsR (most - p.2.1) (b + p.2.1) p.2.2).map (p.1 ++ ·) = (gsR most b n).map (n :: ·)) (fun p => most - p.2.1) ([n], 0, n) ⟨Nat.zero_le _, rfl, h1, rfl⟩ ⟨by repeat constructor, rfl⟩ ?_
  rintro ⟨d, k, m⟩ ⟨h2, h3, h4, h5⟩
  simp only at h2 h3 h4 h5
  refine W.sound hmix (E := []) ?_
  have hfin : most ≤ k ∨ m = 0 → (gsR most b n).map (n :: ·) = some d := fun h => by
    rw [← h5]
    rcases h with h | h
    · rw [show most - k = 0 by omega]; simp [gsR]
    · rw [h, gsR_zero]; simp
  have hv : Vw [.vec 3 1 k (ints (nats d))] (.ref 0 [] k (k + 1)) (.sl false (ints (nats d))) := Vw_intsR rfl (by simp [h3])
  by_cases hk : k < most
  · have g1 : (k : Int) < (most : Int) := by omega
    by_cases hm0 : m = 0
    · subst hm0
      have g2 : ¬ ((0 : Int) < ((0 : Nat) : Int)) := by omega
      simp only [run0, run1, run2, run3, run4, run5, run6, run7, run8, run9, run10, run11, run12, run13, run14, run15, run16, run17, run18, run19, run20, run21, run22, reduceCtorEq, Nat.reduceEqDiff, Nat.reduceAdd, Nat.reduceSub, Nat.reduceLeDiff, indexAddrA, indexRefA, appendA, strA, Nat.reduceMul, Nat.zero_mul, Nat.reduceMod, Int.reduceEq, Int.reduceLT, Int.reduceLE, Nat.reduceLT, Nat.lt_irrefl, Nat.reduceBEq, tys0, tys1, tys2, tys3, tys4, tys5, tys6, tys7, tys8, tys9, tys10, tys11, tys12, tys13, tys14, tys15, tys16, tys17, tys18, Try.ntmps74, Try.results74, g1, g2]
      rw [hfin (.inr rfl)]
      exact Fin.value (Vw.tup (.cons hv (.cons (Vw.pur (Pur.bool _)) .nil)))
    · have g2 : (0 : Int) < (m : Int) := by omega
      have w1 : IntKind.i64.wrap ((b : Int) + (k : Int)) = ((b + k : Nat) : Int) := by rw [w64_id (by omega) (by omega)]; omega
      have w2 : IntKind.i64.wrap (((b + k : Nat) : Int) + 1) = ((b + k : Nat) : Int) + 1 := w64_id (by omega) (by omega)
      obtain ⟨r1, r2⟩ := raV_rng (n := m) (b := b + k) (by omega) (by omega) h4 (by omega)
      have hsz := hoT_sz h4 (show 2 ≤ b + k by omega)
      have hval := valueOf_ok (hoT m ((b + k : Nat) : Int)) (((b + k : Nat) : Int) + 1) (by omega) (by omega) (by omega) (hoT_rng (by omega) (by omega))
      have hr : valT (((b + k : Nat) : Int) + 1) (hoT m ((b + k : Nat) : Int)) = raV m (b + k) := rfl
      rw [hr] at hval
      simp only [run0, run1, run2, run3, run4, run5, run6, run7, run8, run9, run10, run11, run12, run13, run14, run15, run16, run17, run18, run19, run20, run21, run22, reduceCtorEq, Nat.reduceEqDiff, Nat.reduceAdd, Nat.reduceSub, Nat.reduceLeDiff, indexAddrA, indexRefA, appendA, strA, Nat.reduceMul, Nat.zero_mul, Nat.reduceMod, Int.reduceEq, Int.reduceLT, Int.reduceLE, Nat.reduceLT, Nat.lt_irrefl, Nat.reduceBEq, tys0, tys1, tys2, tys3, tys4, tys5, tys6, tys7, tys8, tys9, tys10, tys11, tys12, tys13, tys14, tys15, tys16, tys17, tys18, Try.ntmps74, Try.results74, g1, g2, w1, w2]
      refine RunL.callp rfl rfl ok_f53 (hered_ok m (b + k) h4 (by omega) (by omega)) (by first | rfl | simp only [pureL, pureB, Bool.and_self, Bool.and_true, Bool.true_and, Od.elems_pure, Od.pay_pure, Od.av_pure]) rfl ?_
      simp only [run0, run1, run2, run3, run4, run5, run6, run7, run8, run9, run10, run11, run12, run13, run14, run15, run16, run17, run18, run19, run20, run21, run22, reduceCtorEq, Nat.reduceEqDiff, Nat.reduceAdd, Nat.reduceSub, Nat.reduceLeDiff, indexAddrA, indexRefA, appendA, strA, Nat.reduceMul, Nat.zero_mul, Nat.reduceMod, Int.reduceEq, Int.reduceLT, Int.reduceLE, Nat.reduceLT, Nat.lt_irrefl, Nat.reduceBEq, tys0, tys1, tys2, tys3, tys4, tys5, tys6, tys7, tys8, tys9, tys10, tys11, tys12, tys13, tys14, tys15, tys16, tys17, tys18, Try.ntmps74, Try.results74, w1, w2]
      refine RunL.callp rfl rfl ok_f65 (hval) (by first | rfl | simp only [pureL, pureB, Bool.and_self, Bool.and_true, Bool.true_and, Od.elems_pure, Od.pay_pure, Od.av_pure]) rfl ?_
      rw [show most - k = (most - (k + 1)) + 1 by omega] at h5
      by_cases hg : 1000000 < raV m (b + k)
      · simp only [run0, run1, run2, run3, run4, run5, run6, run7, run8, run9, run10, run11, run12, run13, run14, run15, run16, run17, run18, run19, run20, run21, run22, reduceCtorEq, Nat.reduceEqDiff, Nat.reduceAdd, Nat.reduceSub, Nat.reduceLeDiff, indexAddrA, indexRefA, appendA, strA, Nat.reduceMul, Nat.zero_mul, Nat.reduceMod, Int.reduceEq, Int.reduceLT, Int.reduceLE, Nat.reduceLT, Nat.lt_irrefl, Nat.reduceBEq, tys0, tys1, tys2, tys3, tys4, tys5, tys6, tys7, tys8, tys9, tys10, tys11, tys12, tys13, tys14, tys15, tys16, tys17, tys18, Try.ntmps74, Try.results74, hg]
        rw [gsR_big (by omega) hg] at h5
        rw [← h5]
        exact Fin.value (Vw.tup (.cons (Vw.nil false) (.cons (Vw.pur (Pur.bool _)) .nil)))
      · obtain ⟨q, hq⟩ : ∃ q : Nat, raV m (b + k) = (q : Int) + 1 := ⟨(raV m (b + k)).toNat - 1, by omega⟩
        rw [gsR_step (by omega) hg, show (raV m (b + k)).toNat - 1 = q by omega, Option.map_map] at h5
        rw [hq] at hg
        have w3 : IntKind.i64.wrap ((q : Int) + 1 - 1) = (q : Int) := by rw [w64_id (by omega) (by omega)]; omega
        have w4 : IntKind.i64.wrap ((k : Int) + 1) = ((k + 1 : Nat) : Int) := by rw [w64_id (by omega) (by omega)]; omega
        have f3 : k + 1 + 1 ≤ 137438953472 := by omega
        have f4 : noOwn (ints (nats d)) = true := ints_noOwn _
        have f5 : k + 1 = d.length := h3.symm
        rw [hq]
        simp only [run0, run1, run2, run3, run4, run5, run6, run7, run8, run9, run10, run11, run12, run13, run14, run15, run16, run17, run18, run19, run20, run21, run22, reduceCtorEq, Nat.reduceEqDiff, Nat.reduceAdd, Nat.reduceSub, Nat.reduceLeDiff, indexAddrA, indexRefA, appendA, strA, Nat.reduceMul, Nat.zero_mul, Nat.reduceMod, Int.reduceEq, Int.reduceLT, Int.reduceLE, Nat.reduceLT, Nat.lt_irrefl, Nat.reduceBEq, tys0, tys1, tys2, tys3, tys4, tys5, tys6, tys7, tys8, tys9, tys10, tys11, tys12, tys13, tys14, tys15, tys16, tys17, tys18, Try.ntmps74, Try.results74, hg, w3, w4, f3, f4, List.length_map, h3]
        exact ⟨(d ++ [q], k + 1, q), ⟨by simp only; omega, by simp [h3], by simp only; omega, by rw [← h5]; simp only [Nat.add_assoc]; congr 1; funext z; simp⟩, by simp only; omega, by repeat constructor, by simp⟩
  · have g1 : ¬ ((k : Int) < (most : Int)) := by omega
    simp only [run0, run1, run2, run3, run4, run5, run6, run7, run8, run9, run10, run11, run12, run13, run14, run15, run16, run17, run18, run19, run20, run21, run22, reduceCtorEq, Nat.reduceEqDiff, Nat.reduceAdd, Nat.reduceSub, Nat.reduceLeDiff, indexAddrA, indexRefA, appendA, strA, Nat.reduceMul, Nat.zero_mul, Nat.reduceMod, Int.reduceEq, Int.reduceLT, Int.reduceLE, Nat.reduceLT, Nat.lt_irrefl, Nat.reduceBEq, tys0, tys1, tys2, tys3, tys4, tys5, tys6, tys7, tys8, tys9, tys10, tys11, tys12, tys13, tys14, tys15, tys16, tys17, tys18, Try.ntmps74, Try.results74, g1]
    rw [hfin (.inl (by omega))]
    exact Fin.value (Vw.tup (.cons hv (.cons (Vw.pur (Pur.bool _)) .nil)))

end Go.Proofs.Ytphmkhaboghagaa
/-
  Goodstein's sequences and their ordinals: what the program and the reference answer.
-/
namespace Go.Proofs.Ytphmkhaboghagaa
open Go K Od
set_option linter.unusedSimpArgs false
set_option linter.unusedVariables false
set_option maxHeartbeats 1600000
set_option maxRecDepth 8000

theorem implGs_ok (n b most : Int) : Ct Try.prog 74 [.int .i64 n, .int .i64 b, .int .i64 most] [] (optV (gsT n b most)) [] := by
  by_cases h : (hoIn n b && inB most 0 60) = true
  · have hT : gsT n b most = (gsR most.toNat b.toNat n.toNat).map (n.toNat :: ·) := by unfold gsT; rw [if_pos h]
    rw [hT]
    simp only [Bool.and_eq_true] at h
    obtain ⟨m, c, rfl, rfl, q1, q2, q3⟩ := hoIn_spec h.1
    have hm := inB_spec h.2
    obtain ⟨k, rfl⟩ := Int.eq_ofNat_of_zero_le hm.1
    exact runI_ok m c k q1 q2 q3 (by omega)
  have hT : gsT n b most = none := by unfold gsT; rw [if_neg h]
  rw [hT]
  cases h0 : inB n 0 1000000
  · refine Ct.by_ hmix [] Try.func74 rfl ?_
    simp only [run0, run1, run2, run3, run4, run5, run6, run7, run8, run9, run10, run11, run12, run13, run14, run15, run16, run17, run18, run19, run20, run21, run22, reduceCtorEq, Nat.reduceEqDiff, Nat.reduceAdd, Nat.reduceSub, Nat.reduceLeDiff, indexAddrA, indexRefA, appendA, strA, Nat.reduceMul, Nat.zero_mul, Nat.reduceMod, Int.reduceEq, Int.reduceLT, Int.reduceLE, Nat.reduceLT, Nat.lt_irrefl, Nat.reduceBEq, tys0, tys1, tys2, tys3, tys4, tys5, tys6, tys7, tys8, tys9, tys10, tys11, tys12, tys13, tys14, tys15, tys16, tys17, tys18, Try.ntmps74, Try.results74]
    refine RunL.callp rfl rfl ok_f50 (in_ok n 0 1000000) (by first | rfl | simp only [pureL, pureB, Bool.and_self, Bool.and_true, Bool.true_and, Od.elems_pure, Od.pay_pure, Od.av_pure]) rfl ?_
    simp only [run0, run1, run2, run3, run4, run5, run6, run7, run8, run9, run10, run11, run12, run13, run14, run15, run16, run17, run18, run19, run20, run21, run22, reduceCtorEq, Nat.reduceEqDiff, Nat.reduceAdd, Nat.reduceSub, Nat.reduceLeDiff, indexAddrA, indexRefA, appendA, strA, Nat.reduceMul, Nat.zero_mul, Nat.reduceMod, Int.reduceEq, Int.reduceLT, Int.reduceLE, Nat.reduceLT, Nat.lt_irrefl, Nat.reduceBEq, tys0, tys1, tys2, tys3, tys4, tys5, tys6, tys7, tys8, tys9, tys10, tys11, tys12, tys13, tys14, tys15, tys16, tys17, tys18, Try.ntmps74, Try.results74, h0]
    exact Fin.value (Vw.tup (.cons (Vw.nil false) (.cons (Vw.pur (Pur.bool _)) .nil)))
  cases h1 : inB b 2 1000
  · refine Ct.by_ hmix [] Try.func74 rfl ?_
    simp only [run0, run1, run2, run3, run4, run5, run6, run7, run8, run9, run10, run11, run12, run13, run14, run15, run16, run17, run18, run19, run20, run21, run22, reduceCtorEq, Nat.reduceEqDiff, Nat.reduceAdd, Nat.reduceSub, Nat.reduceLeDiff, indexAddrA, indexRefA, appendA, strA, Nat.reduceMul, Nat.zero_mul, Nat.reduceMod, Int.reduceEq, Int.reduceLT, Int.reduceLE, Nat.reduceLT, Nat.lt_irrefl, Nat.reduceBEq, tys0, tys1, tys2, tys3, tys4, tys5, tys6, tys7, tys8, tys9, tys10, tys11, tys12, tys13, tys14, tys15, tys16, tys17, tys18, Try.ntmps74, Try.results74]
    refine RunL.callp rfl rfl ok_f50 (in_ok n 0 1000000) (by first | rfl | simp only [pureL, pureB, Bool.and_self, Bool.and_true, Bool.true_and, Od.elems_pure, Od.pay_pure, Od.av_pure]) rfl ?_
    simp only [run0, run1, run2, run3, run4, run5, run6, run7, run8, run9, run10, run11, run12, run13, run14, run15, run16, run17, run18, run19, run20, run21, run22, reduceCtorEq, Nat.reduceEqDiff, Nat.reduceAdd, Nat.reduceSub, Nat.reduceLeDiff, indexAddrA, indexRefA, appendA, strA, Nat.reduceMul, Nat.zero_mul, Nat.reduceMod, Int.reduceEq, Int.reduceLT, Int.reduceLE, Nat.reduceLT, Nat.lt_irrefl, Nat.reduceBEq, tys0, tys1, tys2, tys3, tys4, tys5, tys6, tys7, tys8, tys9, tys10, tys11, tys12, tys13, tys14, tys15, tys16, tys17, tys18, Try.ntmps74, Try.results74, h0]
    refine RunL.callp rfl rfl ok_f51 (baseOk_ok b) (by first | rfl | simp only [pureL, pureB, Bool.and_self, Bool.and_true, Bool.true_and, Od.elems_pure, Od.pay_pure, Od.av_pure]) rfl ?_
    simp only [run0, run1, run2, run3, run4, run5, run6, run7, run8, run9, run10, run11, run12, run13, run14, run15, run16, run17, run18, run19, run20, run21, run22, reduceCtorEq, Nat.reduceEqDiff, Nat.reduceAdd, Nat.reduceSub, Nat.reduceLeDiff, indexAddrA, indexRefA, appendA, strA, Nat.reduceMul, Nat.zero_mul, Nat.reduceMod, Int.reduceEq, Int.reduceLT, Int.reduceLE, Nat.reduceLT, Nat.lt_irrefl, Nat.reduceBEq, tys0, tys1, tys2, tys3, tys4, tys5, tys6, tys7, tys8, tys9, tys10, tys11, tys12, tys13, tys14, tys15, tys16, tys17, tys18, Try.ntmps74, Try.results74, h1]
    exact Fin.value (Vw.tup (.cons (Vw.nil false) (.cons (Vw.pur (Pur.bool _)) .nil)))
  cases h2 : inB most 0 60
  · refine Ct.by_ hmix [] Try.func74 rfl ?_
    simp only [run0, run1, run2, run3, run4, run5, run6, run7, run8, run9, run10, run11, run12, run13, run14, run15, run16, run17, run18, run19, run20, run21, run22, reduceCtorEq, Nat.reduceEqDiff, Nat.reduceAdd, Nat.reduceSub, Nat.reduceLeDiff, indexAddrA, indexRefA, appendA, strA, Nat.reduceMul, Nat.zero_mul, Nat.reduceMod, Int.reduceEq, Int.reduceLT, Int.reduceLE, Nat.reduceLT, Nat.lt_irrefl, Nat.reduceBEq, tys0, tys1, tys2, tys3, tys4, tys5, tys6, tys7, tys8, tys9, tys10, tys11, tys12, tys13, tys14, tys15, tys16, tys17, tys18, Try.ntmps74, Try.results74]
    refine RunL.callp rfl rfl ok_f50 (in_ok n 0 1000000) (by first | rfl | simp only [pureL, pureB, Bool.and_self, Bool.and_true, Bool.true_and, Od.elems_pure, Od.pay_pure, Od.av_pure]) rfl ?_
    simp only [run0, run1, run2, run3, run4, run5, run6, run7, run8, run9, run10, run11, run12, run13, run14, run15, run16, run17, run18, run19, run20, run21, run22, reduceCtorEq, Nat.reduceEqDiff, Nat.reduceAdd, Nat.reduceSub, Nat.reduceLeDiff, indexAddrA, indexRefA, appendA, strA, Nat.reduceMul, Nat.zero_mul, Nat.reduceMod, Int.reduceEq, Int.reduceLT, Int.reduceLE, Nat.reduceLT, Nat.lt_irrefl, Nat.reduceBEq, tys0, tys1, tys2, tys3, tys4, tys5, tys6, tys7, tys8, tys9, tys10, tys11, tys12, tys13, tys14, tys15, tys16, tys17, tys18, Try.ntmps74, Try.results74, h0]
    refine RunL.callp rfl rfl ok_f51 (baseOk_ok b) (by first | rfl | simp only [pureL, pureB, Bool.and_self, Bool.and_true, Bool.true_and, Od.elems_pure, Od.pay_pure, Od.av_pure]) rfl ?_
    simp only [run0, run1, run2, run3, run4, run5, run6, run7, run8, run9, run10, run11, run12, run13, run14, run15, run16, run17, run18, run19, run20, run21, run22, reduceCtorEq, Nat.reduceEqDiff, Nat.reduceAdd, Nat.reduceSub, Nat.reduceLeDiff, indexAddrA, indexRefA, appendA, strA, Nat.reduceMul, Nat.zero_mul, Nat.reduceMod, Int.reduceEq, Int.reduceLT, Int.reduceLE, Nat.reduceLT, Nat.lt_irrefl, Nat.reduceBEq, tys0, tys1, tys2, tys3, tys4, tys5, tys6, tys7, tys8, tys9, tys10, tys11, tys12, tys13, tys14, tys15, tys16, tys17, tys18, Try.ntmps74, Try.results74, h1]
    refine RunL.callp rfl rfl ok_f50 (in_ok most 0 60) (by first | rfl | simp only [pureL, pureB, Bool.and_self, Bool.and_true, Bool.true_and, Od.elems_pure, Od.pay_pure, Od.av_pure]) rfl ?_
    simp only [run0, run1, run2, run3, run4, run5, run6, run7, run8, run9, run10, run11, run12, run13, run14, run15, run16, run17, run18, run19, run20, run21, run22, reduceCtorEq, Nat.reduceEqDiff, Nat.reduceAdd, Nat.reduceSub, Nat.reduceLeDiff, indexAddrA, indexRefA, appendA, strA, Nat.reduceMul, Nat.zero_mul, Nat.reduceMod, Int.reduceEq, Int.reduceLT, Int.reduceLE, Nat.reduceLT, Nat.lt_irrefl, Nat.reduceBEq, tys0, tys1, tys2, tys3, tys4, tys5, tys6, tys7, tys8, tys9, tys10, tys11, tys12, tys13, tys14, tys15, tys16, tys17, tys18, Try.ntmps74, Try.results74, h2]
    exact Fin.value (Vw.tup (.cons (Vw.nil false) (.cons (Vw.pur (Pur.bool _)) .nil)))
  · exact absurd (by simp [hoIn, h0, h1, h2]) h

theorem deRaise_ok (m b : Nat) (h1 : m ≤ 1000000) (hb : 2 ≤ b) (hb2 : b ≤ 1999) : Ct Try.prog 109 [.int .i64 (m : Int), .int .i64 (b : Int)] [] (.int .i64 (raV m b)) [] := by
  have w1 : IntKind.i64.wrap ((b : Int) + 1) = (b : Int) + 1 := w64_id (by omega) (by omega)
  have hsz := hoT_sz h1 hb
  have hval := deValue_ok (hoT m b) ((b : Int) + 1) (by omega) (by omega) (by omega) (hoT_rng hb (by omega))
  refine Ct.by_ hmix [] Try.func109 rfl ?_
  simp only [run0, run1, run2, run3, run4, run5, run6, run7, run8, run9, run10, run11, run12, run13, run14, run15, run16, run17, run18, run19, run20, run21, run22, reduceCtorEq, Nat.reduceEqDiff, Nat.reduceAdd, Nat.reduceSub, Nat.reduceLeDiff, indexAddrA, indexRefA, appendA, strA, Nat.reduceMul, Nat.zero_mul, Nat.reduceMod, Int.reduceEq, Int.reduceLT, Int.reduceLE, Nat.reduceLT, Nat.lt_irrefl, Nat.reduceBEq, tys0, tys1, tys2, tys3, tys4, tys5, tys6, tys7, tys8, tys9, tys10, tys11, tys12, tys13, tys14, tys15, tys16, tys17, tys18, Try.ntmps109, Try.results109]
  refine RunL.callp rfl rfl ok_f49 (form_ok m b h1 hb (by omega)) (by first | rfl | simp only [pureL, pureB, Bool.and_self, Bool.and_true, Bool.true_and, Od.elems_pure, Od.pay_pure, Od.av_pure]) rfl ?_
  simp only [run0, run1, run2, run3, run4, run5, run6, run7, run8, run9, run10, run11, run12, run13, run14, run15, run16, run17, run18, run19, run20, run21, run22, reduceCtorEq, Nat.reduceEqDiff, Nat.reduceAdd, Nat.reduceSub, Nat.reduceLeDiff, indexAddrA, indexRefA, appendA, strA, Nat.reduceMul, Nat.zero_mul, Nat.reduceMod, Int.reduceEq, Int.reduceLT, Int.reduceLE, Nat.reduceLT, Nat.lt_irrefl, Nat.reduceBEq, tys0, tys1, tys2, tys3, tys4, tys5, tys6, tys7, tys8, tys9, tys10, tys11, tys12, tys13, tys14, tys15, tys16, tys17, tys18, Try.ntmps109, Try.results109, w1]
  refine RunL.callp rfl rfl ok_f61 (hval) (by first | rfl | simp only [pureL, pureB, Bool.and_self, Bool.and_true, Bool.true_and, Od.elems_pure, Od.pay_pure, Od.av_pure]) rfl ?_
  simp only [run0, run1, run2, run3, run4, run5, run6, run7, run8, run9, run10, run11, run12, run13, run14, run15, run16, run17, run18, run19, run20, run21, run22, reduceCtorEq, Nat.reduceEqDiff, Nat.reduceAdd, Nat.reduceSub, Nat.reduceLeDiff, indexAddrA, indexRefA, appendA, strA, Nat.reduceMul, Nat.zero_mul, Nat.reduceMod, Int.reduceEq, Int.reduceLT, Int.reduceLE, Nat.reduceLT, Nat.lt_irrefl, Nat.reduceBEq, tys0, tys1, tys2, tys3, tys4, tys5, tys6, tys7, tys8, tys9, tys10, tys11, tys12, tys13, tys14, tys15, tys16, tys17, tys18, Try.ntmps109, Try.results109]
  exact Fin.eq rfl rfl

theorem runS_ok (n b most : Nat) (h1 : n ≤ 1000000) (hb : 2 ≤ b) (hb2 : b ≤ 1000) (hm : most ≤ 60) : Ct Try.prog 73 [.int .i64 (n : Int), .int .i64 (b : Int), .int .i64 (most : Int)] [] (optV ((gsR most b n).map (n :: ·))) [] := by
  refine Ct.by_ hmix [ 1000000 + 10] Try.func73 rfl ?_
  simp only [run0, run1, run2, run3, run4, run5, run6, run7, run8, run9, run10, run11, run12, run13, run14, run15, run16, run17, run18, run19, run20, run21, run22, reduceCtorEq, Nat.reduceEqDiff, Nat.reduceAdd, Nat.reduceSub, Nat.reduceLeDiff, indexAddrA, indexRefA, appendA, strA, Nat.reduceMul, Nat.zero_mul, Nat.reduceMod, Int.reduceEq, Int.reduceLT, Int.reduceLE, Nat.reduceLT, Nat.lt_irrefl, Nat.reduceBEq, tys0, tys1, tys2, tys3, tys4, tys5, tys6, tys7, tys8, tys9, tys10, tys11, tys12, tys13, tys14, tys15, tys16, tys17, tys18, Try.ntmps73, Try.results73]
  refine AWp.loop_inv (ι := List Nat × Nat × Nat × Nat) (fun p => ⟨[.int .i64 p.2.2.1, .int .i64 ((b + p.2.1 : Nat) : Int), .int .i64 p.2.2.2, .junk, .junk, .junk, .lit (.slice none 0 0), .bool false, .ref 0 [] p.2.1 (p.2.1 + 1), .junk, .junk, .junk, .junk, .junk, .junk, .junk, .junk, .junk, .junk, .junk, .junk, .junk, .junk, .junk, .junk, .junk, .junk, .junk, .junk, .junk, .junk, .junk, .junk], [.vec 3 1 p.2.1 (ints (nats p.1))]⟩)
    (fun p => p.2.1 + p.2.2.2 = most ∧ p.1.length = p.2.1 + 1 ∧ p.2.2.1 ≤ 1000000 ∧ (gsR p.2.2.2 (b + p.2.1) p.2.2.1).map (p.1 ++ ·) = (gsR most b n).map (n :: ·)) (fun p => p.2.2.2) ([n], 0, n, most) ⟨by simp, rfl, h1, rfl⟩ ⟨by repeat constructor, rfl⟩ ?_
  rintro ⟨d, k, m, j⟩ ⟨h2, h3, h4, h5⟩
  simp only at h2 h3 h4 h5
  refine W.sound hmix (E := []) ?_
  have hfin : j = 0 ∨ m = 0 → (gsR most b n).map (n :: ·) = some d := fun h => by
    rw [← h5]
    rcases h with h | h
    · rw [h]; simp [gsR]
    · rw [h, gsR_zero]; simp
  have hv : Vw [.vec 3 1 k (ints (nats d))] (.ref 0 [] k (k + 1)) (.sl false (ints (nats d))) := Vw_intsR rfl (by simp [h3])
  by_cases hk : 0 < j
  · have g1 : (0 : Int) < (j : Int) := by omega
    by_cases hm0 : m = 0
    · subst hm0
      have g2 : ¬ ((0 : Int) < ((0 : Nat) : Int)) := by omega
      simp only [run0, run1, run2, run3, run4, run5, run6, run7, run8, run9, run10, run11, run12, run13, run14, run15, run16, run17, run18, run19, run20, run21, run22, reduceCtorEq, Nat.reduceEqDiff, Nat.reduceAdd, Nat.reduceSub, Nat.reduceLeDiff, indexAddrA, indexRefA, appendA, strA, Nat.reduceMul, Nat.zero_mul, Nat.reduceMod, Int.reduceEq, Int.reduceLT, Int.reduceLE, Nat.reduceLT, Nat.lt_irrefl, Nat.reduceBEq, tys0, tys1, tys2, tys3, tys4, tys5, tys6, tys7, tys8, tys9, tys10, tys11, tys12, tys13, tys14, tys15, tys16, tys17, tys18, Try.ntmps73, Try.results73, g1, g2]
      rw [hfin (.inr rfl)]
      exact Fin.value (Vw.tup (.cons hv (.cons (Vw.pur (Pur.bool _)) .nil)))
    · have g2 : (0 : Int) < (m : Int) := by omega
      obtain ⟨r1, r2⟩ := raV_rng (n := m) (b := b + k) (by omega) (by omega) h4 (by omega)
      simp only [run0, run1, run2, run3, run4, run5, run6, run7, run8, run9, run10, run11, run12, run13, run14, run15, run16, run17, run18, run19, run20, run21, run22, reduceCtorEq, Nat.reduceEqDiff, Nat.reduceAdd, Nat.reduceSub, Nat.reduceLeDiff, indexAddrA, indexRefA, appendA, strA, Nat.reduceMul, Nat.zero_mul, Nat.reduceMod, Int.reduceEq, Int.reduceLT, Int.reduceLE, Nat.reduceLT, Nat.lt_irrefl, Nat.reduceBEq, tys0, tys1, tys2, tys3, tys4, tys5, tys6, tys7, tys8, tys9, tys10, tys11, tys12, tys13, tys14, tys15, tys16, tys17, tys18, Try.ntmps73, Try.results73, g1, g2]
      refine RunL.callp rfl rfl ok_f109 (deRaise_ok m (b + k) h4 (by omega) (by omega)) (by first | rfl | simp only [pureL, pureB, Bool.and_self, Bool.and_true, Bool.true_and, Od.elems_pure, Od.pay_pure, Od.av_pure]) rfl ?_
      obtain ⟨i, rfl⟩ : ∃ i, j = i + 1 := ⟨j - 1, by omega⟩
      by_cases hg : 1000000 < raV m (b + k)
      · simp only [run0, run1, run2, run3, run4, run5, run6, run7, run8, run9, run10, run11, run12, run13, run14, run15, run16, run17, run18, run19, run20, run21, run22, reduceCtorEq, Nat.reduceEqDiff, Nat.reduceAdd, Nat.reduceSub, Nat.reduceLeDiff, indexAddrA, indexRefA, appendA, strA, Nat.reduceMul, Nat.zero_mul, Nat.reduceMod, Int.reduceEq, Int.reduceLT, Int.reduceLE, Nat.reduceLT, Nat.lt_irrefl, Nat.reduceBEq, tys0, tys1, tys2, tys3, tys4, tys5, tys6, tys7, tys8, tys9, tys10, tys11, tys12, tys13, tys14, tys15, tys16, tys17, tys18, Try.ntmps73, Try.results73, hg]
        rw [gsR_big (by omega) hg] at h5
        rw [← h5]
        exact Fin.value (Vw.tup (.cons (Vw.nil false) (.cons (Vw.pur (Pur.bool _)) .nil)))
      · obtain ⟨q, hq⟩ : ∃ q : Nat, raV m (b + k) = (q : Int) + 1 := ⟨(raV m (b + k)).toNat - 1, by omega⟩
        rw [gsR_step (by omega) hg, show (raV m (b + k)).toNat - 1 = q by omega, Option.map_map] at h5
        rw [hq] at hg
        have w3 : IntKind.i64.wrap ((q : Int) + 1 - 1) = (q : Int) := by rw [w64_id (by omega) (by omega)]; omega
        have w4 : IntKind.i64.wrap (((b + k : Nat) : Int) + 1) = ((b + (k + 1) : Nat) : Int) := by rw [w64_id (by omega) (by omega)]; omega
        have w5 : IntKind.i64.wrap (((i + 1 : Nat) : Int) - 1) = (i : Int) := by rw [w64_id (by omega) (by omega)]; omega
        have f3 : k + 1 + 1 ≤ 137438953472 := by omega
        have f4 : noOwn (ints (nats d)) = true := ints_noOwn _
        rw [hq]
        simp only [run0, run1, run2, run3, run4, run5, run6, run7, run8, run9, run10, run11, run12, run13, run14, run15, run16, run17, run18, run19, run20, run21, run22, reduceCtorEq, Nat.reduceEqDiff, Nat.reduceAdd, Nat.reduceSub, Nat.reduceLeDiff, indexAddrA, indexRefA, appendA, strA, Nat.reduceMul, Nat.zero_mul, Nat.reduceMod, Int.reduceEq, Int.reduceLT, Int.reduceLE, Nat.reduceLT, Nat.lt_irrefl, Nat.reduceBEq, tys0, tys1, tys2, tys3, tys4, tys5, tys6, tys7, tys8, tys9, tys10, tys11, tys12, tys13, tys14, tys15, tys16, tys17, tys18, Try.ntmps73, Try.results73, hg, w3, w4, w5, f3, f4, List.length_map, h3]
        exact ⟨(d ++ [q], k + 1, q, i), ⟨by simp only; omega, by simp [h3], by simp only; omega, by rw [← h5]; simp only [Nat.add_assoc]; congr 1; funext z; simp⟩, by simp only; omega, by repeat constructor, by simp⟩
  · have g1 : ¬ ((0 : Int) < (j : Int)) := by omega
    simp only [run0, run1, run2, run3, run4, run5, run6, run7, run8, run9, run10, run11, run12, run13, run14, run15, run16, run17, run18, run19, run20, run21, run22, reduceCtorEq, Nat.reduceEqDiff, Nat.reduceAdd, Nat.reduceSub, Nat.reduceLeDiff, indexAddrA, indexRefA, appendA, strA, Nat.reduceMul, Nat.zero_mul, Nat.reduceMod, Int.reduceEq, Int.reduceLT, Int.reduceLE, Nat.reduceLT, Nat.lt_irrefl, Nat.reduceBEq, tys0, tys1, tys2, tys3, tys4, tys5, tys6, tys7, tys8, tys9, tys10, tys11, tys12, tys13, tys14, tys15, tys16, tys17, tys18, Try.ntmps73, Try.results73, g1]
    rw [hfin (.inl (by omega))]
    exact Fin.value (Vw.tup (.cons hv (.cons (Vw.pur (Pur.bool _)) .nil)))

/-- The ordinals of a run. -/
def deL (b : Nat) : List Nat → Nat → Option (List Od)
  | [], _ => some []
  | m :: r, k => if goodT (hoT m ((b + k : Nat) : Int)) then (deL b r (k + 1)).map (hoT m ((b + k : Nat) : Int) :: ·) else none
theorem deL_cons (b m k : Nat) (r : List Nat) : deL b (m :: r) k = if goodT (hoT m ((b + k : Nat) : Int)) then (deL b r (k + 1)).map (hoT m ((b + k : Nat) : Int) :: ·) else none := rfl
theorem deL_good {b : Nat} : ∀ {l : List Nat} {k : Nat} {r : List Od}, deL b l k = some r → r.length = l.length ∧ ∀ a ∈ r, goodT a = true
  | [], k, r, h => by simp [deL] at h; subst h; simp
  | m :: l, k, r, h => by
    unfold deL at h
    split at h
    · rename_i hg
      obtain ⟨r', h1, rfl⟩ := Option.map_eq_some_iff.1 h
      obtain ⟨h2, h3⟩ := deL_good h1
      refine ⟨by simp [h2], fun a ha => ?_⟩
      rcases List.mem_cons.1 ha with rfl | ha
      · exact hg
      · exact h3 a ha
    · cases h
def deT (n b most : Int) : Option (List Od) := (gsT n b most).bind fun l => deL b.toNat l 0
theorem deT_good {n b most : Int} : ((deT n b most).getD []).length ≤ 61 ∧ ∀ a ∈ (deT n b most).getD [], a.sz ≤ 29 := by
  cases h : deT n b most with
  | none => simp
  | some r =>
    unfold deT at h
    obtain ⟨l, h1, h2⟩ := Option.bind_eq_some_iff.1 h
    obtain ⟨q1, q2, _⟩ := gsT_all h1
    obtain ⟨q3, q4⟩ := deL_good h2
    refine ⟨by simp [q3, q1], fun a ha => ?_⟩
    have := q4 a (by simpa using ha)
    simp only [goodT, Bool.and_eq_true, decide_eq_true_eq] at this; omega

theorem deTurns_ok (m : Int) : Ct Try.prog 72 [.int .i64 m] [] (.bool (inB m 0 60)) [] := by
  refine Ct.by_ hmix [] Try.func72 rfl ?_
  simp only [run0, run1, run2, run3, run4, run5, run6, run7, run8, run9, run10, run11, run12, run13, run14, run15, run16, run17, run18, run19, run20, run21, run22, reduceCtorEq, Nat.reduceEqDiff, Nat.reduceAdd, Nat.reduceSub, Nat.reduceLeDiff, indexAddrA, indexRefA, appendA, strA, Nat.reduceMul, Nat.zero_mul, Nat.reduceMod, Int.reduceEq, Int.reduceLT, Int.reduceLE, Nat.reduceLT, Nat.lt_irrefl, Nat.reduceBEq, tys0, tys1, tys2, tys3, tys4, tys5, tys6, tys7, tys8, tys9, tys10, tys11, tys12, tys13, tys14, tys15, tys16, tys17, tys18, Try.ntmps72, Try.results72]
  refine RunL.callp rfl rfl ok_f59 (l1In_ok m 0 60) (by first | rfl | simp only [pureL, pureB, Bool.and_self, Bool.and_true, Bool.true_and, Od.elems_pure, Od.pay_pure, Od.av_pure]) rfl ?_
  simp only [run0, run1, run2, run3, run4, run5, run6, run7, run8, run9, run10, run11, run12, run13, run14, run15, run16, run17, run18, run19, run20, run21, run22, reduceCtorEq, Nat.reduceEqDiff, Nat.reduceAdd, Nat.reduceSub, Nat.reduceLeDiff, indexAddrA, indexRefA, appendA, strA, Nat.reduceMul, Nat.zero_mul, Nat.reduceMod, Int.reduceEq, Int.reduceLT, Int.reduceLE, Nat.reduceLT, Nat.lt_irrefl, Nat.reduceBEq, tys0, tys1, tys2, tys3, tys4, tys5, tys6, tys7, tys8, tys9, tys10, tys11, tys12, tys13, tys14, tys15, tys16, tys17, tys18, Try.ntmps72, Try.results72]
  exact Fin.eq rfl rfl

theorem nats_at (d r : List Nat) (m : Nat) : (ints (nats (d ++ m :: r)))[d.length]? = some (.int .i64 (m : Int)) := by simp
theorem Vw_avs {L : List AObj} {id g n : Nat} {T : TypeId} {os : List Od} (hL : L[id]? = some (.vec T 1 g (os.map av))) (hn : n = os.length) : Vw L (.ref id [] g n) (.sl false (os.map av)) := by
  have := Vw.refPur (o := false) (n := n) hL (by rw [hn]; simp) (fun e he c hc => by
    obtain ⟨x, _, rfl⟩ := List.mem_map.1 he
    simp only [av, AV.cells, List.mem_cons, List.not_mem_nil, or_false] at hc
    subst hc
    exact ⟨.of (by simp only [pureB, elems_pure]), fun xs h => by cases h⟩)
  rwa [List.take_of_length_le (by rw [hn]; simp)] at this

theorem specDO_ok (n b most : Int) : Ct Try.prog 30 [.int .i64 n, .int .i64 b, .int .i64 most] [] (.tup [.sl false (((deT n b most).getD []).map av), .bool (deT n b most).isSome]) [] := by
  cases h0 : hoIn n b
  · have hT : deT n b most = none := by simp [deT, gsT, h0]
    rw [hT]
    refine Ct.by_ hmix [] Try.func30 rfl ?_
    simp only [run0, run1, run2, run3, run4, run5, run6, run7, run8, run9, run10, run11, run12, run13, run14, run15, run16, run17, run18, run19, run20, run21, run22, reduceCtorEq, Nat.reduceEqDiff, Nat.reduceAdd, Nat.reduceSub, Nat.reduceLeDiff, indexAddrA, indexRefA, appendA, strA, Nat.reduceMul, Nat.zero_mul, Nat.reduceMod, Int.reduceEq, Int.reduceLT, Int.reduceLE, Nat.reduceLT, Nat.lt_irrefl, Nat.reduceBEq, tys0, tys1, tys2, tys3, tys4, tys5, tys6, tys7, tys8, tys9, tys10, tys11, tys12, tys13, tys14, tys15, tys16, tys17, tys18, Try.ntmps30, Try.results30]
    refine RunL.callp rfl rfl ok_f47 (deBase_ok n b) (by first | rfl | simp only [pureL, pureB, Bool.and_self, Bool.and_true, Bool.true_and, Od.elems_pure, Od.pay_pure, Od.av_pure]) rfl ?_
    simp only [run0, run1, run2, run3, run4, run5, run6, run7, run8, run9, run10, run11, run12, run13, run14, run15, run16, run17, run18, run19, run20, run21, run22, reduceCtorEq, Nat.reduceEqDiff, Nat.reduceAdd, Nat.reduceSub, Nat.reduceLeDiff, indexAddrA, indexRefA, appendA, strA, Nat.reduceMul, Nat.zero_mul, Nat.reduceMod, Int.reduceEq, Int.reduceLT, Int.reduceLE, Nat.reduceLT, Nat.lt_irrefl, Nat.reduceBEq, tys0, tys1, tys2, tys3, tys4, tys5, tys6, tys7, tys8, tys9, tys10, tys11, tys12, tys13, tys14, tys15, tys16, tys17, tys18, Try.ntmps30, Try.results30, h0]
    exact Fin.value (Vw.tup (.cons (Vw.nil false) (.cons (Vw.pur (Pur.bool _)) .nil)))
  cases h2 : inB most 0 60
  · have hT : deT n b most = none := by simp [deT, gsT, h2]
    rw [hT]
    refine Ct.by_ hmix [] Try.func30 rfl ?_
    simp only [run0, run1, run2, run3, run4, run5, run6, run7, run8, run9, run10, run11, run12, run13, run14, run15, run16, run17, run18, run19, run20, run21, run22, reduceCtorEq, Nat.reduceEqDiff, Nat.reduceAdd, Nat.reduceSub, Nat.reduceLeDiff, indexAddrA, indexRefA, appendA, strA, Nat.reduceMul, Nat.zero_mul, Nat.reduceMod, Int.reduceEq, Int.reduceLT, Int.reduceLE, Nat.reduceLT, Nat.lt_irrefl, Nat.reduceBEq, tys0, tys1, tys2, tys3, tys4, tys5, tys6, tys7, tys8, tys9, tys10, tys11, tys12, tys13, tys14, tys15, tys16, tys17, tys18, Try.ntmps30, Try.results30]
    refine RunL.callp rfl rfl ok_f47 (deBase_ok n b) (by first | rfl | simp only [pureL, pureB, Bool.and_self, Bool.and_true, Bool.true_and, Od.elems_pure, Od.pay_pure, Od.av_pure]) rfl ?_
    simp only [run0, run1, run2, run3, run4, run5, run6, run7, run8, run9, run10, run11, run12, run13, run14, run15, run16, run17, run18, run19, run20, run21, run22, reduceCtorEq, Nat.reduceEqDiff, Nat.reduceAdd, Nat.reduceSub, Nat.reduceLeDiff, indexAddrA, indexRefA, appendA, strA, Nat.reduceMul, Nat.zero_mul, Nat.reduceMod, Int.reduceEq, Int.reduceLT, Int.reduceLE, Nat.reduceLT, Nat.lt_irrefl, Nat.reduceBEq, tys0, tys1, tys2, tys3, tys4, tys5, tys6, tys7, tys8, tys9, tys10, tys11, tys12, tys13, tys14, tys15, tys16, tys17, tys18, Try.ntmps30, Try.results30, h0]
    refine RunL.callp rfl rfl ok_f72 (deTurns_ok most) (by first | rfl | simp only [pureL, pureB, Bool.and_self, Bool.and_true, Bool.true_and, Od.elems_pure, Od.pay_pure, Od.av_pure]) rfl ?_
    simp only [run0, run1, run2, run3, run4, run5, run6, run7, run8, run9, run10, run11, run12, run13, run14, run15, run16, run17, run18, run19, run20, run21, run22, reduceCtorEq, Nat.reduceEqDiff, Nat.reduceAdd, Nat.reduceSub, Nat.reduceLeDiff, indexAddrA, indexRefA, appendA, strA, Nat.reduceMul, Nat.zero_mul, Nat.reduceMod, Int.reduceEq, Int.reduceLT, Int.reduceLE, Nat.reduceLT, Nat.lt_irrefl, Nat.reduceBEq, tys0, tys1, tys2, tys3, tys4, tys5, tys6, tys7, tys8, tys9, tys10, tys11, tys12, tys13, tys14, tys15, tys16, tys17, tys18, Try.ntmps30, Try.results30, h2]
    exact Fin.value (Vw.tup (.cons (Vw.nil false) (.cons (Vw.pur (Pur.bool _)) .nil)))
  have hgT : gsT n b most = (gsR most.toNat b.toNat n.toNat).map (n.toNat :: ·) := by simp [gsT, h0, h2]
  obtain ⟨m0, c, rfl, rfl, q1, q2, q3⟩ := hoIn_spec h0
  have hm := inB_spec h2
  obtain ⟨k0, rfl⟩ := Int.eq_ofNat_of_zero_le hm.1
  have hrun := runS_ok m0 c k0 q1 q2 q3 (by omega)
  have hgT' : gsT (m0 : Int) (c : Int) (k0 : Int) = (gsR k0 c m0).map (m0 :: ·) := hgT
  rw [← hgT'] at hrun
  unfold deT
  rw [Int.toNat_natCast]
  cases hG : gsT (m0 : Int) (c : Int) (k0 : Int) with
  | none =>
    rw [hG] at hrun
    simp only [optV] at hrun
    refine Ct.by_ hmix [] Try.func30 rfl ?_
    simp only [run0, run1, run2, run3, run4, run5, run6, run7, run8, run9, run10, run11, run12, run13, run14, run15, run16, run17, run18, run19, run20, run21, run22, reduceCtorEq, Nat.reduceEqDiff, Nat.reduceAdd, Nat.reduceSub, Nat.reduceLeDiff, indexAddrA, indexRefA, appendA, strA, Nat.reduceMul, Nat.zero_mul, Nat.reduceMod, Int.reduceEq, Int.reduceLT, Int.reduceLE, Nat.reduceLT, Nat.lt_irrefl, Nat.reduceBEq, tys0, tys1, tys2, tys3, tys4, tys5, tys6, tys7, tys8, tys9, tys10, tys11, tys12, tys13, tys14, tys15, tys16, tys17, tys18, Try.ntmps30, Try.results30]
    refine RunL.callp rfl rfl ok_f47 (deBase_ok (m0 : Int) (c : Int)) (by first | rfl | simp only [pureL, pureB, Bool.and_self, Bool.and_true, Bool.true_and, Od.elems_pure, Od.pay_pure, Od.av_pure]) rfl ?_
    simp only [run0, run1, run2, run3, run4, run5, run6, run7, run8, run9, run10, run11, run12, run13, run14, run15, run16, run17, run18, run19, run20, run21, run22, reduceCtorEq, Nat.reduceEqDiff, Nat.reduceAdd, Nat.reduceSub, Nat.reduceLeDiff, indexAddrA, indexRefA, appendA, strA, Nat.reduceMul, Nat.zero_mul, Nat.reduceMod, Int.reduceEq, Int.reduceLT, Int.reduceLE, Nat.reduceLT, Nat.lt_irrefl, Nat.reduceBEq, tys0, tys1, tys2, tys3, tys4, tys5, tys6, tys7, tys8, tys9, tys10, tys11, tys12, tys13, tys14, tys15, tys16, tys17, tys18, Try.ntmps30, Try.results30, h0]
    refine RunL.callp rfl rfl ok_f72 (deTurns_ok (k0 : Int)) (by first | rfl | simp only [pureL, pureB, Bool.and_self, Bool.and_true, Bool.true_and, Od.elems_pure, Od.pay_pure, Od.av_pure]) rfl ?_
    simp only [run0, run1, run2, run3, run4, run5, run6, run7, run8, run9, run10, run11, run12, run13, run14, run15, run16, run17, run18, run19, run20, run21, run22, reduceCtorEq, Nat.reduceEqDiff, Nat.reduceAdd, Nat.reduceSub, Nat.reduceLeDiff, indexAddrA, indexRefA, appendA, strA, Nat.reduceMul, Nat.zero_mul, Nat.reduceMod, Int.reduceEq, Int.reduceLT, Int.reduceLE, Nat.reduceLT, Nat.lt_irrefl, Nat.reduceBEq, tys0, tys1, tys2, tys3, tys4, tys5, tys6, tys7, tys8, tys9, tys10, tys11, tys12, tys13, tys14, tys15, tys16, tys17, tys18, Try.ntmps30, Try.results30, h2]
    refine RunL.callp rfl rfl ok_f73 hrun (by simp only [pureL, pureB, Bool.and_self]) rfl ?_
    simp only [run0, run1, run2, run3, run4, run5, run6, run7, run8, run9, run10, run11, run12, run13, run14, run15, run16, run17, run18, run19, run20, run21, run22, reduceCtorEq, Nat.reduceEqDiff, Nat.reduceAdd, Nat.reduceSub, Nat.reduceLeDiff, indexAddrA, indexRefA, appendA, strA, Nat.reduceMul, Nat.zero_mul, Nat.reduceMod, Int.reduceEq, Int.reduceLT, Int.reduceLE, Nat.reduceLT, Nat.lt_irrefl, Nat.reduceBEq, tys0, tys1, tys2, tys3, tys4, tys5, tys6, tys7, tys8, tys9, tys10, tys11, tys12, tys13, tys14, tys15, tys16, tys17, tys18, Try.ntmps30, Try.results30, Option.isSome_none]
    exact Fin.value (Vw.tup (.cons (Vw.nil false) (.cons (Vw.pur (Pur.bool _)) .nil)))
  | some l =>
    obtain ⟨l1, l2, _⟩ := gsT_all hG
    rw [hG] at hrun
    simp only [optV, Option.getD_some, Option.isSome_some] at hrun
    simp only [Option.bind_some]
    refine Ct.by_ hmix [] Try.func30 rfl ?_
    simp only [run0, run1, run2, run3, run4, run5, run6, run7, run8, run9, run10, run11, run12, run13, run14, run15, run16, run17, run18, run19, run20, run21, run22, reduceCtorEq, Nat.reduceEqDiff, Nat.reduceAdd, Nat.reduceSub, Nat.reduceLeDiff, indexAddrA, indexRefA, appendA, strA, Nat.reduceMul, Nat.zero_mul, Nat.reduceMod, Int.reduceEq, Int.reduceLT, Int.reduceLE, Nat.reduceLT, Nat.lt_irrefl, Nat.reduceBEq, tys0, tys1, tys2, tys3, tys4, tys5, tys6, tys7, tys8, tys9, tys10, tys11, tys12, tys13, tys14, tys15, tys16, tys17, tys18, Try.ntmps30, Try.results30]
    refine RunL.callp rfl rfl ok_f47 (deBase_ok (m0 : Int) (c : Int)) (by first | rfl | simp only [pureL, pureB, Bool.and_self, Bool.and_true, Bool.true_and, Od.elems_pure, Od.pay_pure, Od.av_pure]) rfl ?_
    simp only [run0, run1, run2, run3, run4, run5, run6, run7, run8, run9, run10, run11, run12, run13, run14, run15, run16, run17, run18, run19, run20, run21, run22, reduceCtorEq, Nat.reduceEqDiff, Nat.reduceAdd, Nat.reduceSub, Nat.reduceLeDiff, indexAddrA, indexRefA, appendA, strA, Nat.reduceMul, Nat.zero_mul, Nat.reduceMod, Int.reduceEq, Int.reduceLT, Int.reduceLE, Nat.reduceLT, Nat.lt_irrefl, Nat.reduceBEq, tys0, tys1, tys2, tys3, tys4, tys5, tys6, tys7, tys8, tys9, tys10, tys11, tys12, tys13, tys14, tys15, tys16, tys17, tys18, Try.ntmps30, Try.results30, h0]
    refine RunL.callp rfl rfl ok_f72 (deTurns_ok (k0 : Int)) (by first | rfl | simp only [pureL, pureB, Bool.and_self, Bool.and_true, Bool.true_and, Od.elems_pure, Od.pay_pure, Od.av_pure]) rfl ?_
    simp only [run0, run1, run2, run3, run4, run5, run6, run7, run8, run9, run10, run11, run12, run13, run14, run15, run16, run17, run18, run19, run20, run21, run22, reduceCtorEq, Nat.reduceEqDiff, Nat.reduceAdd, Nat.reduceSub, Nat.reduceLeDiff, indexAddrA, indexRefA, appendA, strA, Nat.reduceMul, Nat.zero_mul, Nat.reduceMod, Int.reduceEq, Int.reduceLT, Int.reduceLE, Nat.reduceLT, Nat.lt_irrefl, Nat.reduceBEq, tys0, tys1, tys2, tys3, tys4, tys5, tys6, tys7, tys8, tys9, tys10, tys11, tys12, tys13, tys14, tys15, tys16, tys17, tys18, Try.ntmps30, Try.results30, h2]
    refine RunL.callp rfl rfl ok_f73 hrun (by simp only [pureL, pureB, Bool.and_self]) rfl ?_
    simp only [run0, run1, run2, run3, run4, run5, run6, run7, run8, run9, run10, run11, run12, run13, run14, run15, run16, run17, run18, run19, run20, run21, run22, reduceCtorEq, Nat.reduceEqDiff, Nat.reduceAdd, Nat.reduceSub, Nat.reduceLeDiff, indexAddrA, indexRefA, appendA, strA, Nat.reduceMul, Nat.zero_mul, Nat.reduceMod, Int.reduceEq, Int.reduceLT, Int.reduceLE, Nat.reduceLT, Nat.lt_irrefl, Nat.reduceBEq, tys0, tys1, tys2, tys3, tys4, tys5, tys6, tys7, tys8, tys9, tys10, tys11, tys12, tys13, tys14, tys15, tys16, tys17, tys18, Try.ntmps30, Try.results30, List.length_map]
    refine AWp.nil 10 24 1 rfl ?_
    simp only [run0, run1, run2, run3, run4, run5, run6, run7, run8, run9, run10, run11, run12, run13, run14, run15, run16, run17, run18, run19, run20, run21, run22, reduceCtorEq, Nat.reduceEqDiff, Nat.reduceAdd, Nat.reduceSub, Nat.reduceLeDiff, indexAddrA, indexRefA, appendA, strA, Nat.reduceMul, Nat.zero_mul, Nat.reduceMod, Int.reduceEq, Int.reduceLT, Int.reduceLE, Nat.reduceLT, Nat.lt_irrefl, Nat.reduceBEq, tys0, tys1, tys2, tys3, tys4, tys5, tys6, tys7, tys8, tys9, tys10, tys11, tys12, tys13, tys14, tys15, tys16, tys17, tys18, Try.ntmps30, Try.results30]
    refine AWp.loop_inv (ι := List Nat × List Nat × List Od × List AObj) (fun p => ⟨[.int .i64 m0, .int .i64 c, .junk, .junk, .junk, .junk, .lit (.slice none 0 0), .bool false, .junk, .junk, .ref 0 [] p.1.length p.1.length, .junk, .junk, .junk, .junk, .junk, .junk, .junk, .junk, .junk, .junk, .junk, .junk, .junk, .junk, .junk, .junk, .junk, .junk, .junk, .junk, .junk, .sl false (ints (nats l)), .int .i64 l.length, .int .i64 p.1.length, .junk, .junk, .junk, .junk, .junk, .junk, .junk, .junk, .junk, .junk, .junk, .junk, .junk, .junk, .junk, .junk, .junk, .junk], .vec 24 1 p.1.length (p.2.2.1.map av) :: p.2.2.2⟩)
      (fun p => l = p.1 ++ p.2.1 ∧ p.2.2.1.length = p.1.length ∧ (deL c p.2.1 p.1.length).map (p.2.2.1 ++ ·) = deL c l 0) (fun p => p.2.1.length) ([], l, [], []) ⟨rfl, rfl, by simp⟩ ⟨by simp only [List.length_nil, Int.natCast_zero]; repeat constructor, rfl⟩ ?_
    rintro ⟨d, r, os, X⟩ ⟨ha, h3, h4⟩
    simp only at ha h3 h4
    have hda : l.length = d.length + r.length := by rw [ha]; simp
    refine W.sound hmix (E := []) ?_
    cases r with
    | nil =>
      have e1 : ¬ ((d.length : Int) < (l.length : Int)) := by simp at hda; omega
      have h5 : deL c l 0 = some os := by rw [← h4]; simp [deL]
      rw [h5]
      simp only [run0, run1, run2, run3, run4, run5, run6, run7, run8, run9, run10, run11, run12, run13, run14, run15, run16, run17, run18, run19, run20, run21, run22, reduceCtorEq, Nat.reduceEqDiff, Nat.reduceAdd, Nat.reduceSub, Nat.reduceLeDiff, indexAddrA, indexRefA, appendA, strA, Nat.reduceMul, Nat.zero_mul, Nat.reduceMod, Int.reduceEq, Int.reduceLT, Int.reduceLE, Nat.reduceLT, Nat.lt_irrefl, Nat.reduceBEq, tys0, tys1, tys2, tys3, tys4, tys5, tys6, tys7, tys8, tys9, tys10, tys11, tys12, tys13, tys14, tys15, tys16, tys17, tys18, Try.ntmps30, Try.results30, e1]
      exact Fin.value (Vw.tup (.cons (Vw_avs rfl h3.symm) (.cons (Vw.pur (Pur.bool _)) .nil)))
    | cons m r =>
      simp only [List.length_cons] at hda
      have e1 : (d.length : Int) < (l.length : Int) := by omega
      have e2 : (ints (nats l))[d.length]? = some (.int .i64 (m : Int)) := by rw [ha]; exact nats_at d r m
      have e5 : IntKind.i64.wrap ((d.length : Int) + 1) = ((d ++ [m]).length : Int) := by rw [w64_id (by omega) (by omega)]; simp
      have w1 : IntKind.i64.wrap ((c : Int) + (d.length : Int)) = ((c + d.length : Nat) : Int) := by rw [w64_id (by omega) (by omega)]; omega
      have hmb : m ≤ 1000000 := l2 m (by rw [ha]; simp)
      have hsz := hoT_sz hmb (show 2 ≤ c + d.length by omega)
      have hgd := odGood_ok (hoT m ((c + d.length : Nat) : Int)) (by omega)
      simp only [av] at hgd
      rw [deL_cons] at h4
      simp only [run0, run1, run2, run3, run4, run5, run6, run7, run8, run9, run10, run11, run12, run13, run14, run15, run16, run17, run18, run19, run20, run21, run22, reduceCtorEq, Nat.reduceEqDiff, Nat.reduceAdd, Nat.reduceSub, Nat.reduceLeDiff, indexAddrA, indexRefA, appendA, strA, Nat.reduceMul, Nat.zero_mul, Nat.reduceMod, Int.reduceEq, Int.reduceLT, Int.reduceLE, Nat.reduceLT, Nat.lt_irrefl, Nat.reduceBEq, tys0, tys1, tys2, tys3, tys4, tys5, tys6, tys7, tys8, tys9, tys10, tys11, tys12, tys13, tys14, tys15, tys16, tys17, tys18, Try.ntmps30, Try.results30, e1, e2, w1, Int.toNat_natCast, Int.natCast_nonneg]
      refine RunL.callp rfl rfl ok_f49 (form_ok m (c + d.length) hmb (by omega) (by omega)) (by first | rfl | simp only [pureL, pureB, Bool.and_self, Bool.and_true, Bool.true_and, Od.elems_pure, Od.pay_pure, Od.av_pure]) rfl ?_
      simp only [run0, run1, run2, run3, run4, run5, run6, run7, run8, run9, run10, run11, run12, run13, run14, run15, run16, run17, run18, run19, run20, run21, run22, reduceCtorEq, Nat.reduceEqDiff, Nat.reduceAdd, Nat.reduceSub, Nat.reduceLeDiff, indexAddrA, indexRefA, appendA, strA, Nat.reduceMul, Nat.zero_mul, Nat.reduceMod, Int.reduceEq, Int.reduceLT, Int.reduceLE, Nat.reduceLT, Nat.lt_irrefl, Nat.reduceBEq, tys0, tys1, tys2, tys3, tys4, tys5, tys6, tys7, tys8, tys9, tys10, tys11, tys12, tys13, tys14, tys15, tys16, tys17, tys18, Try.ntmps30, Try.results30, av]
      refine RunL.callp rfl rfl ok_f58 (hgd) (by first | rfl | simp only [pureL, pureB, Bool.and_self, Bool.and_true, Bool.true_and, Od.elems_pure, Od.pay_pure, Od.av_pure]) rfl ?_
      cases hg : goodT (hoT m ((c + d.length : Nat) : Int))
      · rw [hg] at h4
        simp only [Bool.false_eq_true, if_false, Option.map_none] at h4
        rw [← h4]
        simp only [run0, run1, run2, run3, run4, run5, run6, run7, run8, run9, run10, run11, run12, run13, run14, run15, run16, run17, run18, run19, run20, run21, run22, reduceCtorEq, Nat.reduceEqDiff, Nat.reduceAdd, Nat.reduceSub, Nat.reduceLeDiff, indexAddrA, indexRefA, appendA, strA, Nat.reduceMul, Nat.zero_mul, Nat.reduceMod, Int.reduceEq, Int.reduceLT, Int.reduceLE, Nat.reduceLT, Nat.lt_irrefl, Nat.reduceBEq, tys0, tys1, tys2, tys3, tys4, tys5, tys6, tys7, tys8, tys9, tys10, tys11, tys12, tys13, tys14, tys15, tys16, tys17, tys18, Try.ntmps30, Try.results30, hg]
        exact Fin.value (Vw.tup (.cons (Vw.nil false) (.cons (Vw.pur (Pur.bool _)) .nil)))
      · rw [hg] at h4
        simp only [if_true, Option.map_map] at h4
        have f3 : d.length + 1 ≤ 137438953472 := by omega
        have f4 : noOwn (os.map av) = true := avs_noOwn os
        simp only [run0, run1, run2, run3, run4, run5, run6, run7, run8, run9, run10, run11, run12, run13, run14, run15, run16, run17, run18, run19, run20, run21, run22, reduceCtorEq, Nat.reduceEqDiff, Nat.reduceAdd, Nat.reduceSub, Nat.reduceLeDiff, indexAddrA, indexRefA, appendA, strA, Nat.reduceMul, Nat.zero_mul, Nat.reduceMod, Int.reduceEq, Int.reduceLT, Int.reduceLE, Nat.reduceLT, Nat.lt_irrefl, Nat.reduceBEq, tys0, tys1, tys2, tys3, tys4, tys5, tys6, tys7, tys8, tys9, tys10, tys11, tys12, tys13, tys14, tys15, tys16, tys17, tys18, Try.ntmps30, Try.results30, hg, e5, f3, f4, h3, List.length_map]
        exact ⟨(d ++ [m], r, os ++ [hoT m ((c + d.length : Nat) : Int)], _), ⟨by simp [ha], by simp [h3], by rw [← h4]; simp only [List.length_append, List.length_cons, List.length_nil]; congr 1; funext z; simp⟩, by simp, by simp only [List.length_append, List.length_cons, List.length_nil]; repeat constructor, by simp [av]; rfl⟩

end Go.Proofs.Ytphmkhaboghagaa
/-
  The ordinals of Goodstein's sequences: what the program answers, with rows of its own.
-/
namespace Go.Proofs.Ytphmkhaboghagaa
open Go K Od
set_option linter.unusedSimpArgs false
set_option linter.unusedVariables false
set_option maxHeartbeats 3200000
set_option maxRecDepth 8000

structure DoS where
  d : List Nat
  r : List Nat
  os : List Od
  es : List AV
  X : List AObj
  S : List Nat
def DoR (n b most : Int) (M : List AObj) (r : AV) : Prop := ∃ x S, r = .tup [x, .bool (deT n b most).isSome] ∧ OwnO M ((deT n b most).getD []) x S ∧ S.Nodup ∧ M.all okSO = true
theorem DoR_none {n b most : Int} (h : deT n b most = none) (L : List AObj) : DoR n b most (keepS [] L) (.tup [nilV, .bool false]) := by
  refine ⟨nilV, [], by rw [h]; rfl, .inl ⟨by rw [h]; rfl, rfl, rfl⟩, List.nodup_nil, keepS_okSO _ _⟩

theorem implDO_ok (n b most : Int) : ∃ r M, Ct Try.prog 31 [.int .i64 n, .int .i64 b, .int .i64 most] [] r M ∧ DoR n b most M r := by
  have hrun := implGs_ok n b most
  cases hG : gsT n b most with
  | none =>
    have hT : deT n b most = none := by unfold deT; rw [hG]; rfl
    rw [hG] at hrun
    simp only [optV] at hrun
    refine ⟨.tup [nilV, .bool false], ?_⟩
    apply ex1
    · apply Ct.by_ hmix [] Try.func31 rfl
      simp only [run0, run1, run2, run3, run4, run5, run6, run7, run8, run9, run10, run11, run12, run13, run14, run15, run16, run17, run18, run19, run20, run21, run22, reduceCtorEq, Nat.reduceEqDiff, Nat.reduceAdd, Nat.reduceSub, Nat.reduceLeDiff, indexAddrA, indexRefA, appendA, strA, Nat.reduceMul, Nat.zero_mul, Nat.reduceMod, Int.reduceEq, Int.reduceLT, Int.reduceLE, Nat.reduceLT, Nat.lt_irrefl, Nat.reduceBEq, tys0, tys1, tys2, tys3, tys4, tys5, tys6, tys7, tys8, tys9, tys10, tys11, tys12, tys13, tys14, tys15, tys16, tys17, tys18, Try.ntmps31, Try.results31]
      refine RunL.callp rfl rfl ok_f74 hrun (by simp only [pureL, pureB, ints_pure, Bool.and_self]) rfl ?_
      simp only [run0, run1, run2, run3, run4, run5, run6, run7, run8, run9, run10, run11, run12, run13, run14, run15, run16, run17, run18, run19, run20, run21, run22, reduceCtorEq, Nat.reduceEqDiff, Nat.reduceAdd, Nat.reduceSub, Nat.reduceLeDiff, indexAddrA, indexRefA, appendA, strA, Nat.reduceMul, Nat.zero_mul, Nat.reduceMod, Int.reduceEq, Int.reduceLT, Int.reduceLE, Nat.reduceLT, Nat.lt_irrefl, Nat.reduceBEq, tys0, tys1, tys2, tys3, tys4, tys5, tys6, tys7, tys8, tys9, tys10, tys11, tys12, tys13, tys14, tys15, tys16, tys17, tys18, Try.ntmps31, Try.results31, Option.isSome_none]
      exact Fin.keep [] rfl rfl
    · exact DoR_none hT _
  | some l =>
  obtain ⟨l1, l2, c, rfl, q2, q3⟩ := gsT_all hG
  have hT : deT n c most = deL c l 0 := by unfold deT; rw [hG]; rfl
  rw [hG] at hrun
  simp only [optV, Option.getD_some, Option.isSome_some] at hrun
  refine Ct.ex hmix [1000000 + 24] Try.func31 rfl ?_
  simp only [run0, run1, run2, run3, run4, run5, run6, run7, run8, run9, run10, run11, run12, run13, run14, run15, run16, run17, run18, run19, run20, run21, run22, reduceCtorEq, Nat.reduceEqDiff, Nat.reduceAdd, Nat.reduceSub, Nat.reduceLeDiff, indexAddrA, indexRefA, appendA, strA, Nat.reduceMul, Nat.zero_mul, Nat.reduceMod, Int.reduceEq, Int.reduceLT, Int.reduceLE, Nat.reduceLT, Nat.lt_irrefl, Nat.reduceBEq, tys0, tys1, tys2, tys3, tys4, tys5, tys6, tys7, tys8, tys9, tys10, tys11, tys12, tys13, tys14, tys15, tys16, tys17, tys18, Try.ntmps31, Try.results31]
  refine RunL.callp_ex rfl rfl ok_f74 hrun (by simp only [pureL, pureB, ints_pure, Bool.and_self]) rfl ?_
  simp only [run0, run1, run2, run3, run4, run5, run6, run7, run8, run9, run10, run11, run12, run13, run14, run15, run16, run17, run18, run19, run20, run21, run22, reduceCtorEq, Nat.reduceEqDiff, Nat.reduceAdd, Nat.reduceSub, Nat.reduceLeDiff, indexAddrA, indexRefA, appendA, strA, Nat.reduceMul, Nat.zero_mul, Nat.reduceMod, Int.reduceEq, Int.reduceLT, Int.reduceLE, Nat.reduceLT, Nat.lt_irrefl, Nat.reduceBEq, tys0, tys1, tys2, tys3, tys4, tys5, tys6, tys7, tys8, tys9, tys10, tys11, tys12, tys13, tys14, tys15, tys16, tys17, tys18, Try.ntmps31, Try.results31, List.length_map]
  refine AWp.loop_exK (ι := DoS) (fun p => ⟨[.int .i64 n, .int .i64 c, .junk, .junk, .junk, .junk, .lit (.slice none 0 0), .bool false, .junk, .junk, .ref 0 [] p.d.length p.d.length, .junk, .junk, .junk, .junk, .junk, .junk, .junk, .junk, .junk, .junk, .junk, .junk, .junk, .junk, .sl false (ints (nats l)), .int .i64 l.length, .int .i64 p.d.length, .junk, .junk, .junk, .junk, .junk, .junk, .junk, .junk, .junk, .junk, .junk, .junk, .junk, .junk, .junk, .junk, .junk, .junk, .junk, .junk, .junk], .vec 24 1 p.d.length p.es :: p.X⟩)
    (fun p => l = p.d ++ p.r ∧ OwnOE (.vec 24 1 p.d.length p.es :: p.X) p.os p.es p.S ∧ p.S.Nodup ∧ 0 ∉ p.S ∧ p.os.length = p.d.length ∧ (deL c p.r p.d.length).map (p.os ++ ·) = deL c l 0)
    (fun p => p.r.length) ⟨[], l, [], [], [], []⟩ ⟨rfl, ⟨rfl, rfl⟩, by simp, by simp, rfl, by simp⟩ ⟨by simp only [List.length_nil, Int.natCast_zero]; repeat constructor, rfl⟩ ?_
  rintro ⟨d, r, os, es, X, S⟩ ⟨ha, ho, hn, h3, h5, h4⟩
  simp only at ha ho hn h3 h5 h4
  have hda : l.length = d.length + r.length := by rw [ha]; simp
  have hel := ho.len
  cases r with
  | nil =>
    left
    have e1 : ¬ ((d.length : Int) < (l.length : Int)) := by simp at hda; omega
    have h6 : deT n c most = some os := by rw [hT, ← h4]; simp [deL]
    refine ⟨.tup [.ref 0 [] d.length d.length, .bool true], ?_⟩
    apply ex1
    · refine W.sound hmix (E := []) ?_
      simp only [run0, run1, run2, run3, run4, run5, run6, run7, run8, run9, run10, run11, run12, run13, run14, run15, run16, run17, run18, run19, run20, run21, run22, reduceCtorEq, Nat.reduceEqDiff, Nat.reduceAdd, Nat.reduceSub, Nat.reduceLeDiff, indexAddrA, indexRefA, appendA, strA, Nat.reduceMul, Nat.zero_mul, Nat.reduceMod, Int.reduceEq, Int.reduceLT, Int.reduceLE, Nat.reduceLT, Nat.lt_irrefl, Nat.reduceBEq, tys0, tys1, tys2, tys3, tys4, tys5, tys6, tys7, tys8, tys9, tys10, tys11, tys12, tys13, tys14, tys15, tys16, tys17, tys18, Try.ntmps31, Try.results31, e1]
      exact Fin.keep (0 :: S) rfl rfl
    · refine ⟨.ref 0 [] d.length d.length, 0 :: S, by rw [h6]; rfl, ?_, List.nodup_cons.2 ⟨h3, hn⟩, keepS_okSO _ _⟩
      rw [h6]
      exact OwnO.keep (.inr ⟨0, d.length, es, S, by rw [Option.getD_some, h5], rfl, ho, rfl⟩) fun _ h => h
  | cons m r =>
    simp only [List.length_cons] at hda
    have e1 : (d.length : Int) < (l.length : Int) := by omega
    have e2 : (ints (nats l))[d.length]? = some (.int .i64 (m : Int)) := by rw [ha]; exact nats_at d r m
    have e5 : IntKind.i64.wrap ((d.length : Int) + 1) = ((d ++ [m]).length : Int) := by rw [w64_id (by omega) (by omega)]; simp
    have w1 : IntKind.i64.wrap ((c : Int) + (d.length : Int)) = ((c + d.length : Nat) : Int) := by rw [w64_id (by omega) (by omega)]; omega
    have hmb : m ≤ 1000000 := l2 m (by rw [ha]; simp)
    have hsz := hoT_sz hmb (show 2 ≤ c + d.length by omega)
    rw [deL_cons] at h4
    obtain ⟨x, M, hc, S1, hx, hn1, hM⟩ := told_ok (hoT m ((c + d.length : Nat) : Int)) (by omega)
    cases hg : goodT (hoT m ((c + d.length : Nat) : Int))
    · left
      rw [hg] at h4 hc
      simp only [Bool.false_eq_true, if_false, Option.map_none] at h4
      generalize hN : M.map (shO (X.length + 1)) = N
      rcases hx.shape with rfl | ⟨id, g, k, rfl⟩
      · refine ⟨.tup [nilV, .bool false], ?_⟩
        apply ex1
        · refine W.sound hmix (E := []) ?_
          simp only [run0, run1, run2, run3, run4, run5, run6, run7, run8, run9, run10, run11, run12, run13, run14, run15, run16, run17, run18, run19, run20, run21, run22, reduceCtorEq, Nat.reduceEqDiff, Nat.reduceAdd, Nat.reduceSub, Nat.reduceLeDiff, indexAddrA, indexRefA, appendA, strA, Nat.reduceMul, Nat.zero_mul, Nat.reduceMod, Int.reduceEq, Int.reduceLT, Int.reduceLE, Nat.reduceLT, Nat.lt_irrefl, Nat.reduceBEq, tys0, tys1, tys2, tys3, tys4, tys5, tys6, tys7, tys8, tys9, tys10, tys11, tys12, tys13, tys14, tys15, tys16, tys17, tys18, Try.ntmps31, Try.results31, e1, e2, w1, Int.toNat_natCast, Int.natCast_nonneg]
          refine RunL.callp rfl rfl ok_f53 (hered_ok m (c + d.length) hmb (by omega) (by omega)) (by first | rfl | simp only [pureL, pureB, Bool.and_self, Bool.and_true, Bool.true_and, Od.elems_pure, Od.pay_pure, Od.av_pure]) rfl ?_
          simp only [run0, run1, run2, run3, run4, run5, run6, run7, run8, run9, run10, run11, run12, run13, run14, run15, run16, run17, run18, run19, run20, run21, run22, reduceCtorEq, Nat.reduceEqDiff, Nat.reduceAdd, Nat.reduceSub, Nat.reduceLeDiff, indexAddrA, indexRefA, appendA, strA, Nat.reduceMul, Nat.zero_mul, Nat.reduceMod, Int.reduceEq, Int.reduceLT, Int.reduceLE, Nat.reduceLT, Nat.lt_irrefl, Nat.reduceBEq, tys0, tys1, tys2, tys3, tys4, tys5, tys6, tys7, tys8, tys9, tys10, tys11, tys12, tys13, tys14, tys15, tys16, tys17, tys18, Try.ntmps31, Try.results31]
          refine RunL.callgp rfl rfl ok_f52 rfl hc (by simp only [pureL, pureB, av_pure, Bool.and_self]) rfl ?_
          simp only [run0, run1, run2, run3, run4, run5, run6, run7, run8, run9, run10, run11, run12, run13, run14, run15, run16, run17, run18, run19, run20, run21, run22, reduceCtorEq, Nat.reduceEqDiff, Nat.reduceAdd, Nat.reduceSub, Nat.reduceLeDiff, indexAddrA, indexRefA, appendA, strA, Nat.reduceMul, Nat.zero_mul, Nat.reduceMod, Int.reduceEq, Int.reduceLT, Int.reduceLE, Nat.reduceLT, Nat.lt_irrefl, Nat.reduceBEq, tys0, tys1, tys2, tys3, tys4, tys5, tys6, tys7, tys8, tys9, tys10, tys11, tys12, tys13, tys14, tys15, tys16, tys17, tys18, Try.ntmps31, Try.results31, shA, shL, nilV, hN, setXn]
          exact Fin.keep [] rfl rfl
        · exact DoR_none (by rw [hT, ← h4]) _
      · refine ⟨.tup [nilV, .bool false], ?_⟩
        apply ex1
        · refine W.sound hmix (E := []) ?_
          simp only [run0, run1, run2, run3, run4, run5, run6, run7, run8, run9, run10, run11, run12, run13, run14, run15, run16, run17, run18, run19, run20, run21, run22, reduceCtorEq, Nat.reduceEqDiff, Nat.reduceAdd, Nat.reduceSub, Nat.reduceLeDiff, indexAddrA, indexRefA, appendA, strA, Nat.reduceMul, Nat.zero_mul, Nat.reduceMod, Int.reduceEq, Int.reduceLT, Int.reduceLE, Nat.reduceLT, Nat.lt_irrefl, Nat.reduceBEq, tys0, tys1, tys2, tys3, tys4, tys5, tys6, tys7, tys8, tys9, tys10, tys11, tys12, tys13, tys14, tys15, tys16, tys17, tys18, Try.ntmps31, Try.results31, e1, e2, w1, Int.toNat_natCast, Int.natCast_nonneg]
          refine RunL.callp rfl rfl ok_f53 (hered_ok m (c + d.length) hmb (by omega) (by omega)) (by first | rfl | simp only [pureL, pureB, Bool.and_self, Bool.and_true, Bool.true_and, Od.elems_pure, Od.pay_pure, Od.av_pure]) rfl ?_
          simp only [run0, run1, run2, run3, run4, run5, run6, run7, run8, run9, run10, run11, run12, run13, run14, run15, run16, run17, run18, run19, run20, run21, run22, reduceCtorEq, Nat.reduceEqDiff, Nat.reduceAdd, Nat.reduceSub, Nat.reduceLeDiff, indexAddrA, indexRefA, appendA, strA, Nat.reduceMul, Nat.zero_mul, Nat.reduceMod, Int.reduceEq, Int.reduceLT, Int.reduceLE, Nat.reduceLT, Nat.lt_irrefl, Nat.reduceBEq, tys0, tys1, tys2, tys3, tys4, tys5, tys6, tys7, tys8, tys9, tys10, tys11, tys12, tys13, tys14, tys15, tys16, tys17, tys18, Try.ntmps31, Try.results31]
          refine RunL.callgp rfl rfl ok_f52 rfl hc (by simp only [pureL, pureB, av_pure, Bool.and_self]) rfl ?_
          simp only [run0, run1, run2, run3, run4, run5, run6, run7, run8, run9, run10, run11, run12, run13, run14, run15, run16, run17, run18, run19, run20, run21, run22, reduceCtorEq, Nat.reduceEqDiff, Nat.reduceAdd, Nat.reduceSub, Nat.reduceLeDiff, indexAddrA, indexRefA, appendA, strA, Nat.reduceMul, Nat.zero_mul, Nat.reduceMod, Int.reduceEq, Int.reduceLT, Int.reduceLE, Nat.reduceLT, Nat.lt_irrefl, Nat.reduceBEq, tys0, tys1, tys2, tys3, tys4, tys5, tys6, tys7, tys8, tys9, tys10, tys11, tys12, tys13, tys14, tys15, tys16, tys17, tys18, Try.ntmps31, Try.results31, shA, shL, nilV, hN, setXn]
          exact Fin.keep [] rfl rfl
        · exact DoR_none (by rw [hT, ← h4]) _
    · right
      rw [hg] at h4 hc hx
      simp only [if_true, Option.map_map] at h4 hx
      have f3 : d.length + 1 ≤ 137438953472 := by omega
      have f4 := ho.noOwn
      have f5 : d.length = es.length := by omega
      have hlt0 := ho.lt
      simp only [List.length_cons] at hlt0
      have fin : ∀ x', x' = shA (X.length + 1) x →
          OwnOE (.vec 24 1 (d.length + 1) (es ++ [.agg [x']]) :: (X ++ (M.map (shO (X.length + 1)) ++ [.box 24 [x']]))) (os ++ [hoT m ((c + d.length : Nat) : Int)]) (es ++ [.agg [x']]) (S ++ S1.map (· + (X.length + 1))) ∧
          (S ++ S1.map (· + (X.length + 1))).Nodup ∧ 0 ∉ (S ++ S1.map (· + (X.length + 1))) := by
        rintro x' rfl
        refine ⟨OwnOE.snoc (ho.mono fun id hid T z g es1 hL => ?_) ?_, List.nodup_append.2 ⟨hn, nodup_add _ hn1, fun u hu v hv => ?_⟩, ?_⟩
        · rcases id with _ | id
          · exact absurd hid h3
          · simp only [List.getElem?_cons_succ] at hL ⊢
            rw [List.getElem?_append_left (List.getElem?_eq_some_iff.1 hL).1]; exact hL
        · have := (OwnR.sh (L' := .vec 24 1 (d.length + 1) (es ++ [.agg [shA (X.length + 1) x]]) :: (X ++ M.map (shO (X.length + 1)))) (fun id => by
            rw [show id + (X.length + 1) = (X.length + id) + 1 by omega, List.getElem?_cons_succ, getXn, List.getElem?_map]) hx).more [.box 24 [shA (X.length + 1) x]]
          simp only [List.cons_append, List.append_assoc] at this
          exact this
        · have := hlt0 u hu
          simp only [List.mem_map] at hv
          obtain ⟨q, _, rfl⟩ := hv
          omega
        · simp only [List.mem_append, not_or, List.mem_map]
          exact ⟨h3, fun ⟨q, _, hq⟩ => by omega⟩
      have hfin : (deL c r (d ++ [m]).length).map ((os ++ [hoT m ((c + d.length : Nat) : Int)]) ++ ·) = deL c l 0 := by
        rw [← h4]; simp only [List.length_append, List.length_cons, List.length_nil]; congr 1; funext z; simp
      generalize hN : M.map (shO (X.length + 1)) = N at fin
      rcases hx.shape with rfl | ⟨id, g, k, rfl⟩
      · obtain ⟨p1, p2, p3⟩ := fin nilV rfl
        refine ⟨⟨d ++ [m], r, os ++ [hoT m ((c + d.length : Nat) : Int)], es ++ [.agg [nilV]], X ++ (N ++ [.box 24 [nilV]]), S ++ S1.map (· + (X.length + 1))⟩,
          ⟨by simp [ha], by simpa using p1, p2, p3, by simp [h5], hfin⟩, by simp, ?_⟩
        refine W.sound hmix (E := []) ?_
        simp only [run0, run1, run2, run3, run4, run5, run6, run7, run8, run9, run10, run11, run12, run13, run14, run15, run16, run17, run18, run19, run20, run21, run22, reduceCtorEq, Nat.reduceEqDiff, Nat.reduceAdd, Nat.reduceSub, Nat.reduceLeDiff, indexAddrA, indexRefA, appendA, strA, Nat.reduceMul, Nat.zero_mul, Nat.reduceMod, Int.reduceEq, Int.reduceLT, Int.reduceLE, Nat.reduceLT, Nat.lt_irrefl, Nat.reduceBEq, tys0, tys1, tys2, tys3, tys4, tys5, tys6, tys7, tys8, tys9, tys10, tys11, tys12, tys13, tys14, tys15, tys16, tys17, tys18, Try.ntmps31, Try.results31, e1, e2, w1, Int.toNat_natCast, Int.natCast_nonneg]
        refine RunL.callp rfl rfl ok_f53 (hered_ok m (c + d.length) hmb (by omega) (by omega)) (by first | rfl | simp only [pureL, pureB, Bool.and_self, Bool.and_true, Bool.true_and, Od.elems_pure, Od.pay_pure, Od.av_pure]) rfl ?_
        simp only [run0, run1, run2, run3, run4, run5, run6, run7, run8, run9, run10, run11, run12, run13, run14, run15, run16, run17, run18, run19, run20, run21, run22, reduceCtorEq, Nat.reduceEqDiff, Nat.reduceAdd, Nat.reduceSub, Nat.reduceLeDiff, indexAddrA, indexRefA, appendA, strA, Nat.reduceMul, Nat.zero_mul, Nat.reduceMod, Int.reduceEq, Int.reduceLT, Int.reduceLE, Nat.reduceLT, Nat.lt_irrefl, Nat.reduceBEq, tys0, tys1, tys2, tys3, tys4, tys5, tys6, tys7, tys8, tys9, tys10, tys11, tys12, tys13, tys14, tys15, tys16, tys17, tys18, Try.ntmps31, Try.results31]
        refine RunL.callgp rfl rfl ok_f52 rfl hc (by simp only [pureL, pureB, av_pure, Bool.and_self]) rfl ?_
        simp only [run0, run1, run2, run3, run4, run5, run6, run7, run8, run9, run10, run11, run12, run13, run14, run15, run16, run17, run18, run19, run20, run21, run22, reduceCtorEq, Nat.reduceEqDiff, Nat.reduceAdd, Nat.reduceSub, Nat.reduceLeDiff, indexAddrA, indexRefA, appendA, strA, Nat.reduceMul, Nat.zero_mul, Nat.reduceMod, Int.reduceEq, Int.reduceLT, Int.reduceLE, Nat.reduceLT, Nat.lt_irrefl, Nat.reduceBEq, tys0, tys1, tys2, tys3, tys4, tys5, tys6, tys7, tys8, tys9, tys10, tys11, tys12, tys13, tys14, tys15, tys16, tys17, tys18, Try.ntmps31, Try.results31, nilV, shA, shL, hN, f3, f4, ← f5, e5, setXn, getXn]
        repeat constructor
      · obtain ⟨p1, p2, p3⟩ := fin (.ref (id + (X.length + 1)) [] g k) (by simp [shA])
        refine ⟨⟨d ++ [m], r, os ++ [hoT m ((c + d.length : Nat) : Int)], es ++ [.agg [.ref (id + (X.length + 1)) [] g k]], X ++ (N ++ [.box 24 [.ref (id + (X.length + 1)) [] g k]]), S ++ S1.map (· + (X.length + 1))⟩,
          ⟨by simp [ha], by simpa using p1, p2, p3, by simp [h5], hfin⟩, by simp, ?_⟩
        refine W.sound hmix (E := []) ?_
        simp only [run0, run1, run2, run3, run4, run5, run6, run7, run8, run9, run10, run11, run12, run13, run14, run15, run16, run17, run18, run19, run20, run21, run22, reduceCtorEq, Nat.reduceEqDiff, Nat.reduceAdd, Nat.reduceSub, Nat.reduceLeDiff, indexAddrA, indexRefA, appendA, strA, Nat.reduceMul, Nat.zero_mul, Nat.reduceMod, Int.reduceEq, Int.reduceLT, Int.reduceLE, Nat.reduceLT, Nat.lt_irrefl, Nat.reduceBEq, tys0, tys1, tys2, tys3, tys4, tys5, tys6, tys7, tys8, tys9, tys10, tys11, tys12, tys13, tys14, tys15, tys16, tys17, tys18, Try.ntmps31, Try.results31, e1, e2, w1, Int.toNat_natCast, Int.natCast_nonneg]
        refine RunL.callp rfl rfl ok_f53 (hered_ok m (c + d.length) hmb (by omega) (by omega)) (by first | rfl | simp only [pureL, pureB, Bool.and_self, Bool.and_true, Bool.true_and, Od.elems_pure, Od.pay_pure, Od.av_pure]) rfl ?_
        simp only [run0, run1, run2, run3, run4, run5, run6, run7, run8, run9, run10, run11, run12, run13, run14, run15, run16, run17, run18, run19, run20, run21, run22, reduceCtorEq, Nat.reduceEqDiff, Nat.reduceAdd, Nat.reduceSub, Nat.reduceLeDiff, indexAddrA, indexRefA, appendA, strA, Nat.reduceMul, Nat.zero_mul, Nat.reduceMod, Int.reduceEq, Int.reduceLT, Int.reduceLE, Nat.reduceLT, Nat.lt_irrefl, Nat.reduceBEq, tys0, tys1, tys2, tys3, tys4, tys5, tys6, tys7, tys8, tys9, tys10, tys11, tys12, tys13, tys14, tys15, tys16, tys17, tys18, Try.ntmps31, Try.results31]
        refine RunL.callgp rfl rfl ok_f52 rfl hc (by simp only [pureL, pureB, av_pure, Bool.and_self]) rfl ?_
        simp only [run0, run1, run2, run3, run4, run5, run6, run7, run8, run9, run10, run11, run12, run13, run14, run15, run16, run17, run18, run19, run20, run21, run22, reduceCtorEq, Nat.reduceEqDiff, Nat.reduceAdd, Nat.reduceSub, Nat.reduceLeDiff, indexAddrA, indexRefA, appendA, strA, Nat.reduceMul, Nat.zero_mul, Nat.reduceMod, Int.reduceEq, Int.reduceLT, Int.reduceLE, Nat.reduceLT, Nat.lt_irrefl, Nat.reduceBEq, tys0, tys1, tys2, tys3, tys4, tys5, tys6, tys7, tys8, tys9, tys10, tys11, tys12, tys13, tys14, tys15, tys16, tys17, tys18, Try.ntmps31, Try.results31, nilV, shA, shL, hN, f3, f4, ← f5, e5, setXn, getXn]
        repeat constructor

end Go.Proofs.Ytphmkhaboghagaa
/-
  The ordinals of Goodstein's sequences: the law.
-/
namespace Go.Proofs.Ytphmkhaboghagaa
open Go K Od
set_option linter.unusedSimpArgs false
set_option linter.unusedVariables false
set_option maxHeartbeats 1600000
set_option maxRecDepth 8000

theorem vwo2 {L : List AObj} {R Q : List Od} {x : AV} {S : List Nat} (h : OwnO L R x S) : VwL L [x, .sl false (Q.map av)] [.sl false (R.map av), .sl false (Q.map av)] :=
  .cons h.view (.cons (.pur (.of (by simp only [pureB, avs_pure]))) .nil)
theorem vwo3 {L : List AObj} {R : List Od} {k : Int} {x : AV} {S : List Nat} (h : OwnO L R x S) : VwL L [x, .int .i64 k] [.sl false (R.map av), .int .i64 k] :=
  .cons h.view (.cons (.pur (.int _ _)) .nil)

theorem FnExactDescentOf_ok {a0 a1 a2 : AV} (h0 : IsOf Try.prog 3 a0) (h1 : IsOf Try.prog 3 a1) (h2 : IsOf Try.prog 3 a2) : Ct Try.prog 7 [a0, a1, a2] [] (.bool true) [] := by
  obtain ⟨_, h0⟩ := h0.one ty_a3
  obtain ⟨n, e, _⟩ := h0.int Try.underlying3
  simp only [List.cons.injEq, and_true] at e
  subst e
  obtain ⟨_, h1⟩ := h1.one ty_a3
  obtain ⟨b, e, _⟩ := h1.int Try.underlying3
  simp only [List.cons.injEq, and_true] at e
  subst e
  obtain ⟨_, h2⟩ := h2.one ty_a3
  obtain ⟨most, e, _⟩ := h2.int Try.underlying3
  simp only [List.cons.injEq, and_true] at e
  subst e
  have hsp := specDO_ok n b most
  obtain ⟨z1, z2⟩ := deT_good (n := n) (b := b) (most := most)
  obtain ⟨r, M1, hi, x, S1, rfl, ho1, hn1, hM1⟩ := implDO_ok n b most
  generalize (deT n b most).getD [] = R at *
  generalize (deT n b most).isSome = ok at *
  have hlz := lsz_le (l := R) (n := 29) z2
  generalize hM1' : M1.map (shO 0) = N1 at *
  have og : OwnO N1 R (shA 0 x) (S1.map (· + 0)) := OwnO.sh (L' := N1) (fun id => by simp [← hM1']) ho1
  have n1 := nodup_add 0 hn1
  generalize hG : shA 0 x = G0 at *
  generalize hS1 : S1.map (· + 0) = T1 at *
  obtain ⟨L2, hc2, og2, hf2, hl2⟩ := markOrdinalS_ok R G0 T1 N1 1 og n1 (by omega) (fun p hp => by have := z2 p hp; omega) (by omega) (by omega)
  have oh : OwnO (L2 ++ M1.map (shO L2.length)) R (shA L2.length x) (S1.map (· + L2.length)) := OwnO.sh (more_get L2 M1) ho1
  have e4 : ¬ (1 + (lszO R : Int) < 0) := by omega
  have heq := eqOrdinalS_ok R (by omega) (fun e he => by have := z2 e he; omega)
  have hheld := heldOrdinalS_ok R 1 (by omega) (fun p hp => by have := z2 p hp; omega) (by omega) (by omega)
  refine Ct.by_ hmix [] Try.func7 rfl ?_
  simp only [run0, run1, run2, run3, run4, run5, run6, run7, run8, run9, run10, run11, run12, run13, run14, run15, run16, run17, run18, run19, run20, run21, run22, reduceCtorEq, Nat.reduceEqDiff, Nat.reduceAdd, Nat.reduceSub, Nat.reduceLeDiff, indexAddrA, indexRefA, appendA, strA, Nat.reduceMul, Nat.zero_mul, Nat.reduceMod, Int.reduceEq, Int.reduceLT, Int.reduceLE, Nat.reduceLT, Nat.lt_irrefl, Nat.reduceBEq, tys0, tys1, tys2, tys3, tys4, tys5, tys6, tys7, tys8, tys9, tys10, tys11, tys12, tys13, tys14, tys15, tys16, tys17, tys18, Try.ntmps7, Try.results7]
  refine RunL.callp rfl rfl ok_f30 (hsp) (by first | rfl | simp only [pureL, pureB, Bool.and_self, Bool.and_true, Bool.true_and, Od.elems_pure, Od.pay_pure, Od.av_pure]) rfl ?_
  simp only [run0, run1, run2, run3, run4, run5, run6, run7, run8, run9, run10, run11, run12, run13, run14, run15, run16, run17, run18, run19, run20, run21, run22, reduceCtorEq, Nat.reduceEqDiff, Nat.reduceAdd, Nat.reduceSub, Nat.reduceLeDiff, indexAddrA, indexRefA, appendA, strA, Nat.reduceMul, Nat.zero_mul, Nat.reduceMod, Int.reduceEq, Int.reduceLT, Int.reduceLE, Nat.reduceLT, Nat.lt_irrefl, Nat.reduceBEq, tys0, tys1, tys2, tys3, tys4, tys5, tys6, tys7, tys8, tys9, tys10, tys11, tys12, tys13, tys14, tys15, tys16, tys17, tys18, Try.ntmps7, Try.results7]
  refine RunL.callgp rfl rfl ok_f31 rfl hi (by simp only [pureL, pureB, Bool.and_self]) rfl ?_
  simp only [run0, run1, run2, run3, run4, run5, run6, run7, run8, run9, run10, run11, run12, run13, run14, run15, run16, run17, run18, run19, run20, run21, run22, reduceCtorEq, Nat.reduceEqDiff, Nat.reduceAdd, Nat.reduceSub, Nat.reduceLeDiff, indexAddrA, indexRefA, appendA, strA, Nat.reduceMul, Nat.zero_mul, Nat.reduceMod, Int.reduceEq, Int.reduceLT, Int.reduceLE, Nat.reduceLT, Nat.lt_irrefl, Nat.reduceBEq, tys0, tys1, tys2, tys3, tys4, tys5, tys6, tys7, tys8, tys9, tys10, tys11, tys12, tys13, tys14, tys15, tys16, tys17, tys18, Try.ntmps7, Try.results7, shA, shL, hM1', hG]
  refine RunL.lendV rfl rfl ok_f29 rfl heq (vwo2 og) rfl rfl ?_
  simp only [run0, run1, run2, run3, run4, run5, run6, run7, run8, run9, run10, run11, run12, run13, run14, run15, run16, run17, run18, run19, run20, run21, run22, reduceCtorEq, Nat.reduceEqDiff, Nat.reduceAdd, Nat.reduceSub, Nat.reduceLeDiff, indexAddrA, indexRefA, appendA, strA, Nat.reduceMul, Nat.zero_mul, Nat.reduceMod, Int.reduceEq, Int.reduceLT, Int.reduceLE, Nat.reduceLT, Nat.lt_irrefl, Nat.reduceBEq, tys0, tys1, tys2, tys3, tys4, tys5, tys6, tys7, tys8, tys9, tys10, tys11, tys12, tys13, tys14, tys15, tys16, tys17, tys18, Try.ntmps7, Try.results7, bne_self_eq_false]
  refine RunL.callM rfl rfl ok_f32 rfl rfl hc2 rfl ?_
  simp only [run0, run1, run2, run3, run4, run5, run6, run7, run8, run9, run10, run11, run12, run13, run14, run15, run16, run17, run18, run19, run20, run21, run22, reduceCtorEq, Nat.reduceEqDiff, Nat.reduceAdd, Nat.reduceSub, Nat.reduceLeDiff, indexAddrA, indexRefA, appendA, strA, Nat.reduceMul, Nat.zero_mul, Nat.reduceMod, Int.reduceEq, Int.reduceLT, Int.reduceLE, Nat.reduceLT, Nat.lt_irrefl, Nat.reduceBEq, tys0, tys1, tys2, tys3, tys4, tys5, tys6, tys7, tys8, tys9, tys10, tys11, tys12, tys13, tys14, tys15, tys16, tys17, tys18, Try.ntmps7, Try.results7]
  refine RunL.lendV rfl rfl ok_f33 rfl hheld (vwo3 og2) rfl rfl ?_
  simp only [run0, run1, run2, run3, run4, run5, run6, run7, run8, run9, run10, run11, run12, run13, run14, run15, run16, run17, run18, run19, run20, run21, run22, reduceCtorEq, Nat.reduceEqDiff, Nat.reduceAdd, Nat.reduceSub, Nat.reduceLeDiff, indexAddrA, indexRefA, appendA, strA, Nat.reduceMul, Nat.zero_mul, Nat.reduceMod, Int.reduceEq, Int.reduceLT, Int.reduceLE, Nat.reduceLT, Nat.lt_irrefl, Nat.reduceBEq, tys0, tys1, tys2, tys3, tys4, tys5, tys6, tys7, tys8, tys9, tys10, tys11, tys12, tys13, tys14, tys15, tys16, tys17, tys18, Try.ntmps7, Try.results7, e4, bne_self_eq_false]
  refine RunL.callgp rfl rfl ok_f31 rfl hi (by simp only [pureL, pureB, Bool.and_self]) rfl ?_
  simp only [run0, run1, run2, run3, run4, run5, run6, run7, run8, run9, run10, run11, run12, run13, run14, run15, run16, run17, run18, run19, run20, run21, run22, reduceCtorEq, Nat.reduceEqDiff, Nat.reduceAdd, Nat.reduceSub, Nat.reduceLeDiff, indexAddrA, indexRefA, appendA, strA, Nat.reduceMul, Nat.zero_mul, Nat.reduceMod, Int.reduceEq, Int.reduceLT, Int.reduceLE, Nat.reduceLT, Nat.lt_irrefl, Nat.reduceBEq, tys0, tys1, tys2, tys3, tys4, tys5, tys6, tys7, tys8, tys9, tys10, tys11, tys12, tys13, tys14, tys15, tys16, tys17, tys18, Try.ntmps7, Try.results7, shA, shL]
  refine RunL.lendV rfl rfl ok_f29 rfl heq (vwo2 oh) rfl rfl ?_
  simp only [run0, run1, run2, run3, run4, run5, run6, run7, run8, run9, run10, run11, run12, run13, run14, run15, run16, run17, run18, run19, run20, run21, run22, reduceCtorEq, Nat.reduceEqDiff, Nat.reduceAdd, Nat.reduceSub, Nat.reduceLeDiff, indexAddrA, indexRefA, appendA, strA, Nat.reduceMul, Nat.zero_mul, Nat.reduceMod, Int.reduceEq, Int.reduceLT, Int.reduceLE, Nat.reduceLT, Nat.lt_irrefl, Nat.reduceBEq, tys0, tys1, tys2, tys3, tys4, tys5, tys6, tys7, tys8, tys9, tys10, tys11, tys12, tys13, tys14, tys15, tys16, tys17, tys18, Try.ntmps7, Try.results7, bne_self_eq_false]
  refine RunL.lendV rfl rfl ok_f33 rfl hheld (vwo3 (og2.mono (Kept.more _ _ _))) rfl rfl ?_
  simp only [run0, run1, run2, run3, run4, run5, run6, run7, run8, run9, run10, run11, run12, run13, run14, run15, run16, run17, run18, run19, run20, run21, run22, reduceCtorEq, Nat.reduceEqDiff, Nat.reduceAdd, Nat.reduceSub, Nat.reduceLeDiff, indexAddrA, indexRefA, appendA, strA, Nat.reduceMul, Nat.zero_mul, Nat.reduceMod, Int.reduceEq, Int.reduceLT, Int.reduceLE, Nat.reduceLT, Nat.lt_irrefl, Nat.reduceBEq, tys0, tys1, tys2, tys3, tys4, tys5, tys6, tys7, tys8, tys9, tys10, tys11, tys12, tys13, tys14, tys15, tys16, tys17, tys18, Try.ntmps7, Try.results7, e4, bne_self_eq_false]
  exact Fin.eq rfl rfl

end Go.Proofs.Ytphmkhaboghagaa
