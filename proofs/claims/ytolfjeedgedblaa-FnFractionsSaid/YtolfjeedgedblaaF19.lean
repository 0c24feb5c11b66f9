/-
  Short numbers: where two words part.
-/
import Derived.Test.YtolfjeedgedblaaF18
namespace Go.Proofs.Ytolfjeedgedblaa
open Go K
set_option linter.unusedSimpArgs false
set_option linter.unusedVariables false
set_option maxHeartbeats 1600000

def cpl (v w : ByteArray) : Nat → Nat → Nat
  | 0, k => k
  | m + 1, k => if k < v.size ∧ k < w.size ∧ v.data.getD k 0 = w.data.getD k 0 then cpl v w m (k + 1) else k
def wordS (n d : Int) : ByteArray := if shortB n d then (gWk n d).word else ⟨#[]⟩

theorem implWordS_ok (n d : Int) : Ct Try.prog 30 [fr n d] [] (.tup [.str (wordS n d), .bool (shortB n d)]) [] := implWordOf_ok n d
theorem specWordS_ok (n d : Int) : Ct Try.prog 29 [fr n d] [] (.tup [.str (wordS n d), .bool (shortB n d)]) [] := specWordOf_ok walks_agree n d
theorem wordS_size (n d : Int) : (wordS n d).size ≤ 20 := by
  unfold wordS
  split
  · exact wk_size n d
  · decide
theorem cpl_le (v w : ByteArray) : ∀ (m k : Nat), k ≤ v.size → cpl v w m k ≤ v.size
  | 0, k, h => h
  | m + 1, k, h => by
    unfold cpl; split
    · exact cpl_le v w m (k + 1) (by omega)
    · exact h
/-- The value of the beginning of a word, by both. -/
theorem implPre_ok (s : ByteArray) (k : Nat) (hs : s.size ≤ 20) (hk : k ≤ s.size) : Ct Try.prog 63 [.str (s.extract 0 k)] [] (fr (frN (atWk s k).x) (frD (atWk s k).x)) [] := by
  have hz : (s.extract 0 k).size = k := size_ext _ _ hk
  have hx := atWk_ext s k _ (Nat.le_refl _)
  generalize s.extract 0 k = p at *
  have hn := ofRun_nums p (by omega)
  rw [hz, hx] at hn
  exact fromWord_ok p _ _ (by omega) hn (by rw [atWk_len]; omega) (atWk_small s k (by omega))
theorem specPre_ok (s : ByteArray) (k : Nat) (hs : s.size ≤ 20) (hk : k ≤ s.size) (hm : mkOk (atWk s k).x 1048576 = true) : Ct Try.prog 62 [.str (s.extract 0 k)] [] (fr (frN (atWk s k).x) (frD (atWk s k).x)) [] := by
  have hz : (s.extract 0 k).size = k := size_ext _ _ hk
  have hx := atWk_ext s k _ (Nat.le_refl _)
  generalize s.extract 0 k = p at *
  have hv := shValue_ok p (by omega) (fun i hi => swAt_ok _ _ (by omega))
  rw [hz] at hv
  obtain ⟨e1, e2⟩ := swAt_fr p k (by omega) (by rw [hx]; exact hm)
  rw [e1, e2, hx] at hv
  exact hv

def meetK (a b c d : Int) : Nat := cpl (wordS a b) (wordS c d) 1000 0
def meetX (a b c d : Int) : Int := (atWk (wordS a b) (meetK a b c d)).x
theorem meet_ok {a b : Int} (c d : Int) (h : shortB a b = true) : mkOk (meetX a b c d) 1048576 = true := by
  have hk : meetK a b c d ≤ (wordS a b).size := cpl_le (wordS a b) (wordS c d) 1000 0 (Nat.zero_le _)
  have hws : wordS a b = (gWk a b).word := by simp [wordS, h]
  unfold meetX
  generalize meetK a b c d = k at *
  rw [hws] at hk ⊢
  exact wk_ok h k hk
theorem byte_eq {v w : ByteArray} {k : Nat} : (((v.data.getD k 0).toNat : Int) == ((w.data.getD k 0).toNat : Int)) = (v.data.getD k 0 == w.data.getD k 0) := by
  rw [Bool.eq_iff_iff]; simp only [beq_iff_eq]
  constructor
  · intro he; exact UInt8.toNat_inj.1 (by omega)
  · intro he; rw [he]

def meetR (a b c d : Int) : AV := .tup [fr (if shortB a b && shortB c d then frN (meetX a b c d) else 0) (if shortB a b && shortB c d then frD (meetX a b c d) else 0), .bool (shortB a b && shortB c d)]
theorem implMeet_ok (a b c d : Int) : Ct Try.prog 34 [fr a b, fr c d] [] (meetR a b c d) [] := by
  unfold meetR
  have hv := wordS_size a b
  have hw := wordS_size c d
  refine Ct.by_ hmix [] Try.func34 rfl ?_
  simp only [run0, run1, run2, run3, run4, run5, run6, run7, run8, run9, run10, run11, run12, run13, run14, run15, run16, run17, run18, run19, run20, run21, run22, reduceCtorEq, Nat.reduceEqDiff, Nat.reduceAdd, Nat.reduceSub, Nat.reduceLeDiff, indexAddrA, indexRefA, appendA, strA, Nat.reduceMul, Nat.zero_mul, Nat.reduceMod, Int.reduceEq, Int.reduceLT, Int.reduceLE, Nat.reduceLT, Nat.lt_irrefl, Nat.reduceBEq, tys0, tys1, tys2, tys3, tys4, tys5, tys6, tys7, tys8, tys9, tys10, tys11, Try.ntmps34, Try.results34, fr]
  refine RunL.callp rfl rfl ok_f30 (implWordS_ok _ _) (by first | rfl | simp only [pureL, pureB, Bool.and_self, Bool.and_true, Bool.true_and]) rfl ?_
  simp only [run0, run1, run2, run3, run4, run5, run6, run7, run8, run9, run10, run11, run12, run13, run14, run15, run16, run17, run18, run19, run20, run21, run22, reduceCtorEq, Nat.reduceEqDiff, Nat.reduceAdd, Nat.reduceSub, Nat.reduceLeDiff, indexAddrA, indexRefA, appendA, strA, Nat.reduceMul, Nat.zero_mul, Nat.reduceMod, Int.reduceEq, Int.reduceLT, Int.reduceLE, Nat.reduceLT, Nat.lt_irrefl, Nat.reduceBEq, tys0, tys1, tys2, tys3, tys4, tys5, tys6, tys7, tys8, tys9, tys10, tys11, Try.ntmps34, Try.results34, fr]
  refine RunL.callp rfl rfl ok_f30 (implWordS_ok _ _) (by first | rfl | simp only [pureL, pureB, Bool.and_self, Bool.and_true, Bool.true_and]) rfl ?_
  cases h1 : shortB a b
  · simp only [run0, run1, run2, run3, run4, run5, run6, run7, run8, run9, run10, run11, run12, run13, run14, run15, run16, run17, run18, run19, run20, run21, run22, reduceCtorEq, Nat.reduceEqDiff, Nat.reduceAdd, Nat.reduceSub, Nat.reduceLeDiff, indexAddrA, indexRefA, appendA, strA, Nat.reduceMul, Nat.zero_mul, Nat.reduceMod, Int.reduceEq, Int.reduceLT, Int.reduceLE, Nat.reduceLT, Nat.lt_irrefl, Nat.reduceBEq, tys0, tys1, tys2, tys3, tys4, tys5, tys6, tys7, tys8, tys9, tys10, tys11, Try.ntmps34, Try.results34, fr, h1]
    exact Fin.eq (by simp) rfl
  cases h2 : shortB c d
  · simp only [run0, run1, run2, run3, run4, run5, run6, run7, run8, run9, run10, run11, run12, run13, run14, run15, run16, run17, run18, run19, run20, run21, run22, reduceCtorEq, Nat.reduceEqDiff, Nat.reduceAdd, Nat.reduceSub, Nat.reduceLeDiff, indexAddrA, indexRefA, appendA, strA, Nat.reduceMul, Nat.zero_mul, Nat.reduceMod, Int.reduceEq, Int.reduceLT, Int.reduceLE, Nat.reduceLT, Nat.lt_irrefl, Nat.reduceBEq, tys0, tys1, tys2, tys3, tys4, tys5, tys6, tys7, tys8, tys9, tys10, tys11, Try.ntmps34, Try.results34, fr, h1, h2]
    exact Fin.eq (by simp) rfl
  have hmk := meet_ok c d h1
  simp only [run0, run1, run2, run3, run4, run5, run6, run7, run8, run9, run10, run11, run12, run13, run14, run15, run16, run17, run18, run19, run20, run21, run22, reduceCtorEq, Nat.reduceEqDiff, Nat.reduceAdd, Nat.reduceSub, Nat.reduceLeDiff, indexAddrA, indexRefA, appendA, strA, Nat.reduceMul, Nat.zero_mul, Nat.reduceMod, Int.reduceEq, Int.reduceLT, Int.reduceLE, Nat.reduceLT, Nat.lt_irrefl, Nat.reduceBEq, tys0, tys1, tys2, tys3, tys4, tys5, tys6, tys7, tys8, tys9, tys10, tys11, Try.ntmps34, Try.results34, fr, h1, h2]
  simp only [meetX, meetK] at hmk ⊢
  generalize wordS a b = v at *
  generalize wordS c d = w at *
  have hc := implPre_ok v (cpl v w 1000 0) (by omega) (cpl_le v w 1000 0 (Nat.zero_le _))
  refine AWp.loop_inv (ι := Nat) (fun k => ⟨[.agg [.int .i64 a, .int .i64 b], .agg [.int .i64 c, .int .i64 d], .ptr 0 0, .ptr 1 0, .ptr 2 0, .bool false, .str v, .bool true, .str w, .bool true, .int .i64 k, .junk, .junk, .junk, .junk, .junk, .junk, .junk, .junk, .junk, .junk, .junk, .junk, .junk, .junk, .junk, .junk, .junk, .junk, .junk, .junk, .junk, .junk, .junk, .junk, .junk, .junk, .junk, .junk, .junk, .junk, .junk, .junk, .junk, .junk, .junk, .junk, .junk, .junk, .junk, .junk, .junk, .junk], [.box 26 [.int .i64 a, .int .i64 b], .box 26 [.int .i64 c, .int .i64 d], .box 26 [.int .i64 0, .int .i64 0]]⟩)
    (fun k => k ≤ v.size ∧ k ≤ w.size ∧ cpl v w (1000 - k) k = cpl v w 1000 0) (fun k => v.size - k) 0 ⟨Nat.zero_le _, Nat.zero_le _, rfl⟩ ⟨by simp only [Int.natCast_zero]; repeat constructor, rfl⟩ ?_
  rintro k ⟨hkv, hkw, hrun⟩
  refine W.sound hmix (E := []) ?_
  have hm : 1000 - k = (999 - k) + 1 := by omega
  rw [hm] at hrun
  have e5 : IntKind.i64.wrap ((k : Int) + 1) = ((k + 1 : Nat) : Int) := by rw [show IntKind.i64.wrap ((k : Int) + 1) = (k : Int) + 1 from w64_small (by omega)]; omega
  simp only [run0, run1, run2, run3, run4, run5, run6, run7, run8, run9, run10, run11, run12, run13, run14, run15, run16, run17, run18, run19, run20, run21, run22, reduceCtorEq, Nat.reduceEqDiff, Nat.reduceAdd, Nat.reduceSub, Nat.reduceLeDiff, indexAddrA, indexRefA, appendA, strA, Nat.reduceMul, Nat.zero_mul, Nat.reduceMod, Int.reduceEq, Int.reduceLT, Int.reduceLE, Nat.reduceLT, Nat.lt_irrefl, Nat.reduceBEq, tys0, tys1, tys2, tys3, tys4, tys5, tys6, tys7, tys8, tys9, tys10, tys11, Try.ntmps34, Try.results34]
  refine ⟨by kernel_rfl, ?_⟩
  by_cases hgo : k < v.size ∧ k < w.size ∧ v.data.getD k 0 = w.data.getD k 0
  · have e0 : (k : Int) < (v.size : Int) := by omega
    have e1 : (k : Int) < (w.size : Int) := by omega
    have e2 := index_str hgo.1
    have e3 := index_str hgo.2.1
    have e4 : (((v.data.getD k 0).toNat : Int) == ((w.data.getD k 0).toNat : Int)) = true := by rw [byte_eq]; simpa using hgo.2.2
    simp only [run0, run1, run2, run3, run4, run5, run6, run7, run8, run9, run10, run11, run12, run13, run14, run15, run16, run17, run18, run19, run20, run21, run22, reduceCtorEq, Nat.reduceEqDiff, Nat.reduceAdd, Nat.reduceSub, Nat.reduceLeDiff, indexAddrA, indexRefA, appendA, strA, Nat.reduceMul, Nat.zero_mul, Nat.reduceMod, Int.reduceEq, Int.reduceLT, Int.reduceLE, Nat.reduceLT, Nat.lt_irrefl, Nat.reduceBEq, tys0, tys1, tys2, tys3, tys4, tys5, tys6, tys7, tys8, tys9, tys10, tys11, Try.ntmps34, Try.results34, e0, e1, e2, e3, e4, e5]
    refine ⟨k + 1, ⟨by omega, by omega, ?_⟩, by omega, by repeat constructor⟩
    rw [← hrun, show 1000 - (k + 1) = 999 - k by omega]
    simp only [cpl, hgo, and_self, if_true]
  · have hend : cpl v w 1000 0 = k := by rw [← hrun]; simp only [cpl, hgo, if_false]
    rw [hend] at hc
    have f1 : (k : Int) ≤ (v.size : Int) := by omega
    by_cases h3 : k < v.size
    · have e0 : (k : Int) < (v.size : Int) := by omega
      by_cases h4 : k < w.size
      · have e1 : (k : Int) < (w.size : Int) := by omega
        have e2 := index_str h3
        have e3 := index_str h4
        have e4 : (((v.data.getD k 0).toNat : Int) == ((w.data.getD k 0).toNat : Int)) = false := by
          rw [byte_eq, beq_eq_false_iff_ne]
          exact fun he => hgo ⟨h3, h4, he⟩
        simp only [run0, run1, run2, run3, run4, run5, run6, run7, run8, run9, run10, run11, run12, run13, run14, run15, run16, run17, run18, run19, run20, run21, run22, reduceCtorEq, Nat.reduceEqDiff, Nat.reduceAdd, Nat.reduceSub, Nat.reduceLeDiff, indexAddrA, indexRefA, appendA, strA, Nat.reduceMul, Nat.zero_mul, Nat.reduceMod, Int.reduceEq, Int.reduceLT, Int.reduceLE, Nat.reduceLT, Nat.lt_irrefl, Nat.reduceBEq, tys0, tys1, tys2, tys3, tys4, tys5, tys6, tys7, tys8, tys9, tys10, tys11, Try.ntmps34, Try.results34, e0, e1, e2, e3, e4, f1, Int.natCast_nonneg, Int.toNat_natCast, Int.le_refl, Int.toNat_zero, true_and, Int.natCast_zero]
        refine RunL.callp rfl rfl ok_f63 (hc) (by first | rfl | simp only [pureL, pureB, Bool.and_self, Bool.and_true, Bool.true_and]) rfl ?_
        simp only [run0, run1, run2, run3, run4, run5, run6, run7, run8, run9, run10, run11, run12, run13, run14, run15, run16, run17, run18, run19, run20, run21, run22, reduceCtorEq, Nat.reduceEqDiff, Nat.reduceAdd, Nat.reduceSub, Nat.reduceLeDiff, indexAddrA, indexRefA, appendA, strA, Nat.reduceMul, Nat.zero_mul, Nat.reduceMod, Int.reduceEq, Int.reduceLT, Int.reduceLE, Nat.reduceLT, Nat.lt_irrefl, Nat.reduceBEq, tys0, tys1, tys2, tys3, tys4, tys5, tys6, tys7, tys8, tys9, tys10, tys11, Try.ntmps34, Try.results34, fr]
        exact Fin.eq (by rw [hend]) rfl
      · have e1 : ¬ (k : Int) < (w.size : Int) := by omega
        simp only [run0, run1, run2, run3, run4, run5, run6, run7, run8, run9, run10, run11, run12, run13, run14, run15, run16, run17, run18, run19, run20, run21, run22, reduceCtorEq, Nat.reduceEqDiff, Nat.reduceAdd, Nat.reduceSub, Nat.reduceLeDiff, indexAddrA, indexRefA, appendA, strA, Nat.reduceMul, Nat.zero_mul, Nat.reduceMod, Int.reduceEq, Int.reduceLT, Int.reduceLE, Nat.reduceLT, Nat.lt_irrefl, Nat.reduceBEq, tys0, tys1, tys2, tys3, tys4, tys5, tys6, tys7, tys8, tys9, tys10, tys11, Try.ntmps34, Try.results34, e0, e1, f1, Int.natCast_nonneg, Int.toNat_natCast, Int.le_refl, Int.toNat_zero, true_and, Int.natCast_zero]
        refine RunL.callp rfl rfl ok_f63 (hc) (by first | rfl | simp only [pureL, pureB, Bool.and_self, Bool.and_true, Bool.true_and]) rfl ?_
        simp only [run0, run1, run2, run3, run4, run5, run6, run7, run8, run9, run10, run11, run12, run13, run14, run15, run16, run17, run18, run19, run20, run21, run22, reduceCtorEq, Nat.reduceEqDiff, Nat.reduceAdd, Nat.reduceSub, Nat.reduceLeDiff, indexAddrA, indexRefA, appendA, strA, Nat.reduceMul, Nat.zero_mul, Nat.reduceMod, Int.reduceEq, Int.reduceLT, Int.reduceLE, Nat.reduceLT, Nat.lt_irrefl, Nat.reduceBEq, tys0, tys1, tys2, tys3, tys4, tys5, tys6, tys7, tys8, tys9, tys10, tys11, Try.ntmps34, Try.results34, fr]
        exact Fin.eq (by rw [hend]) rfl
    · have e0 : ¬ (k : Int) < (v.size : Int) := by omega
      simp only [run0, run1, run2, run3, run4, run5, run6, run7, run8, run9, run10, run11, run12, run13, run14, run15, run16, run17, run18, run19, run20, run21, run22, reduceCtorEq, Nat.reduceEqDiff, Nat.reduceAdd, Nat.reduceSub, Nat.reduceLeDiff, indexAddrA, indexRefA, appendA, strA, Nat.reduceMul, Nat.zero_mul, Nat.reduceMod, Int.reduceEq, Int.reduceLT, Int.reduceLE, Nat.reduceLT, Nat.lt_irrefl, Nat.reduceBEq, tys0, tys1, tys2, tys3, tys4, tys5, tys6, tys7, tys8, tys9, tys10, tys11, Try.ntmps34, Try.results34, e0, f1, Int.natCast_nonneg, Int.toNat_natCast, Int.le_refl, Int.toNat_zero, true_and, Int.natCast_zero]
      refine RunL.callp rfl rfl ok_f63 (hc) (by first | rfl | simp only [pureL, pureB, Bool.and_self, Bool.and_true, Bool.true_and]) rfl ?_
      simp only [run0, run1, run2, run3, run4, run5, run6, run7, run8, run9, run10, run11, run12, run13, run14, run15, run16, run17, run18, run19, run20, run21, run22, reduceCtorEq, Nat.reduceEqDiff, Nat.reduceAdd, Nat.reduceSub, Nat.reduceLeDiff, indexAddrA, indexRefA, appendA, strA, Nat.reduceMul, Nat.zero_mul, Nat.reduceMod, Int.reduceEq, Int.reduceLT, Int.reduceLE, Nat.reduceLT, Nat.lt_irrefl, Nat.reduceBEq, tys0, tys1, tys2, tys3, tys4, tys5, tys6, tys7, tys8, tys9, tys10, tys11, Try.ntmps34, Try.results34, fr]
      exact Fin.eq (by rw [hend]) rfl
theorem specMeet_ok (a b c d : Int) : Ct Try.prog 33 [fr a b, fr c d] [] (meetR a b c d) [] := by
  unfold meetR
  have hv := wordS_size a b
  have hw := wordS_size c d
  refine Ct.by_ hmix [] Try.func33 rfl ?_
  simp only [run0, run1, run2, run3, run4, run5, run6, run7, run8, run9, run10, run11, run12, run13, run14, run15, run16, run17, run18, run19, run20, run21, run22, reduceCtorEq, Nat.reduceEqDiff, Nat.reduceAdd, Nat.reduceSub, Nat.reduceLeDiff, indexAddrA, indexRefA, appendA, strA, Nat.reduceMul, Nat.zero_mul, Nat.reduceMod, Int.reduceEq, Int.reduceLT, Int.reduceLE, Nat.reduceLT, Nat.lt_irrefl, Nat.reduceBEq, tys0, tys1, tys2, tys3, tys4, tys5, tys6, tys7, tys8, tys9, tys10, tys11, Try.ntmps33, Try.results33, fr]
  refine RunL.callp rfl rfl ok_f29 (specWordS_ok _ _) (by first | rfl | simp only [pureL, pureB, Bool.and_self, Bool.and_true, Bool.true_and]) rfl ?_
  simp only [run0, run1, run2, run3, run4, run5, run6, run7, run8, run9, run10, run11, run12, run13, run14, run15, run16, run17, run18, run19, run20, run21, run22, reduceCtorEq, Nat.reduceEqDiff, Nat.reduceAdd, Nat.reduceSub, Nat.reduceLeDiff, indexAddrA, indexRefA, appendA, strA, Nat.reduceMul, Nat.zero_mul, Nat.reduceMod, Int.reduceEq, Int.reduceLT, Int.reduceLE, Nat.reduceLT, Nat.lt_irrefl, Nat.reduceBEq, tys0, tys1, tys2, tys3, tys4, tys5, tys6, tys7, tys8, tys9, tys10, tys11, Try.ntmps33, Try.results33, fr]
  refine RunL.callp rfl rfl ok_f29 (specWordS_ok _ _) (by first | rfl | simp only [pureL, pureB, Bool.and_self, Bool.and_true, Bool.true_and]) rfl ?_
  cases h1 : shortB a b
  · simp only [run0, run1, run2, run3, run4, run5, run6, run7, run8, run9, run10, run11, run12, run13, run14, run15, run16, run17, run18, run19, run20, run21, run22, reduceCtorEq, Nat.reduceEqDiff, Nat.reduceAdd, Nat.reduceSub, Nat.reduceLeDiff, indexAddrA, indexRefA, appendA, strA, Nat.reduceMul, Nat.zero_mul, Nat.reduceMod, Int.reduceEq, Int.reduceLT, Int.reduceLE, Nat.reduceLT, Nat.lt_irrefl, Nat.reduceBEq, tys0, tys1, tys2, tys3, tys4, tys5, tys6, tys7, tys8, tys9, tys10, tys11, Try.ntmps33, Try.results33, fr, h1]
    exact Fin.eq (by simp) rfl
  cases h2 : shortB c d
  · simp only [run0, run1, run2, run3, run4, run5, run6, run7, run8, run9, run10, run11, run12, run13, run14, run15, run16, run17, run18, run19, run20, run21, run22, reduceCtorEq, Nat.reduceEqDiff, Nat.reduceAdd, Nat.reduceSub, Nat.reduceLeDiff, indexAddrA, indexRefA, appendA, strA, Nat.reduceMul, Nat.zero_mul, Nat.reduceMod, Int.reduceEq, Int.reduceLT, Int.reduceLE, Nat.reduceLT, Nat.lt_irrefl, Nat.reduceBEq, tys0, tys1, tys2, tys3, tys4, tys5, tys6, tys7, tys8, tys9, tys10, tys11, Try.ntmps33, Try.results33, fr, h1, h2]
    exact Fin.eq (by simp) rfl
  have hmk := meet_ok c d h1
  simp only [run0, run1, run2, run3, run4, run5, run6, run7, run8, run9, run10, run11, run12, run13, run14, run15, run16, run17, run18, run19, run20, run21, run22, reduceCtorEq, Nat.reduceEqDiff, Nat.reduceAdd, Nat.reduceSub, Nat.reduceLeDiff, indexAddrA, indexRefA, appendA, strA, Nat.reduceMul, Nat.zero_mul, Nat.reduceMod, Int.reduceEq, Int.reduceLT, Int.reduceLE, Nat.reduceLT, Nat.lt_irrefl, Nat.reduceBEq, tys0, tys1, tys2, tys3, tys4, tys5, tys6, tys7, tys8, tys9, tys10, tys11, Try.ntmps33, Try.results33, fr, h1, h2]
  simp only [meetX, meetK] at hmk ⊢
  generalize wordS a b = v at *
  generalize wordS c d = w at *
  have hc := specPre_ok v (cpl v w 1000 0) (by omega) (cpl_le v w 1000 0 (Nat.zero_le _)) hmk
  refine AWp.loop_inv (ι := Nat) (fun k => ⟨[.agg [.int .i64 a, .int .i64 b], .agg [.int .i64 c, .int .i64 d], .ptr 0 0, .ptr 1 0, .ptr 2 0, .bool false, .str v, .bool true, .str w, .bool true, .int .i64 k, .junk, .junk, .junk, .junk, .junk, .junk, .junk, .junk, .junk, .junk, .junk, .junk, .junk, .junk, .junk, .junk, .junk, .junk, .junk, .junk, .junk, .junk, .junk, .junk, .junk, .junk, .junk, .junk, .junk, .junk, .junk, .junk, .junk, .junk, .junk, .junk, .junk, .junk, .junk, .junk, .junk, .junk], [.box 26 [.int .i64 a, .int .i64 b], .box 26 [.int .i64 c, .int .i64 d], .box 26 [.int .i64 0, .int .i64 0]]⟩)
    (fun k => k ≤ v.size ∧ k ≤ w.size ∧ cpl v w (1000 - k) k = cpl v w 1000 0) (fun k => v.size - k) 0 ⟨Nat.zero_le _, Nat.zero_le _, rfl⟩ ⟨by simp only [Int.natCast_zero]; repeat constructor, rfl⟩ ?_
  rintro k ⟨hkv, hkw, hrun⟩
  refine W.sound hmix (E := []) ?_
  have hm : 1000 - k = (999 - k) + 1 := by omega
  rw [hm] at hrun
  have e5 : IntKind.i64.wrap ((k : Int) + 1) = ((k + 1 : Nat) : Int) := by rw [show IntKind.i64.wrap ((k : Int) + 1) = (k : Int) + 1 from w64_small (by omega)]; omega
  simp only [run0, run1, run2, run3, run4, run5, run6, run7, run8, run9, run10, run11, run12, run13, run14, run15, run16, run17, run18, run19, run20, run21, run22, reduceCtorEq, Nat.reduceEqDiff, Nat.reduceAdd, Nat.reduceSub, Nat.reduceLeDiff, indexAddrA, indexRefA, appendA, strA, Nat.reduceMul, Nat.zero_mul, Nat.reduceMod, Int.reduceEq, Int.reduceLT, Int.reduceLE, Nat.reduceLT, Nat.lt_irrefl, Nat.reduceBEq, tys0, tys1, tys2, tys3, tys4, tys5, tys6, tys7, tys8, tys9, tys10, tys11, Try.ntmps33, Try.results33]
  refine ⟨by kernel_rfl, ?_⟩
  by_cases hgo : k < v.size ∧ k < w.size ∧ v.data.getD k 0 = w.data.getD k 0
  · have e0 : (k : Int) < (v.size : Int) := by omega
    have e1 : (k : Int) < (w.size : Int) := by omega
    have e2 := index_str hgo.1
    have e3 := index_str hgo.2.1
    have e4 : (((v.data.getD k 0).toNat : Int) == ((w.data.getD k 0).toNat : Int)) = true := by rw [byte_eq]; simpa using hgo.2.2
    simp only [run0, run1, run2, run3, run4, run5, run6, run7, run8, run9, run10, run11, run12, run13, run14, run15, run16, run17, run18, run19, run20, run21, run22, reduceCtorEq, Nat.reduceEqDiff, Nat.reduceAdd, Nat.reduceSub, Nat.reduceLeDiff, indexAddrA, indexRefA, appendA, strA, Nat.reduceMul, Nat.zero_mul, Nat.reduceMod, Int.reduceEq, Int.reduceLT, Int.reduceLE, Nat.reduceLT, Nat.lt_irrefl, Nat.reduceBEq, tys0, tys1, tys2, tys3, tys4, tys5, tys6, tys7, tys8, tys9, tys10, tys11, Try.ntmps33, Try.results33, e0, e1, e2, e3, e4, e5]
    refine ⟨k + 1, ⟨by omega, by omega, ?_⟩, by omega, by repeat constructor⟩
    rw [← hrun, show 1000 - (k + 1) = 999 - k by omega]
    simp only [cpl, hgo, and_self, if_true]
  · have hend : cpl v w 1000 0 = k := by rw [← hrun]; simp only [cpl, hgo, if_false]
    rw [hend] at hc
    have f1 : (k : Int) ≤ (v.size : Int) := by omega
    by_cases h3 : k < v.size
    · have e0 : (k : Int) < (v.size : Int) := by omega
      by_cases h4 : k < w.size
      · have e1 : (k : Int) < (w.size : Int) := by omega
        have e2 := index_str h3
        have e3 := index_str h4
        have e4 : (((v.data.getD k 0).toNat : Int) == ((w.data.getD k 0).toNat : Int)) = false := by
          rw [byte_eq, beq_eq_false_iff_ne]
          exact fun he => hgo ⟨h3, h4, he⟩
        simp only [run0, run1, run2, run3, run4, run5, run6, run7, run8, run9, run10, run11, run12, run13, run14, run15, run16, run17, run18, run19, run20, run21, run22, reduceCtorEq, Nat.reduceEqDiff, Nat.reduceAdd, Nat.reduceSub, Nat.reduceLeDiff, indexAddrA, indexRefA, appendA, strA, Nat.reduceMul, Nat.zero_mul, Nat.reduceMod, Int.reduceEq, Int.reduceLT, Int.reduceLE, Nat.reduceLT, Nat.lt_irrefl, Nat.reduceBEq, tys0, tys1, tys2, tys3, tys4, tys5, tys6, tys7, tys8, tys9, tys10, tys11, Try.ntmps33, Try.results33, e0, e1, e2, e3, e4, f1, Int.natCast_nonneg, Int.toNat_natCast, Int.le_refl, Int.toNat_zero, true_and, Int.natCast_zero]
        refine RunL.callp rfl rfl ok_f62 (hc) (by first | rfl | simp only [pureL, pureB, Bool.and_self, Bool.and_true, Bool.true_and]) rfl ?_
        simp only [run0, run1, run2, run3, run4, run5, run6, run7, run8, run9, run10, run11, run12, run13, run14, run15, run16, run17, run18, run19, run20, run21, run22, reduceCtorEq, Nat.reduceEqDiff, Nat.reduceAdd, Nat.reduceSub, Nat.reduceLeDiff, indexAddrA, indexRefA, appendA, strA, Nat.reduceMul, Nat.zero_mul, Nat.reduceMod, Int.reduceEq, Int.reduceLT, Int.reduceLE, Nat.reduceLT, Nat.lt_irrefl, Nat.reduceBEq, tys0, tys1, tys2, tys3, tys4, tys5, tys6, tys7, tys8, tys9, tys10, tys11, Try.ntmps33, Try.results33, fr]
        exact Fin.eq (by rw [hend]) rfl
      · have e1 : ¬ (k : Int) < (w.size : Int) := by omega
        simp only [run0, run1, run2, run3, run4, run5, run6, run7, run8, run9, run10, run11, run12, run13, run14, run15, run16, run17, run18, run19, run20, run21, run22, reduceCtorEq, Nat.reduceEqDiff, Nat.reduceAdd, Nat.reduceSub, Nat.reduceLeDiff, indexAddrA, indexRefA, appendA, strA, Nat.reduceMul, Nat.zero_mul, Nat.reduceMod, Int.reduceEq, Int.reduceLT, Int.reduceLE, Nat.reduceLT, Nat.lt_irrefl, Nat.reduceBEq, tys0, tys1, tys2, tys3, tys4, tys5, tys6, tys7, tys8, tys9, tys10, tys11, Try.ntmps33, Try.results33, e0, e1, f1, Int.natCast_nonneg, Int.toNat_natCast, Int.le_refl, Int.toNat_zero, true_and, Int.natCast_zero]
        refine RunL.callp rfl rfl ok_f62 (hc) (by first | rfl | simp only [pureL, pureB, Bool.and_self, Bool.and_true, Bool.true_and]) rfl ?_
        simp only [run0, run1, run2, run3, run4, run5, run6, run7, run8, run9, run10, run11, run12, run13, run14, run15, run16, run17, run18, run19, run20, run21, run22, reduceCtorEq, Nat.reduceEqDiff, Nat.reduceAdd, Nat.reduceSub, Nat.reduceLeDiff, indexAddrA, indexRefA, appendA, strA, Nat.reduceMul, Nat.zero_mul, Nat.reduceMod, Int.reduceEq, Int.reduceLT, Int.reduceLE, Nat.reduceLT, Nat.lt_irrefl, Nat.reduceBEq, tys0, tys1, tys2, tys3, tys4, tys5, tys6, tys7, tys8, tys9, tys10, tys11, Try.ntmps33, Try.results33, fr]
        exact Fin.eq (by rw [hend]) rfl
    · have e0 : ¬ (k : Int) < (v.size : Int) := by omega
      simp only [run0, run1, run2, run3, run4, run5, run6, run7, run8, run9, run10, run11, run12, run13, run14, run15, run16, run17, run18, run19, run20, run21, run22, reduceCtorEq, Nat.reduceEqDiff, Nat.reduceAdd, Nat.reduceSub, Nat.reduceLeDiff, indexAddrA, indexRefA, appendA, strA, Nat.reduceMul, Nat.zero_mul, Nat.reduceMod, Int.reduceEq, Int.reduceLT, Int.reduceLE, Nat.reduceLT, Nat.lt_irrefl, Nat.reduceBEq, tys0, tys1, tys2, tys3, tys4, tys5, tys6, tys7, tys8, tys9, tys10, tys11, Try.ntmps33, Try.results33, e0, f1, Int.natCast_nonneg, Int.toNat_natCast, Int.le_refl, Int.toNat_zero, true_and, Int.natCast_zero]
      refine RunL.callp rfl rfl ok_f62 (hc) (by first | rfl | simp only [pureL, pureB, Bool.and_self, Bool.and_true, Bool.true_and]) rfl ?_
      simp only [run0, run1, run2, run3, run4, run5, run6, run7, run8, run9, run10, run11, run12, run13, run14, run15, run16, run17, run18, run19, run20, run21, run22, reduceCtorEq, Nat.reduceEqDiff, Nat.reduceAdd, Nat.reduceSub, Nat.reduceLeDiff, indexAddrA, indexRefA, appendA, strA, Nat.reduceMul, Nat.zero_mul, Nat.reduceMod, Int.reduceEq, Int.reduceLT, Int.reduceLE, Nat.reduceLT, Nat.lt_irrefl, Nat.reduceBEq, tys0, tys1, tys2, tys3, tys4, tys5, tys6, tys7, tys8, tys9, tys10, tys11, Try.ntmps33, Try.results33, fr]
      exact Fin.eq (by rw [hend]) rfl

theorem FnExactMeetOf_ok {a0 a1 : AV} (h0 : IsOf Try.prog 23 a0) (h1 : IsOf Try.prog 23 a1) : Ct Try.prog 11 [a0, a1] [] (.bool true) [] := by
  obtain ⟨a, b, rfl, _, _⟩ := laws_isFr h0
  obtain ⟨c, d, rfl, _, _⟩ := laws_isFr h1
  have hi := implMeet_ok a b c d
  have hs := specMeet_ok a b c d
  refine Ct.by_ hmix [] Try.func11 rfl ?_
  simp only [run0, run1, run2, run3, run4, run5, run6, run7, run8, run9, run10, run11, run12, run13, run14, run15, run16, run17, run18, run19, run20, run21, run22, reduceCtorEq, Nat.reduceEqDiff, Nat.reduceAdd, Nat.reduceSub, Nat.reduceLeDiff, indexAddrA, indexRefA, appendA, strA, Nat.reduceMul, Nat.zero_mul, Nat.reduceMod, Int.reduceEq, Int.reduceLT, Int.reduceLE, Nat.reduceLT, Nat.lt_irrefl, Nat.reduceBEq, tys0, tys1, tys2, tys3, tys4, tys5, tys6, tys7, tys8, tys9, tys10, tys11, Try.ntmps11, Try.results11, fr]
  refine ⟨by kernel_rfl, ?_⟩
  refine RunL.callp rfl rfl ok_f16 (toFraction_ok _ _) (by first | rfl | simp only [pureL, pureB, Bool.and_self, Bool.and_true, Bool.true_and]) rfl ?_
  simp only [run0, run1, run2, run3, run4, run5, run6, run7, run8, run9, run10, run11, run12, run13, run14, run15, run16, run17, run18, run19, run20, run21, run22, reduceCtorEq, Nat.reduceEqDiff, Nat.reduceAdd, Nat.reduceSub, Nat.reduceLeDiff, indexAddrA, indexRefA, appendA, strA, Nat.reduceMul, Nat.zero_mul, Nat.reduceMod, Int.reduceEq, Int.reduceLT, Int.reduceLE, Nat.reduceLT, Nat.lt_irrefl, Nat.reduceBEq, tys0, tys1, tys2, tys3, tys4, tys5, tys6, tys7, tys8, tys9, tys10, tys11, Try.ntmps11, Try.results11, fr]
  refine RunL.callp rfl rfl ok_f16 (toFraction_ok _ _) (by first | rfl | simp only [pureL, pureB, Bool.and_self, Bool.and_true, Bool.true_and]) rfl ?_
  simp only [run0, run1, run2, run3, run4, run5, run6, run7, run8, run9, run10, run11, run12, run13, run14, run15, run16, run17, run18, run19, run20, run21, run22, reduceCtorEq, Nat.reduceEqDiff, Nat.reduceAdd, Nat.reduceSub, Nat.reduceLeDiff, indexAddrA, indexRefA, appendA, strA, Nat.reduceMul, Nat.zero_mul, Nat.reduceMod, Int.reduceEq, Int.reduceLT, Int.reduceLE, Nat.reduceLT, Nat.lt_irrefl, Nat.reduceBEq, tys0, tys1, tys2, tys3, tys4, tys5, tys6, tys7, tys8, tys9, tys10, tys11, Try.ntmps11, Try.results11, fr]
  refine RunL.callp rfl rfl ok_f33 (hs) (by first | rfl | simp only [pureL, pureB, Bool.and_self, Bool.and_true, Bool.true_and]) rfl ?_
  simp only [run0, run1, run2, run3, run4, run5, run6, run7, run8, run9, run10, run11, run12, run13, run14, run15, run16, run17, run18, run19, run20, run21, run22, reduceCtorEq, Nat.reduceEqDiff, Nat.reduceAdd, Nat.reduceSub, Nat.reduceLeDiff, indexAddrA, indexRefA, appendA, strA, Nat.reduceMul, Nat.zero_mul, Nat.reduceMod, Int.reduceEq, Int.reduceLT, Int.reduceLE, Nat.reduceLT, Nat.lt_irrefl, Nat.reduceBEq, tys0, tys1, tys2, tys3, tys4, tys5, tys6, tys7, tys8, tys9, tys10, tys11, Try.ntmps11, Try.results11, fr, meetR]
  refine ⟨by kernel_rfl, ?_⟩
  refine RunL.callp rfl rfl ok_f16 (toFraction_ok _ _) (by first | rfl | simp only [pureL, pureB, Bool.and_self, Bool.and_true, Bool.true_and]) rfl ?_
  simp only [run0, run1, run2, run3, run4, run5, run6, run7, run8, run9, run10, run11, run12, run13, run14, run15, run16, run17, run18, run19, run20, run21, run22, reduceCtorEq, Nat.reduceEqDiff, Nat.reduceAdd, Nat.reduceSub, Nat.reduceLeDiff, indexAddrA, indexRefA, appendA, strA, Nat.reduceMul, Nat.zero_mul, Nat.reduceMod, Int.reduceEq, Int.reduceLT, Int.reduceLE, Nat.reduceLT, Nat.lt_irrefl, Nat.reduceBEq, tys0, tys1, tys2, tys3, tys4, tys5, tys6, tys7, tys8, tys9, tys10, tys11, Try.ntmps11, Try.results11, fr]
  refine RunL.callp rfl rfl ok_f16 (toFraction_ok _ _) (by first | rfl | simp only [pureL, pureB, Bool.and_self, Bool.and_true, Bool.true_and]) rfl ?_
  simp only [run0, run1, run2, run3, run4, run5, run6, run7, run8, run9, run10, run11, run12, run13, run14, run15, run16, run17, run18, run19, run20, run21, run22, reduceCtorEq, Nat.reduceEqDiff, Nat.reduceAdd, Nat.reduceSub, Nat.reduceLeDiff, indexAddrA, indexRefA, appendA, strA, Nat.reduceMul, Nat.zero_mul, Nat.reduceMod, Int.reduceEq, Int.reduceLT, Int.reduceLE, Nat.reduceLT, Nat.lt_irrefl, Nat.reduceBEq, tys0, tys1, tys2, tys3, tys4, tys5, tys6, tys7, tys8, tys9, tys10, tys11, Try.ntmps11, Try.results11, fr]
  refine RunL.callp rfl rfl ok_f34 (hi) (by first | rfl | simp only [pureL, pureB, Bool.and_self, Bool.and_true, Bool.true_and]) rfl ?_
  simp only [run0, run1, run2, run3, run4, run5, run6, run7, run8, run9, run10, run11, run12, run13, run14, run15, run16, run17, run18, run19, run20, run21, run22, reduceCtorEq, Nat.reduceEqDiff, Nat.reduceAdd, Nat.reduceSub, Nat.reduceLeDiff, indexAddrA, indexRefA, appendA, strA, Nat.reduceMul, Nat.zero_mul, Nat.reduceMod, Int.reduceEq, Int.reduceLT, Int.reduceLE, Nat.reduceLT, Nat.lt_irrefl, Nat.reduceBEq, tys0, tys1, tys2, tys3, tys4, tys5, tys6, tys7, tys8, tys9, tys10, tys11, Try.ntmps11, Try.results11, fr, meetR]
  refine RunL.callp rfl rfl ok_f20 (eqFraction_ok _ _) (by first | rfl | simp only [pureL, pureB, Bool.and_self, Bool.and_true, Bool.true_and]) rfl ?_
  simp only [run0, run1, run2, run3, run4, run5, run6, run7, run8, run9, run10, run11, run12, run13, run14, run15, run16, run17, run18, run19, run20, run21, run22, reduceCtorEq, Nat.reduceEqDiff, Nat.reduceAdd, Nat.reduceSub, Nat.reduceLeDiff, indexAddrA, indexRefA, appendA, strA, Nat.reduceMul, Nat.zero_mul, Nat.reduceMod, Int.reduceEq, Int.reduceLT, Int.reduceLE, Nat.reduceLT, Nat.lt_irrefl, Nat.reduceBEq, tys0, tys1, tys2, tys3, tys4, tys5, tys6, tys7, tys8, tys9, tys10, tys11, Try.ntmps11, Try.results11, bne_self_eq_false]
  exact Fin.eq rfl rfl

end Go.Proofs.Ytolfjeedgedblaa
