/-
  Fractions: the law of draws: sums and products are undone, the order is the difference's sign, the whole part.
-/
import Derived.Test.YtolfjeedgedblaaF23
import Derived.Test.YtolfjeedgedblaaF24
namespace Go.Proofs.Ytolfjeedgedblaa
open Go K
set_option linter.unusedSimpArgs false
set_option linter.unusedVariables false
set_option maxHeartbeats 3200000
set_option maxRecDepth 8000

theorem bytes_list : ∀ es : List AV, (∀ x ∈ es, IsOf Try.prog 5 x) → ∃ l : List Int, es = bytesV l ∧ ∀ b ∈ l, 0 ≤ b ∧ b ≤ 255
  | [], _ => ⟨[], rfl, by simp⟩
  | x :: es, hes => by
    obtain ⟨l, rfl, h2⟩ := bytes_list es fun y hy => hes y (List.mem_cons_of_mem _ hy)
    obtain ⟨_, h⟩ := (hes x (List.mem_cons_self ..)).one ty_a5
    obtain ⟨i, e, hw⟩ := h.int Try.underlying5
    simp only [List.cons.injEq, and_true] at e
    subst e
    refine ⟨i :: l, rfl, fun b hb => ?_⟩
    rcases List.mem_cons.1 hb with rfl | hb
    · simp only [Lit.wf, Bool.and_eq_true, decide_eq_true_eq] at hw
      exact hw
    · exact h2 b hb
theorem laws_isBytes {x : AV} (h : IsOf Try.prog 38 x) : ∃ l : List Int, x = .sl false (bytesV l) ∧ (∀ b ∈ l, 0 ≤ b ∧ b ≤ 255) ∧ l.length ≤ maxLen := by
  obtain ⟨_, h⟩ := h.one ty_a38
  obtain ⟨es, e0, hel, hes⟩ := h.slice Try.underlying38
  simp only [List.cons.injEq, and_true] at e0
  subst e0
  obtain ⟨l, rfl, h2⟩ := bytes_list es hes
  exact ⟨l, rfl, h2, by simpa [bytesV] using hel⟩

theorem bytes_pure : ∀ l : List Int, pureL (bytesV l) = true
  | [] => rfl
  | x :: r => by
    have := bytes_pure r
    simp only [bytesV, List.map_cons, pureL, pureB, Bool.true_and] at this ⊢
    exact this
theorem maxLen_eq : maxLen = 9223372036854775807 := by decide
theorem big_ok (l m : List Int) (hl : l.length ≤ maxLen) (hm : m.length ≤ maxLen) : Ct Try.prog 35 [.sl false (bytesV l), .sl false (bytesV m)] [] (.bool (decide ((1048576 : Int) < l.length) || decide (1048576 - (l.length : Int) < m.length))) [] := by
  rw [maxLen_eq] at hl hm
  have e1 : (bytesV l).length = l.length := by simp [bytesV]
  have e2 : (bytesV m).length = m.length := by simp [bytesV]
  have e3 : IntKind.i64.wrap (1048576 - (l.length : Int)) = 1048576 - (l.length : Int) := w64_id (by omega) (by omega)
  refine Ct.by_ hmix [] Try.func35 rfl ?_
  by_cases h : (1048576 : Int) < l.length
  · simp only [run0, run1, run2, run3, run4, run5, run6, run7, run8, run9, run10, run11, run12, run13, run14, run15, run16, run17, run18, run19, run20, run21, run22, reduceCtorEq, Nat.reduceEqDiff, Nat.reduceAdd, Nat.reduceSub, Nat.reduceLeDiff, indexAddrA, indexRefA, appendA, strA, Nat.reduceMul, Nat.zero_mul, Nat.reduceMod, Int.reduceEq, Int.reduceLT, Int.reduceLE, Nat.reduceLT, Nat.lt_irrefl, Nat.reduceBEq, tys0, tys1, tys2, tys3, tys4, tys5, tys6, tys7, tys8, tys9, tys10, tys11, Try.ntmps35, Try.results35, e1, e2, h]
    exact Fin.eq (by simp) rfl
  · simp only [run0, run1, run2, run3, run4, run5, run6, run7, run8, run9, run10, run11, run12, run13, run14, run15, run16, run17, run18, run19, run20, run21, run22, reduceCtorEq, Nat.reduceEqDiff, Nat.reduceAdd, Nat.reduceSub, Nat.reduceLeDiff, indexAddrA, indexRefA, appendA, strA, Nat.reduceMul, Nat.zero_mul, Nat.reduceMod, Int.reduceEq, Int.reduceLT, Int.reduceLE, Nat.reduceLT, Nat.lt_irrefl, Nat.reduceBEq, tys0, tys1, tys2, tys3, tys4, tys5, tys6, tys7, tys8, tys9, tys10, tys11, Try.ntmps35, Try.results35, e1, e2, h, e3]
    exact Fin.eq (by simp) rfl

theorem floor_ok (a b : Int) (h : goodB a b = true) : Ct Try.prog 65 [fr a b] [] (.int .i64 (flF a b)) [] := by
  have r := good_range h
  obtain ⟨h1, h2, h3, _⟩ := flF_spec h
  have e0 : ¬ (b = 0) := by omega
  simp only [w64] at h1 h2 h3
  refine Ct.by_ hmix [] Try.func65 rfl ?_
  by_cases q : a < a.tdiv b * b
  · simp only [run0, run1, run2, run3, run4, run5, run6, run7, run8, run9, run10, run11, run12, run13, run14, run15, run16, run17, run18, run19, run20, run21, run22, reduceCtorEq, Nat.reduceEqDiff, Nat.reduceAdd, Nat.reduceSub, Nat.reduceLeDiff, indexAddrA, indexRefA, appendA, strA, Nat.reduceMul, Nat.zero_mul, Nat.reduceMod, Int.reduceEq, Int.reduceLT, Int.reduceLE, Nat.reduceLT, Nat.lt_irrefl, Nat.reduceBEq, tys0, tys1, tys2, tys3, tys4, tys5, tys6, tys7, tys8, tys9, tys10, tys11, Try.ntmps65, Try.results65, fr, e0, h1, h2, h3, q]
    exact Fin.eq (by simp [flF, q]) rfl
  · simp only [run0, run1, run2, run3, run4, run5, run6, run7, run8, run9, run10, run11, run12, run13, run14, run15, run16, run17, run18, run19, run20, run21, run22, reduceCtorEq, Nat.reduceEqDiff, Nat.reduceAdd, Nat.reduceSub, Nat.reduceLeDiff, indexAddrA, indexRefA, appendA, strA, Nat.reduceMul, Nat.zero_mul, Nat.reduceMod, Int.reduceEq, Int.reduceLT, Int.reduceLE, Nat.reduceLT, Nat.lt_irrefl, Nat.reduceBEq, tys0, tys1, tys2, tys3, tys4, tys5, tys6, tys7, tys8, tys9, tys10, tys11, Try.ntmps65, Try.results65, fr, e0, h1, h2, h3, q]
    exact Fin.eq (by simp [flF, q]) rfl
theorem shFloor_ok (a b : Int) (h : goodB a b = true) : Ct Try.prog 66 [fr a b] [] (.int .i64 (flF a b)) [] := by
  have r := good_range h
  obtain ⟨h1, h2, h3, _⟩ := flF_spec h
  have e0 : ¬ (b = 0) := by omega
  simp only [w64] at h1 h2 h3
  refine Ct.by_ hmix [] Try.func66 rfl ?_
  by_cases q : a < a.tdiv b * b
  · simp only [run0, run1, run2, run3, run4, run5, run6, run7, run8, run9, run10, run11, run12, run13, run14, run15, run16, run17, run18, run19, run20, run21, run22, reduceCtorEq, Nat.reduceEqDiff, Nat.reduceAdd, Nat.reduceSub, Nat.reduceLeDiff, indexAddrA, indexRefA, appendA, strA, Nat.reduceMul, Nat.zero_mul, Nat.reduceMod, Int.reduceEq, Int.reduceLT, Int.reduceLE, Nat.reduceLT, Nat.lt_irrefl, Nat.reduceBEq, tys0, tys1, tys2, tys3, tys4, tys5, tys6, tys7, tys8, tys9, tys10, tys11, Try.ntmps66, Try.results66, fr, e0, h1, h2, h3, q]
    exact Fin.eq (by simp [flF, q]) rfl
  · simp only [run0, run1, run2, run3, run4, run5, run6, run7, run8, run9, run10, run11, run12, run13, run14, run15, run16, run17, run18, run19, run20, run21, run22, reduceCtorEq, Nat.reduceEqDiff, Nat.reduceAdd, Nat.reduceSub, Nat.reduceLeDiff, indexAddrA, indexRefA, appendA, strA, Nat.reduceMul, Nat.zero_mul, Nat.reduceMod, Int.reduceEq, Int.reduceLT, Int.reduceLE, Nat.reduceLT, Nat.lt_irrefl, Nat.reduceBEq, tys0, tys1, tys2, tys3, tys4, tys5, tys6, tys7, tys8, tys9, tys10, tys11, Try.ntmps66, Try.results66, fr, e0, h1, h2, h3, q]
    exact Fin.eq (by simp [flF, q]) rfl

theorem floor_x (a b : Int) : ∃ (f : Int) (ok : Bool), Ct Try.prog 37 [fr a b] [] (.tup [.int .i64 f, .bool ok]) [] ∧ Ct Try.prog 38 [fr a b] [] (.tup [.int .i64 f, .bool ok]) [] ∧
    (ok = true → IntKind.i64.wrap (f * b) = f * b ∧ IntKind.i64.wrap (f + 1) = f + 1 ∧ IntKind.i64.wrap ((f + 1) * b) = (f + 1) * b ∧ f * b ≤ a ∧ a < (f + 1) * b) := by
  cases h : goodB a b
  · refine ⟨0, false, ?_, ?_, fun e => by cases e⟩
    · refine Ct.by_ hmix [] Try.func37 rfl ?_
      simp only [run0, run1, run2, run3, run4, run5, run6, run7, run8, run9, run10, run11, run12, run13, run14, run15, run16, run17, run18, run19, run20, run21, run22, reduceCtorEq, Nat.reduceEqDiff, Nat.reduceAdd, Nat.reduceSub, Nat.reduceLeDiff, indexAddrA, indexRefA, appendA, strA, Nat.reduceMul, Nat.zero_mul, Nat.reduceMod, Int.reduceEq, Int.reduceLT, Int.reduceLE, Nat.reduceLT, Nat.lt_irrefl, Nat.reduceBEq, tys0, tys1, tys2, tys3, tys4, tys5, tys6, tys7, tys8, tys9, tys10, tys11, Try.ntmps37, Try.results37, fr]
      refine RunL.callp rfl rfl ok_f48 (good_ok _ _) (by first | rfl | simp only [pureL, pureB, Bool.and_self, Bool.and_true, Bool.true_and]) rfl ?_
      simp only [run0, run1, run2, run3, run4, run5, run6, run7, run8, run9, run10, run11, run12, run13, run14, run15, run16, run17, run18, run19, run20, run21, run22, reduceCtorEq, Nat.reduceEqDiff, Nat.reduceAdd, Nat.reduceSub, Nat.reduceLeDiff, indexAddrA, indexRefA, appendA, strA, Nat.reduceMul, Nat.zero_mul, Nat.reduceMod, Int.reduceEq, Int.reduceLT, Int.reduceLE, Nat.reduceLT, Nat.lt_irrefl, Nat.reduceBEq, tys0, tys1, tys2, tys3, tys4, tys5, tys6, tys7, tys8, tys9, tys10, tys11, Try.ntmps37, Try.results37, h]
      exact Fin.eq rfl rfl
    · refine Ct.by_ hmix [] Try.func38 rfl ?_
      simp only [run0, run1, run2, run3, run4, run5, run6, run7, run8, run9, run10, run11, run12, run13, run14, run15, run16, run17, run18, run19, run20, run21, run22, reduceCtorEq, Nat.reduceEqDiff, Nat.reduceAdd, Nat.reduceSub, Nat.reduceLeDiff, indexAddrA, indexRefA, appendA, strA, Nat.reduceMul, Nat.zero_mul, Nat.reduceMod, Int.reduceEq, Int.reduceLT, Int.reduceLE, Nat.reduceLT, Nat.lt_irrefl, Nat.reduceBEq, tys0, tys1, tys2, tys3, tys4, tys5, tys6, tys7, tys8, tys9, tys10, tys11, Try.ntmps38, Try.results38, fr]
      refine RunL.callp rfl rfl ok_f46 (shGood_ok _ _) (by first | rfl | simp only [pureL, pureB, Bool.and_self, Bool.and_true, Bool.true_and]) rfl ?_
      simp only [run0, run1, run2, run3, run4, run5, run6, run7, run8, run9, run10, run11, run12, run13, run14, run15, run16, run17, run18, run19, run20, run21, run22, reduceCtorEq, Nat.reduceEqDiff, Nat.reduceAdd, Nat.reduceSub, Nat.reduceLeDiff, indexAddrA, indexRefA, appendA, strA, Nat.reduceMul, Nat.zero_mul, Nat.reduceMod, Int.reduceEq, Int.reduceLT, Int.reduceLE, Nat.reduceLT, Nat.lt_irrefl, Nat.reduceBEq, tys0, tys1, tys2, tys3, tys4, tys5, tys6, tys7, tys8, tys9, tys10, tys11, Try.ntmps38, Try.results38, h]
      exact Fin.eq rfl rfl
  · refine ⟨flF a b, true, ?_, ?_, fun _ => ?_⟩
    · refine Ct.by_ hmix [] Try.func37 rfl ?_
      simp only [run0, run1, run2, run3, run4, run5, run6, run7, run8, run9, run10, run11, run12, run13, run14, run15, run16, run17, run18, run19, run20, run21, run22, reduceCtorEq, Nat.reduceEqDiff, Nat.reduceAdd, Nat.reduceSub, Nat.reduceLeDiff, indexAddrA, indexRefA, appendA, strA, Nat.reduceMul, Nat.zero_mul, Nat.reduceMod, Int.reduceEq, Int.reduceLT, Int.reduceLE, Nat.reduceLT, Nat.lt_irrefl, Nat.reduceBEq, tys0, tys1, tys2, tys3, tys4, tys5, tys6, tys7, tys8, tys9, tys10, tys11, Try.ntmps37, Try.results37, fr]
      refine RunL.callp rfl rfl ok_f48 (good_ok _ _) (by first | rfl | simp only [pureL, pureB, Bool.and_self, Bool.and_true, Bool.true_and]) rfl ?_
      simp only [run0, run1, run2, run3, run4, run5, run6, run7, run8, run9, run10, run11, run12, run13, run14, run15, run16, run17, run18, run19, run20, run21, run22, reduceCtorEq, Nat.reduceEqDiff, Nat.reduceAdd, Nat.reduceSub, Nat.reduceLeDiff, indexAddrA, indexRefA, appendA, strA, Nat.reduceMul, Nat.zero_mul, Nat.reduceMod, Int.reduceEq, Int.reduceLT, Int.reduceLE, Nat.reduceLT, Nat.lt_irrefl, Nat.reduceBEq, tys0, tys1, tys2, tys3, tys4, tys5, tys6, tys7, tys8, tys9, tys10, tys11, Try.ntmps37, Try.results37, h]
      refine RunL.callp rfl rfl ok_f65 (floor_ok a b h) (by first | rfl | simp only [pureL, pureB, Bool.and_self, Bool.and_true, Bool.true_and]) rfl ?_
      simp only [run0, run1, run2, run3, run4, run5, run6, run7, run8, run9, run10, run11, run12, run13, run14, run15, run16, run17, run18, run19, run20, run21, run22, reduceCtorEq, Nat.reduceEqDiff, Nat.reduceAdd, Nat.reduceSub, Nat.reduceLeDiff, indexAddrA, indexRefA, appendA, strA, Nat.reduceMul, Nat.zero_mul, Nat.reduceMod, Int.reduceEq, Int.reduceLT, Int.reduceLE, Nat.reduceLT, Nat.lt_irrefl, Nat.reduceBEq, tys0, tys1, tys2, tys3, tys4, tys5, tys6, tys7, tys8, tys9, tys10, tys11, Try.ntmps37, Try.results37]
      exact Fin.eq rfl rfl
    · refine Ct.by_ hmix [] Try.func38 rfl ?_
      simp only [run0, run1, run2, run3, run4, run5, run6, run7, run8, run9, run10, run11, run12, run13, run14, run15, run16, run17, run18, run19, run20, run21, run22, reduceCtorEq, Nat.reduceEqDiff, Nat.reduceAdd, Nat.reduceSub, Nat.reduceLeDiff, indexAddrA, indexRefA, appendA, strA, Nat.reduceMul, Nat.zero_mul, Nat.reduceMod, Int.reduceEq, Int.reduceLT, Int.reduceLE, Nat.reduceLT, Nat.lt_irrefl, Nat.reduceBEq, tys0, tys1, tys2, tys3, tys4, tys5, tys6, tys7, tys8, tys9, tys10, tys11, Try.ntmps38, Try.results38, fr]
      refine RunL.callp rfl rfl ok_f46 (shGood_ok _ _) (by first | rfl | simp only [pureL, pureB, Bool.and_self, Bool.and_true, Bool.true_and]) rfl ?_
      simp only [run0, run1, run2, run3, run4, run5, run6, run7, run8, run9, run10, run11, run12, run13, run14, run15, run16, run17, run18, run19, run20, run21, run22, reduceCtorEq, Nat.reduceEqDiff, Nat.reduceAdd, Nat.reduceSub, Nat.reduceLeDiff, indexAddrA, indexRefA, appendA, strA, Nat.reduceMul, Nat.zero_mul, Nat.reduceMod, Int.reduceEq, Int.reduceLT, Int.reduceLE, Nat.reduceLT, Nat.lt_irrefl, Nat.reduceBEq, tys0, tys1, tys2, tys3, tys4, tys5, tys6, tys7, tys8, tys9, tys10, tys11, Try.ntmps38, Try.results38, h]
      refine RunL.callp rfl rfl ok_f66 (shFloor_ok a b h) (by first | rfl | simp only [pureL, pureB, Bool.and_self, Bool.and_true, Bool.true_and]) rfl ?_
      simp only [run0, run1, run2, run3, run4, run5, run6, run7, run8, run9, run10, run11, run12, run13, run14, run15, run16, run17, run18, run19, run20, run21, run22, reduceCtorEq, Nat.reduceEqDiff, Nat.reduceAdd, Nat.reduceSub, Nat.reduceLeDiff, indexAddrA, indexRefA, appendA, strA, Nat.reduceMul, Nat.zero_mul, Nat.reduceMod, Int.reduceEq, Int.reduceLT, Int.reduceLE, Nat.reduceLT, Nat.lt_irrefl, Nat.reduceBEq, tys0, tys1, tys2, tys3, tys4, tys5, tys6, tys7, tys8, tys9, tys10, tys11, Try.ntmps38, Try.results38]
      exact Fin.eq rfl rfl
    · obtain ⟨_, _, _, h4, h5, h6, h7, h8⟩ := flF_spec h
      simp only [w64] at h4 h5 h6
      exact ⟨h4, h5, h6, h7, h8⟩

theorem opR_eq (ok : Bool) (n d : Int) : opR ok n d = .tup [fr (if ok && mkOk n d then mkN n d else 0) (if ok && mkOk n d then mkD n d else 0), .bool (ok && mkOk n d)] := rfl
theorem add_x (a b c d : Int) : ∃ (s t : Int) (ok : Bool), Ct Try.prog 22 [fr a b, fr c d] [] (.tup [fr s t, .bool ok]) [] ∧ Ct Try.prog 21 [fr a b, fr c d] [] (.tup [fr s t, .bool ok]) [] ∧
    (ok = true → Ct Try.prog 26 [fr s t, fr c d] [] (.tup [fr a b, .bool true]) []) := by
  refine ⟨_, _, _, implAdd_ok a b c d, specAdd_ok a b c d, fun h => ?_⟩
  have h' := h
  simp only [Bool.and_eq_true] at h'
  obtain ⟨⟨h1, h2⟩, h3⟩ := h'
  rw [if_pos h, if_pos h]
  have hs := implSub_ok (mkN (addN a b c d) (w64 (b * d))) (mkD (addN a b c d) (w64 (b * d))) c d
  obtain ⟨e1, e2⟩ := sum_back h1 h2 h3
  have hg : goodB (mkN (addN a b c d) (w64 (b * d))) (mkD (addN a b c d) (w64 (b * d))) = true := h3
  have hok : mkOk (subN (mkN (addN a b c d) (w64 (b * d))) (mkD (addN a b c d) (w64 (b * d))) c d) (w64 (mkD (addN a b c d) (w64 (b * d)) * d)) = true := by
    unfold mkOk; rw [e1, e2]; exact h1
  rw [opR_eq, hg, h2, hok, e1, e2] at hs
  exact hs
theorem mul_x (a b c d : Int) : ∃ (s t : Int) (ok : Bool), Ct Try.prog 24 [fr a b, fr c d] [] (.tup [fr s t, .bool ok]) [] ∧ Ct Try.prog 23 [fr a b, fr c d] [] (.tup [fr s t, .bool ok]) [] ∧
    (ok = true → c ≠ 0 → Ct Try.prog 19 [fr s t, fr c d] [] (.tup [fr a b, .bool true]) []) := by
  refine ⟨_, _, _, implMul_ok a b c d, specMul_ok a b c d, fun h h0 => ?_⟩
  have h' := h
  simp only [Bool.and_eq_true] at h'
  obtain ⟨⟨h1, h2⟩, h3⟩ := h'
  rw [if_pos h, if_pos h]
  have hs := implDiv_ok (mkN (w64 (a * c)) (w64 (b * d))) (mkD (w64 (a * c)) (w64 (b * d))) c d
  obtain ⟨e1, e2⟩ := prod_back h1 h2 h0 h3
  have hg : goodB (mkN (w64 (a * c)) (w64 (b * d))) (mkD (w64 (a * c)) (w64 (b * d))) = true := h3
  have hok : mkOk (w64 (mkN (w64 (a * c)) (w64 (b * d)) * d)) (w64 (mkD (w64 (a * c)) (w64 (b * d)) * c)) = true := by
    unfold mkOk; rw [e1, e2]; exact h1
  have hd : decide (c ≠ 0) = true := by simpa using h0
  rw [opR_eq, hg, h2, hok, hd, e1, e2] at hs
  exact hs
theorem div_x (a b c d : Int) : ∃ (s t : Int) (ok : Bool), Ct Try.prog 19 [fr a b, fr c d] [] (.tup [fr s t, .bool ok]) [] ∧ Ct Try.prog 18 [fr a b, fr c d] [] (.tup [fr s t, .bool ok]) [] :=
  ⟨_, _, _, implDiv_ok a b c d, specDiv_ok a b c d⟩
theorem cmp_x (a b c d : Int) : ∃ (o : Int) (ok : Bool) (m w : Int) (is : Bool), Ct Try.prog 17 [fr a b, fr c d] [] (.tup [.int .i64 o, .bool ok]) [] ∧ Ct Try.prog 15 [fr a b, fr c d] [] (.tup [.int .i64 o, .bool ok]) [] ∧
    Ct Try.prog 26 [fr a b, fr c d] [] (.tup [fr m w, .bool is]) [] ∧ (is = true → (0 < o → 0 < m) ∧ (o < 0 → m < 0) ∧ (o = 0 → m = 0)) := by
  refine ⟨_, _, _, _, _, implCompare_same a b c d, specCompare_ok a b c d, implSub_ok a b c d, fun h => ?_⟩
  have h' := h
  simp only [Bool.and_eq_true] at h'
  obtain ⟨⟨h1, h2⟩, h3⟩ := h'
  have hg : (goodB a b && goodB c d) = true := by rw [h1, h2]; rfl
  rw [if_pos h, if_pos hg]
  exact diff_sign h1 h2

end Go.Proofs.Ytolfjeedgedblaa
