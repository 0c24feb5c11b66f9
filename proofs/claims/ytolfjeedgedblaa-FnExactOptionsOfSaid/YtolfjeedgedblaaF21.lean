/-
  Short numbers: what lies on the way: the law.
-/
import Derived.Test.YtolfjeedgedblaaF19
import Derived.Test.YtolfjeedgedblaaF20
namespace Go.Proofs.Ytolfjeedgedblaa
open Go K
set_option linter.unusedSimpArgs false
set_option linter.unusedVariables false
set_option maxHeartbeats 1600000

def frU (y : Int) : Fr := (frN y, frD y)
/-- The fractions at the first 'k' letters' beginnings. -/
def rowK (s : ByteArray) (k : Nat) : List Fr := (List.range k).map fun i => frU (atWk s i).x
theorem rowK_len (s : ByteArray) (k : Nat) : (rowK s k).length = k := by simp [rowK]
theorem rowK_succ (s : ByteArray) (k : Nat) : rowK s (k + 1) = rowK s k ++ [frU (atWk s k).x] := by simp [rowK, List.range_succ]
theorem atWk_nums (s : ByteArray) : ∀ k, (atWk s k).nums = (List.range k).map fun i => (atWk s i).x
  | 0 => rfl
  | k + 1 => by
    have e : (atWk s (k + 1)).nums = (atWk s k).nums ++ [(atWk s k).x] := by
      simp only [atWk]; split <;> rfl
    rw [e, List.range_succ, List.map_append, ← atWk_nums s k]
    rfl
theorem wk_nums {n d : Int} (h : shortB n d = true) : (gWk n d).nums = (List.range ((gWk n d).word.size + 1)).map fun i => (atWk (gWk n d).word i).x := by
  have e := congrArg Wk.nums (wk_own h)
  rw [e, List.range_succ, List.map_append, ← atWk_nums]
  rfl
theorem frs_map (l : List Int) : (l.map frU).map frE = l.map fun y => .agg [.int .i64 (frN y), .int .i64 (frD y)] := by simp [frU, frE, Function.comp_def]

def ancL (n d : Int) : List Fr := if shortB n d then rowK (gWk n d).word ((gWk n d).word.size + 1) else []
theorem ancL_len (n d : Int) : (ancL n d).length ≤ 1048576 := by
  have := wk_size n d
  unfold ancL; split
  · rw [rowK_len]; omega
  · simp

theorem implAnc_ok (n d : Int) : ∃ x M, Ct Try.prog 40 [fr n d] [] (.tup [x, .bool (shortB n d)]) M ∧ ∃ S, OwnF M (ancL n d) x S ∧ M.all okSO = true := by
  have hw := wk_size n d
  cases h : shortB n d
  · refine ⟨nilV, ?_⟩
    apply ex1
    · apply Ct.by_ hmix [1000022] Try.func40 rfl
      simp only [run0, run1, run2, run3, run4, run5, run6, run7, run8, run9, run10, run11, run12, run13, run14, run15, run16, run17, run18, run19, run20, run21, run22, reduceCtorEq, Nat.reduceEqDiff, Nat.reduceAdd, Nat.reduceSub, Nat.reduceLeDiff, indexAddrA, indexRefA, appendA, strA, Nat.reduceMul, Nat.zero_mul, Nat.reduceMod, Int.reduceEq, Int.reduceLT, Int.reduceLE, Nat.reduceLT, Nat.lt_irrefl, Nat.reduceBEq, tys0, tys1, tys2, tys3, tys4, tys5, tys6, tys7, tys8, tys9, tys10, tys11, Try.ntmps40, Try.results40, fr]
      refine RunL.callp rfl rfl ok_f61 (wordOf_ok n d) (by first | rfl | simp only [pureL, pureB, Bool.and_self, Bool.and_true, Bool.true_and]) rfl ?_
      simp only [run0, run1, run2, run3, run4, run5, run6, run7, run8, run9, run10, run11, run12, run13, run14, run15, run16, run17, run18, run19, run20, run21, run22, reduceCtorEq, Nat.reduceEqDiff, Nat.reduceAdd, Nat.reduceSub, Nat.reduceLeDiff, indexAddrA, indexRefA, appendA, strA, Nat.reduceMul, Nat.zero_mul, Nat.reduceMod, Int.reduceEq, Int.reduceLT, Int.reduceLE, Nat.reduceLT, Nat.lt_irrefl, Nat.reduceBEq, tys0, tys1, tys2, tys3, tys4, tys5, tys6, tys7, tys8, tys9, tys10, tys11, Try.ntmps40, Try.results40, h]
      exact Fin.keep [] rfl rfl
    · exact ⟨[], .inl ⟨by simp [ancL, h], rfl, rfl⟩, keepS_okSO _ _⟩
  · have hnum := wk_nums h
    have hall : ∀ y ∈ (gWk n d).nums, y.natAbs ≤ 50000000 := by
      rw [hnum]
      intro y hy
      obtain ⟨i, hi, rfl⟩ := List.mem_map.1 hy
      have := List.mem_range.1 hi
      exact atWk_small _ _ (by omega)
    have hlen : (gWk n d).nums.length = (gWk n d).word.size + 1 := by rw [hnum]; simp
    have hanc : ancL n d = (gWk n d).nums.map frU := by rw [hnum]; simp [ancL, h, rowK, Function.comp_def]
    rw [hanc]
    have hwo := wordOf_ok n d
    rw [h] at hwo
    clear hnum hanc
    generalize gWk n d = W at *
    obtain ⟨nums, word, low, high, x0⟩ := W
    simp only at *
    refine ⟨.ref 1 [] nums.length nums.length, ?_⟩
    apply ex1
    · apply Ct.by_ hmix [1000022] Try.func40 rfl
      simp only [run0, run1, run2, run3, run4, run5, run6, run7, run8, run9, run10, run11, run12, run13, run14, run15, run16, run17, run18, run19, run20, run21, run22, reduceCtorEq, Nat.reduceEqDiff, Nat.reduceAdd, Nat.reduceSub, Nat.reduceLeDiff, indexAddrA, indexRefA, appendA, strA, Nat.reduceMul, Nat.zero_mul, Nat.reduceMod, Int.reduceEq, Int.reduceLT, Int.reduceLE, Nat.reduceLT, Nat.lt_irrefl, Nat.reduceBEq, tys0, tys1, tys2, tys3, tys4, tys5, tys6, tys7, tys8, tys9, tys10, tys11, Try.ntmps40, Try.results40, fr]
      refine RunL.callp rfl rfl ok_f61 (hwo) (by first | rfl | simp only [pureL, pureB, Bool.and_self, Bool.and_true, Bool.true_and]) rfl ?_
      simp only [run0, run1, run2, run3, run4, run5, run6, run7, run8, run9, run10, run11, run12, run13, run14, run15, run16, run17, run18, run19, run20, run21, run22, reduceCtorEq, Nat.reduceEqDiff, Nat.reduceAdd, Nat.reduceSub, Nat.reduceLeDiff, indexAddrA, indexRefA, appendA, strA, Nat.reduceMul, Nat.zero_mul, Nat.reduceMod, Int.reduceEq, Int.reduceLT, Int.reduceLE, Nat.reduceLT, Nat.lt_irrefl, Nat.reduceBEq, tys0, tys1, tys2, tys3, tys4, tys5, tys6, tys7, tys8, tys9, tys10, tys11, Try.ntmps40, Try.results40, List.length_nil]
      refine AWp.loop_inv (ι := List Int × List Int) (fun p => ⟨[.agg [.int .i64 n, .int .i64 d], .ptr 0 0, nilV, .bool false, .junk, .junk, .junk, .junk, .junk, .ref 1 [] p.1.length p.1.length, .junk, .junk, .junk, .junk, .junk, .junk, .junk, .junk, .junk, .junk, .junk, .junk, .junk, .sl false (ints nums), .int .i64 nums.length, .int .i64 p.1.length, .junk, .junk, .junk, .junk, .junk, .junk, .junk, .junk, .junk, .junk], [.box 26 [.int .i64 n, .int .i64 d], .vec 26 2 p.1.length ((p.1.map frU).map frE)]⟩)
        (fun p => nums = p.1 ++ p.2) (fun p => p.2.length) ([], nums) rfl ⟨by simp only [List.length_nil, Int.natCast_zero]; repeat constructor, rfl⟩ ?_
      rintro ⟨q, r⟩ ha
      refine W.sound hmix (E := [1000022]) ?_
      simp only at ha
      have hda : q.length + r.length = nums.length := by rw [ha, List.length_append]
      cases r with
      | nil =>
        have e1 : ¬ ((q.length : Int) < (nums.length : Int)) := by simp at hda; omega
        rw [List.append_nil] at ha
        subst ha
        simp only [run0, run1, run2, run3, run4, run5, run6, run7, run8, run9, run10, run11, run12, run13, run14, run15, run16, run17, run18, run19, run20, run21, run22, reduceCtorEq, Nat.reduceEqDiff, Nat.reduceAdd, Nat.reduceSub, Nat.reduceLeDiff, indexAddrA, indexRefA, appendA, strA, Nat.reduceMul, Nat.zero_mul, Nat.reduceMod, Int.reduceEq, Int.reduceLT, Int.reduceLE, Nat.reduceLT, Nat.lt_irrefl, Nat.reduceBEq, tys0, tys1, tys2, tys3, tys4, tys5, tys6, tys7, tys8, tys9, tys10, tys11, Try.ntmps40, Try.results40, e1]
        exact Fin.keep [1] rfl rfl
      | cons y r =>
        simp only [List.length_cons] at hda
        have e1 : (q.length : Int) < (nums.length : Int) := by omega
        have e2 : (ints nums)[q.length]? = some (.int .i64 y) := by rw [ha]; simp
        have e5 : IntKind.i64.wrap ((q.length : Int) + 1) = ((q ++ [y]).length : Int) := by
          have := w64_id (x := (q.length : Int) + 1) (by omega) (by omega)
          simp only [w64] at this
          rw [this]; simp
        have f3 : q.length + 1 ≤ 137438953472 := by omega
        have f4 := frs_noOwn (q.map frU)
        have f5 : ((q.map frU).map frE).length = q.length := by simp
        simp only [run0, run1, run2, run3, run4, run5, run6, run7, run8, run9, run10, run11, run12, run13, run14, run15, run16, run17, run18, run19, run20, run21, run22, reduceCtorEq, Nat.reduceEqDiff, Nat.reduceAdd, Nat.reduceSub, Nat.reduceLeDiff, indexAddrA, indexRefA, appendA, strA, Nat.reduceMul, Nat.zero_mul, Nat.reduceMod, Int.reduceEq, Int.reduceLT, Int.reduceLE, Nat.reduceLT, Nat.lt_irrefl, Nat.reduceBEq, tys0, tys1, tys2, tys3, tys4, tys5, tys6, tys7, tys8, tys9, tys10, tys11, Try.ntmps40, Try.results40, e1, e2, Int.toNat_natCast, Int.natCast_nonneg]
        refine RunL.callp rfl rfl ok_f68 (fromUnits_ok y (hall y (by rw [ha]; simp))) (by first | rfl | simp only [pureL, pureB, Bool.and_self, Bool.and_true, Bool.true_and]) rfl ?_
        simp only [run0, run1, run2, run3, run4, run5, run6, run7, run8, run9, run10, run11, run12, run13, run14, run15, run16, run17, run18, run19, run20, run21, run22, reduceCtorEq, Nat.reduceEqDiff, Nat.reduceAdd, Nat.reduceSub, Nat.reduceLeDiff, indexAddrA, indexRefA, appendA, strA, Nat.reduceMul, Nat.zero_mul, Nat.reduceMod, Int.reduceEq, Int.reduceLT, Int.reduceLE, Nat.reduceLT, Nat.lt_irrefl, Nat.reduceBEq, tys0, tys1, tys2, tys3, tys4, tys5, tys6, tys7, tys8, tys9, tys10, tys11, Try.ntmps40, Try.results40, fr, f3, f4, f5, e5]
        exact ⟨(q ++ [y], r), by simp [ha], by simp, by simp only [List.length_append, List.length_cons, List.length_nil]; repeat constructor, by simp [frE, frU]⟩
    · refine ⟨[1], OwnF.keep (.inr ⟨1, nums.length, by simp, rfl, rfl⟩) (fun _ h => h), keepS_okSO _ _⟩

theorem shAncestors_ok (s : ByteArray) (hs : s.size ≤ 20) (hm : ∀ k, k ≤ s.size → mkOk (atWk s k).x 1048576 = true) : Ct Try.prog 67 [.str s] [] (.sl false ((rowK s (s.size + 1)).map frE)) [] := by
  refine Ct.by_ hmix [] Try.func67 rfl ?_
  simp only [run0, run1, run2, run3, run4, run5, run6, run7, run8, run9, run10, run11, run12, run13, run14, run15, run16, run17, run18, run19, run20, run21, run22, reduceCtorEq, Nat.reduceEqDiff, Nat.reduceAdd, Nat.reduceSub, Nat.reduceLeDiff, indexAddrA, indexRefA, appendA, strA, Nat.reduceMul, Nat.zero_mul, Nat.reduceMod, Int.reduceEq, Int.reduceLT, Int.reduceLE, Nat.reduceLT, Nat.lt_irrefl, Nat.reduceBEq, tys0, tys1, tys2, tys3, tys4, tys5, tys6, tys7, tys8, tys9, tys10, tys11, Try.ntmps67, Try.results67]
  refine AWp.nil 3 26 2 rfl ?_
  refine AWp.loop_inv (ι := Nat) (fun k => ⟨[.str s, .junk, nilV, .ref 0 [] k k, .int .i64 k, .junk, .junk, .junk, .junk, .junk, .junk, .junk, .junk, .junk, .junk, .junk, .junk, .junk, .junk], [.vec 26 2 k ((rowK s k).map frE)]⟩)
    (fun k => k ≤ s.size + 1) (fun k => s.size + 1 - k) 0 (Nat.zero_le _) ⟨by simp only [Int.natCast_zero]; repeat constructor, rfl⟩ ?_
  rintro k hk
  refine W.sound hmix (E := []) ?_
  by_cases hk2 : k ≤ s.size
  · have e1 : (k : Int) ≤ (s.size : Int) := by omega
    have e5 : IntKind.i64.wrap ((k : Int) + 1) = ((k + 1 : Nat) : Int) := by
      have := w64_id (x := (k : Int) + 1) (by omega) (by omega)
      simp only [w64] at this
      rw [this]; simp
    have f3 : k + 1 ≤ 137438953472 := by omega
    have f4 := frs_noOwn (rowK s k)
    have f5 : ((rowK s k).map frE).length = k := by simp [rowK_len]
    simp only [run0, run1, run2, run3, run4, run5, run6, run7, run8, run9, run10, run11, run12, run13, run14, run15, run16, run17, run18, run19, run20, run21, run22, reduceCtorEq, Nat.reduceEqDiff, Nat.reduceAdd, Nat.reduceSub, Nat.reduceLeDiff, indexAddrA, indexRefA, appendA, strA, Nat.reduceMul, Nat.zero_mul, Nat.reduceMod, Int.reduceEq, Int.reduceLT, Int.reduceLE, Nat.reduceLT, Nat.lt_irrefl, Nat.reduceBEq, tys0, tys1, tys2, tys3, tys4, tys5, tys6, tys7, tys8, tys9, tys10, tys11, Try.ntmps67, Try.results67, e1, Int.natCast_nonneg, Int.toNat_natCast, Int.le_refl, Int.toNat_zero, true_and, Int.natCast_zero]
    refine RunL.callp rfl rfl ok_f62 (specPre_ok s k hs hk2 (hm k hk2)) (by first | rfl | simp only [pureL, pureB, Bool.and_self, Bool.and_true, Bool.true_and]) rfl ?_
    simp only [run0, run1, run2, run3, run4, run5, run6, run7, run8, run9, run10, run11, run12, run13, run14, run15, run16, run17, run18, run19, run20, run21, run22, reduceCtorEq, Nat.reduceEqDiff, Nat.reduceAdd, Nat.reduceSub, Nat.reduceLeDiff, indexAddrA, indexRefA, appendA, strA, Nat.reduceMul, Nat.zero_mul, Nat.reduceMod, Int.reduceEq, Int.reduceLT, Int.reduceLE, Nat.reduceLT, Nat.lt_irrefl, Nat.reduceBEq, tys0, tys1, tys2, tys3, tys4, tys5, tys6, tys7, tys8, tys9, tys10, tys11, Try.ntmps67, Try.results67, fr, f3, f4, f5, e5]
    exact ⟨k + 1, by omega, by omega, by repeat constructor, by simp [rowK_succ, frE, frU]⟩
  · have e1 : ¬ (k : Int) ≤ (s.size : Int) := by omega
    obtain rfl : k = s.size + 1 := by omega
    simp only [run0, run1, run2, run3, run4, run5, run6, run7, run8, run9, run10, run11, run12, run13, run14, run15, run16, run17, run18, run19, run20, run21, run22, reduceCtorEq, Nat.reduceEqDiff, Nat.reduceAdd, Nat.reduceSub, Nat.reduceLeDiff, indexAddrA, indexRefA, appendA, strA, Nat.reduceMul, Nat.zero_mul, Nat.reduceMod, Int.reduceEq, Int.reduceLT, Int.reduceLE, Nat.reduceLT, Nat.lt_irrefl, Nat.reduceBEq, tys0, tys1, tys2, tys3, tys4, tys5, tys6, tys7, tys8, tys9, tys10, tys11, Try.ntmps67, Try.results67, e1]
    refine Fin.value ?_
    have : OwnF [.vec 26 2 (s.size + 1) ((rowK s (s.size + 1)).map frE)] (rowK s (s.size + 1)) (.ref 0 [] (s.size + 1) (s.size + 1)) [0] := .inr ⟨0, s.size + 1, by rw [rowK_len], rfl, rfl⟩
    exact this.view
theorem specAnc_ok (n d : Int) : Ct Try.prog 39 [fr n d] [] (.tup [.sl false ((ancL n d).map frE), .bool (shortB n d)]) [] := by
  have hw := wk_size n d
  refine Ct.by_ hmix [] Try.func39 rfl ?_
  simp only [run0, run1, run2, run3, run4, run5, run6, run7, run8, run9, run10, run11, run12, run13, run14, run15, run16, run17, run18, run19, run20, run21, run22, reduceCtorEq, Nat.reduceEqDiff, Nat.reduceAdd, Nat.reduceSub, Nat.reduceLeDiff, indexAddrA, indexRefA, appendA, strA, Nat.reduceMul, Nat.zero_mul, Nat.reduceMod, Int.reduceEq, Int.reduceLT, Int.reduceLE, Nat.reduceLT, Nat.lt_irrefl, Nat.reduceBEq, tys0, tys1, tys2, tys3, tys4, tys5, tys6, tys7, tys8, tys9, tys10, tys11, Try.ntmps39, Try.results39, fr]
  refine RunL.callp rfl rfl ok_f29 (specWordS_ok _ _) (by first | rfl | simp only [pureL, pureB, Bool.and_self, Bool.and_true, Bool.true_and]) rfl ?_
  cases h : shortB n d
  · rw [show ancL n d = [] by simp [ancL, h]]
    simp only [run0, run1, run2, run3, run4, run5, run6, run7, run8, run9, run10, run11, run12, run13, run14, run15, run16, run17, run18, run19, run20, run21, run22, reduceCtorEq, Nat.reduceEqDiff, Nat.reduceAdd, Nat.reduceSub, Nat.reduceLeDiff, indexAddrA, indexRefA, appendA, strA, Nat.reduceMul, Nat.zero_mul, Nat.reduceMod, Int.reduceEq, Int.reduceLT, Int.reduceLE, Nat.reduceLT, Nat.lt_irrefl, Nat.reduceBEq, tys0, tys1, tys2, tys3, tys4, tys5, tys6, tys7, tys8, tys9, tys10, tys11, Try.ntmps39, Try.results39, h]
    exact Fin.value (Vw.tup (.cons (Vw.nil false) (.cons (Vw.pur (Pur.bool _)) .nil)))
  · have hs : wordS n d = (gWk n d).word := by simp [wordS, h]
    rw [show ancL n d = rowK (gWk n d).word ((gWk n d).word.size + 1) by simp [ancL, h], hs]
    have hc := shAncestors_ok (gWk n d).word hw (fun k hk => wk_ok h k hk)
    have hp := frs_pure (rowK (gWk n d).word ((gWk n d).word.size + 1))
    simp only [run0, run1, run2, run3, run4, run5, run6, run7, run8, run9, run10, run11, run12, run13, run14, run15, run16, run17, run18, run19, run20, run21, run22, reduceCtorEq, Nat.reduceEqDiff, Nat.reduceAdd, Nat.reduceSub, Nat.reduceLeDiff, indexAddrA, indexRefA, appendA, strA, Nat.reduceMul, Nat.zero_mul, Nat.reduceMod, Int.reduceEq, Int.reduceLT, Int.reduceLE, Nat.reduceLT, Nat.lt_irrefl, Nat.reduceBEq, tys0, tys1, tys2, tys3, tys4, tys5, tys6, tys7, tys8, tys9, tys10, tys11, Try.ntmps39, Try.results39, h]
    refine RunL.callp rfl rfl ok_f67 (hc) (by first | rfl | simp only [pureL, pureB, Bool.and_self, Bool.and_true, Bool.true_and]) rfl ?_
    simp only [run0, run1, run2, run3, run4, run5, run6, run7, run8, run9, run10, run11, run12, run13, run14, run15, run16, run17, run18, run19, run20, run21, run22, reduceCtorEq, Nat.reduceEqDiff, Nat.reduceAdd, Nat.reduceSub, Nat.reduceLeDiff, indexAddrA, indexRefA, appendA, strA, Nat.reduceMul, Nat.zero_mul, Nat.reduceMod, Int.reduceEq, Int.reduceLT, Int.reduceLE, Nat.reduceLT, Nat.lt_irrefl, Nat.reduceBEq, tys0, tys1, tys2, tys3, tys4, tys5, tys6, tys7, tys8, tys9, tys10, tys11, Try.ntmps39, Try.results39]
    exact Fin.eq rfl (by simp only [pureB, pureL, hp, Bool.and_self])

theorem okS_resL {x : AV} {b : Bool} (h : okT x = true) : okS (.tup [x, .bool b]) = true := by
  have := okT_okS h
  simp [okS, okSL, this]
theorem FnExactAncestorsOf_ok {a0 : AV} (h0 : IsOf Try.prog 23 a0) : Ct Try.prog 13 [a0] [] (.bool true) [] := by
  obtain ⟨n, d, rfl, _, _⟩ := laws_isFr h0
  have hsp := specAnc_ok n d
  obtain ⟨g, M1, hi, S1, ho1, hM1⟩ := implAnc_ok n d
  have hlen := ancL_len n d
  have hp := frs_pure (ancL n d)
  generalize ancL n d = R at *
  generalize shortB n d = ok at *
  simp only [fr] at hsp hi
  generalize hM1' : M1.map (shO 1) = N1 at *
  have og : OwnF (.box 23 [.int .i64 n, .int .i64 d] :: N1) R (shA 1 g) (S1.map (· + 1)) :=
    OwnF.sh (fun id => by simp [← hM1']) ho1
  generalize hG : shA 1 g = G0 at *
  generalize hS1 : S1.map (· + 1) = T1 at *
  obtain ⟨L2, hc2, og2, hf2, hl2⟩ := markFractionS_ok R G0 T1 (.box 23 [.int .i64 n, .int .i64 d] :: N1) 1 og hlen (by omega) (by omega)
  have p0 : L2[0]? = some (.box 23 [.int .i64 n, .int .i64 d]) := by rw [hf2 0 (og.nobox (T := 23) rfl)]; rfl
  have oh : OwnF (L2 ++ M1.map (shO L2.length)) R (shA L2.length g) (S1.map (· + L2.length)) := OwnF.sh (fun id => by
    rw [List.getElem?_append_right (by omega), List.getElem?_map]; congr 2; omega) ho1
  have e4 : ¬ (1 + 2 * (R.length : Int) < 0) := by omega
  have hfr : ∀ x : Int × Int, True := fun _ => trivial
  refine Ct.by_ hmix [] Try.func13 rfl ?_
  simp only [run0, run1, run2, run3, run4, run5, run6, run7, run8, run9, run10, run11, run12, run13, run14, run15, run16, run17, run18, run19, run20, run21, run22, reduceCtorEq, Nat.reduceEqDiff, Nat.reduceAdd, Nat.reduceSub, Nat.reduceLeDiff, indexAddrA, indexRefA, appendA, strA, Nat.reduceMul, Nat.zero_mul, Nat.reduceMod, Int.reduceEq, Int.reduceLT, Int.reduceLE, Nat.reduceLT, Nat.lt_irrefl, Nat.reduceBEq, tys0, tys1, tys2, tys3, tys4, tys5, tys6, tys7, tys8, tys9, tys10, tys11, Try.ntmps13, Try.results13, fr]
  refine RunL.callp rfl rfl ok_f16 (toFraction_ok _ _) (by first | rfl | simp only [pureL, pureB, Bool.and_self, Bool.and_true, Bool.true_and]) rfl ?_
  simp only [run0, run1, run2, run3, run4, run5, run6, run7, run8, run9, run10, run11, run12, run13, run14, run15, run16, run17, run18, run19, run20, run21, run22, reduceCtorEq, Nat.reduceEqDiff, Nat.reduceAdd, Nat.reduceSub, Nat.reduceLeDiff, indexAddrA, indexRefA, appendA, strA, Nat.reduceMul, Nat.zero_mul, Nat.reduceMod, Int.reduceEq, Int.reduceLT, Int.reduceLE, Nat.reduceLT, Nat.lt_irrefl, Nat.reduceBEq, tys0, tys1, tys2, tys3, tys4, tys5, tys6, tys7, tys8, tys9, tys10, tys11, Try.ntmps13, Try.results13, fr]
  refine RunL.callp rfl rfl ok_f39 hsp (by rfl) rfl ?_
  simp only [run0, run1, run2, run3, run4, run5, run6, run7, run8, run9, run10, run11, run12, run13, run14, run15, run16, run17, run18, run19, run20, run21, run22, reduceCtorEq, Nat.reduceEqDiff, Nat.reduceAdd, Nat.reduceSub, Nat.reduceLeDiff, indexAddrA, indexRefA, appendA, strA, Nat.reduceMul, Nat.zero_mul, Nat.reduceMod, Int.reduceEq, Int.reduceLT, Int.reduceLE, Nat.reduceLT, Nat.lt_irrefl, Nat.reduceBEq, tys0, tys1, tys2, tys3, tys4, tys5, tys6, tys7, tys8, tys9, tys10, tys11, Try.ntmps13, Try.results13, fr]
  refine RunL.callp rfl rfl ok_f16 (toFraction_ok _ _) (by first | rfl | simp only [pureL, pureB, Bool.and_self, Bool.and_true, Bool.true_and]) rfl ?_
  simp only [run0, run1, run2, run3, run4, run5, run6, run7, run8, run9, run10, run11, run12, run13, run14, run15, run16, run17, run18, run19, run20, run21, run22, reduceCtorEq, Nat.reduceEqDiff, Nat.reduceAdd, Nat.reduceSub, Nat.reduceLeDiff, indexAddrA, indexRefA, appendA, strA, Nat.reduceMul, Nat.zero_mul, Nat.reduceMod, Int.reduceEq, Int.reduceLT, Int.reduceLE, Nat.reduceLT, Nat.lt_irrefl, Nat.reduceBEq, tys0, tys1, tys2, tys3, tys4, tys5, tys6, tys7, tys8, tys9, tys10, tys11, Try.ntmps13, Try.results13, fr]
  refine RunL.callgp rfl rfl ok_f40 rfl hi (by rfl) rfl ?_
  simp only [run0, run1, run2, run3, run4, run5, run6, run7, run8, run9, run10, run11, run12, run13, run14, run15, run16, run17, run18, run19, run20, run21, run22, reduceCtorEq, Nat.reduceEqDiff, Nat.reduceAdd, Nat.reduceSub, Nat.reduceLeDiff, indexAddrA, indexRefA, appendA, strA, Nat.reduceMul, Nat.zero_mul, Nat.reduceMod, Int.reduceEq, Int.reduceLT, Int.reduceLE, Nat.reduceLT, Nat.lt_irrefl, Nat.reduceBEq, tys0, tys1, tys2, tys3, tys4, tys5, tys6, tys7, tys8, tys9, tys10, tys11, Try.ntmps13, Try.results13, shA, shL, hM1', hG]
  refine RunL.lendV rfl rfl ok_f41 rfl (eqFractionS_ok R hlen) (.cons og.view (.cons (.pur (.of (by simp only [pureB, hp]))) .nil)) rfl rfl ?_
  simp only [run0, run1, run2, run3, run4, run5, run6, run7, run8, run9, run10, run11, run12, run13, run14, run15, run16, run17, run18, run19, run20, run21, run22, reduceCtorEq, Nat.reduceEqDiff, Nat.reduceAdd, Nat.reduceSub, Nat.reduceLeDiff, indexAddrA, indexRefA, appendA, strA, Nat.reduceMul, Nat.zero_mul, Nat.reduceMod, Int.reduceEq, Int.reduceLT, Int.reduceLE, Nat.reduceLT, Nat.lt_irrefl, Nat.reduceBEq, tys0, tys1, tys2, tys3, tys4, tys5, tys6, tys7, tys8, tys9, tys10, tys11, Try.ntmps13, Try.results13, bne_self_eq_false]
  refine RunL.callM rfl rfl ok_f42 rfl rfl hc2 rfl ?_
  simp only [run0, run1, run2, run3, run4, run5, run6, run7, run8, run9, run10, run11, run12, run13, run14, run15, run16, run17, run18, run19, run20, run21, run22, reduceCtorEq, Nat.reduceEqDiff, Nat.reduceAdd, Nat.reduceSub, Nat.reduceLeDiff, indexAddrA, indexRefA, appendA, strA, Nat.reduceMul, Nat.zero_mul, Nat.reduceMod, Int.reduceEq, Int.reduceLT, Int.reduceLE, Nat.reduceLT, Nat.lt_irrefl, Nat.reduceBEq, tys0, tys1, tys2, tys3, tys4, tys5, tys6, tys7, tys8, tys9, tys10, tys11, Try.ntmps13, Try.results13, p0]
  refine RunL.lendV rfl rfl ok_f43 rfl (heldFractionS_ok R 1 hlen (by omega) (by omega)) (.cons og2.view (.cons (.pur (.int _ _)) .nil)) rfl rfl ?_
  simp only [run0, run1, run2, run3, run4, run5, run6, run7, run8, run9, run10, run11, run12, run13, run14, run15, run16, run17, run18, run19, run20, run21, run22, reduceCtorEq, Nat.reduceEqDiff, Nat.reduceAdd, Nat.reduceSub, Nat.reduceLeDiff, indexAddrA, indexRefA, appendA, strA, Nat.reduceMul, Nat.zero_mul, Nat.reduceMod, Int.reduceEq, Int.reduceLT, Int.reduceLE, Nat.reduceLT, Nat.lt_irrefl, Nat.reduceBEq, tys0, tys1, tys2, tys3, tys4, tys5, tys6, tys7, tys8, tys9, tys10, tys11, Try.ntmps13, Try.results13, e4, p0, bne_self_eq_false]
  refine RunL.callp rfl rfl ok_f16 (toFraction_ok _ _) (by first | rfl | simp only [pureL, pureB, Bool.and_self, Bool.and_true, Bool.true_and]) rfl ?_
  simp only [run0, run1, run2, run3, run4, run5, run6, run7, run8, run9, run10, run11, run12, run13, run14, run15, run16, run17, run18, run19, run20, run21, run22, reduceCtorEq, Nat.reduceEqDiff, Nat.reduceAdd, Nat.reduceSub, Nat.reduceLeDiff, indexAddrA, indexRefA, appendA, strA, Nat.reduceMul, Nat.zero_mul, Nat.reduceMod, Int.reduceEq, Int.reduceLT, Int.reduceLE, Nat.reduceLT, Nat.lt_irrefl, Nat.reduceBEq, tys0, tys1, tys2, tys3, tys4, tys5, tys6, tys7, tys8, tys9, tys10, tys11, Try.ntmps13, Try.results13, fr]
  refine RunL.callgp rfl rfl ok_f40 rfl hi (by rfl) rfl ?_
  simp only [run0, run1, run2, run3, run4, run5, run6, run7, run8, run9, run10, run11, run12, run13, run14, run15, run16, run17, run18, run19, run20, run21, run22, reduceCtorEq, Nat.reduceEqDiff, Nat.reduceAdd, Nat.reduceSub, Nat.reduceLeDiff, indexAddrA, indexRefA, appendA, strA, Nat.reduceMul, Nat.zero_mul, Nat.reduceMod, Int.reduceEq, Int.reduceLT, Int.reduceLE, Nat.reduceLT, Nat.lt_irrefl, Nat.reduceBEq, tys0, tys1, tys2, tys3, tys4, tys5, tys6, tys7, tys8, tys9, tys10, tys11, Try.ntmps13, Try.results13, shA, shL]
  refine RunL.lendV rfl rfl ok_f41 rfl (eqFractionS_ok R hlen) (.cons oh.view (.cons (.pur (.of (by simp only [pureB, hp]))) .nil)) rfl rfl ?_
  simp only [run0, run1, run2, run3, run4, run5, run6, run7, run8, run9, run10, run11, run12, run13, run14, run15, run16, run17, run18, run19, run20, run21, run22, reduceCtorEq, Nat.reduceEqDiff, Nat.reduceAdd, Nat.reduceSub, Nat.reduceLeDiff, indexAddrA, indexRefA, appendA, strA, Nat.reduceMul, Nat.zero_mul, Nat.reduceMod, Int.reduceEq, Int.reduceLT, Int.reduceLE, Nat.reduceLT, Nat.lt_irrefl, Nat.reduceBEq, tys0, tys1, tys2, tys3, tys4, tys5, tys6, tys7, tys8, tys9, tys10, tys11, Try.ntmps13, Try.results13, bne_self_eq_false]
  refine RunL.lendV rfl rfl ok_f43 rfl (heldFractionS_ok R 1 hlen (by omega) (by omega)) (.cons (og2.more _).view (.cons (.pur (.int _ _)) .nil)) rfl rfl ?_
  simp only [run0, run1, run2, run3, run4, run5, run6, run7, run8, run9, run10, run11, run12, run13, run14, run15, run16, run17, run18, run19, run20, run21, run22, reduceCtorEq, Nat.reduceEqDiff, Nat.reduceAdd, Nat.reduceSub, Nat.reduceLeDiff, indexAddrA, indexRefA, appendA, strA, Nat.reduceMul, Nat.zero_mul, Nat.reduceMod, Int.reduceEq, Int.reduceLT, Int.reduceLE, Nat.reduceLT, Nat.lt_irrefl, Nat.reduceBEq, tys0, tys1, tys2, tys3, tys4, tys5, tys6, tys7, tys8, tys9, tys10, tys11, Try.ntmps13, Try.results13, e4, bne_self_eq_false]
  exact Fin.eq rfl rfl

end Go.Proofs.Ytolfjeedgedblaa
