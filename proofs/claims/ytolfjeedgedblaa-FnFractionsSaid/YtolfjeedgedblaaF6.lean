/-
  Short numbers: the walk of the program along a word.
-/
import Derived.Test.YtolfjeedgedblaaF5
namespace Go.Proofs.Ytolfjeedgedblaa
open Go K
set_option linter.unusedSimpArgs false
set_option linter.unusedVariables false
set_option maxHeartbeats 400000

abbrev ints (l : List Int) : List AV := l.map (AV.int .i64)
theorem ints_length (l : List Int) : (ints l).length = l.length := by simp
theorem ints_snoc (l : List Int) (x : Int) : ints l ++ [AV.int .i64 x] = ints (l ++ [x]) := by simp
theorem ints_noOwn (l : List Int) : noOwn (ints l) = true := by simp [noOwn, ints, AV.cells]

/-- The number to which a letter leads. -/
def betw (x side : Int) (low high : List Int) : Int :=
  let other := if side > 0 then high else low
  match other.getLast? with
  | none => w64 (x + w64 (side * 1048576))
  | some y => w64 ((w64 (x + y)).tdiv 2)

theorem betw_nil (x side : Int) : w64 (x + w64 (side * 1048576)) = betw x side [] [] := by simp [betw]
theorem last_wrap {l : List Int} (h : l.length ≤ 1000) : IntKind.i64.wrap (((l.length + 1 : Nat) : Int) - 1) = (l.length : Int) := by
  have := w64_id (x := ((l.length + 1 : Nat) : Int) - 1) (by omega) (by omega)
  simp only [w64] at this
  rw [this]; omega
theorem ints_at (l : List Int) (y : Int) : (ints (l ++ [y]))[l.length]? = some (.int .i64 y) := by simp
theorem betw_up {x side : Int} {low high : List Int} (h : 0 < side) : betw x side low high = (match high.getLast? with | none => w64 (x + w64 (side * 1048576)) | some y => w64 ((w64 (x + y)).tdiv 2)) := by simp [betw, h]
theorem betw_dn {x side : Int} {low high : List Int} (h : ¬ 0 < side) : betw x side low high = (match low.getLast? with | none => w64 (x + w64 (side * 1048576)) | some y => w64 ((w64 (x + y)).tdiv 2)) := by
  unfold betw; simp [h]

theorem nat0 : (((0 : Nat) : Int) == 0) = true := rfl
theorem nat1 (n : Nat) : (((n + 1 : Nat) : Int) == 0) = false := by simp; omega

theorem between_ok (x side : Int) (low high : List Int) (hl : low.length ≤ 1000) (hh : high.length ≤ 1000) : Ct Try.prog 88 [.int .i64 x, .int .i64 side, .sl false (ints low), .sl false (ints high)] [] (.int .i64 (betw x side low high)) [] := by
  refine Ct.by_ hmix [] Try.func88 rfl ?_
  simp only [run0, run1, run2, run3, run4, run5, run6, run7, run8, run9, run10, run11, run12, run13, run14, run15, run16, run17, run18, run19, run20, run21, run22, reduceCtorEq, Nat.reduceEqDiff, Nat.reduceAdd, Nat.reduceSub, Nat.reduceLeDiff, indexAddrA, indexRefA, appendA, strA, Nat.reduceMul, Nat.zero_mul, Nat.reduceMod, Int.reduceEq, Int.reduceLT, Int.reduceLE, Nat.reduceLT, Nat.lt_irrefl, Nat.reduceBEq, tys0, tys1, tys2, tys3, tys4, tys5, tys6, tys7, tys8, tys9, tys10, tys11, Try.ntmps88, Try.results88]
  by_cases hs : 0 < side
  · rw [betw_up hs]
    rcases List.eq_nil_or_concat high with rfl | ⟨l, y, rfl⟩
    · simp only [run0, run1, run2, run3, run4, run5, run6, run7, run8, run9, run10, run11, run12, run13, run14, run15, run16, run17, run18, run19, run20, run21, run22, reduceCtorEq, Nat.reduceEqDiff, Nat.reduceAdd, Nat.reduceSub, Nat.reduceLeDiff, indexAddrA, indexRefA, appendA, strA, Nat.reduceMul, Nat.zero_mul, Nat.reduceMod, Int.reduceEq, Int.reduceLT, Int.reduceLE, Nat.reduceLT, Nat.lt_irrefl, Nat.reduceBEq, tys0, tys1, tys2, tys3, tys4, tys5, tys6, tys7, tys8, tys9, tys10, tys11, Try.ntmps88, Try.results88, hs, nat0]
      exact Fin.eq (by simp) rfl
    · rw [List.concat_eq_append] at *
      have h1 : l.length ≤ 1000 := by simp at hh; omega
      have h2 := last_wrap h1
      have h3 := nat1 l.length
      simp only [run0, run1, run2, run3, run4, run5, run6, run7, run8, run9, run10, run11, run12, run13, run14, run15, run16, run17, run18, run19, run20, run21, run22, reduceCtorEq, Nat.reduceEqDiff, Nat.reduceAdd, Nat.reduceSub, Nat.reduceLeDiff, indexAddrA, indexRefA, appendA, strA, Nat.reduceMul, Nat.zero_mul, Nat.reduceMod, Int.reduceEq, Int.reduceLT, Int.reduceLE, Nat.reduceLT, Nat.lt_irrefl, Nat.reduceBEq, tys0, tys1, tys2, tys3, tys4, tys5, tys6, tys7, tys8, tys9, tys10, tys11, Try.ntmps88, Try.results88, hs, h2, h3, Int.natCast_nonneg, Int.toNat_natCast, ints_at]
      exact Fin.eq (by simp) rfl
  · rw [betw_dn hs]
    rcases List.eq_nil_or_concat low with rfl | ⟨l, y, rfl⟩
    · simp only [run0, run1, run2, run3, run4, run5, run6, run7, run8, run9, run10, run11, run12, run13, run14, run15, run16, run17, run18, run19, run20, run21, run22, reduceCtorEq, Nat.reduceEqDiff, Nat.reduceAdd, Nat.reduceSub, Nat.reduceLeDiff, indexAddrA, indexRefA, appendA, strA, Nat.reduceMul, Nat.zero_mul, Nat.reduceMod, Int.reduceEq, Int.reduceLT, Int.reduceLE, Nat.reduceLT, Nat.lt_irrefl, Nat.reduceBEq, tys0, tys1, tys2, tys3, tys4, tys5, tys6, tys7, tys8, tys9, tys10, tys11, Try.ntmps88, Try.results88, hs, nat0]
      exact Fin.eq (by simp) rfl
    · rw [List.concat_eq_append] at *
      have h1 : l.length ≤ 1000 := by simp at hl; omega
      have h2 := last_wrap h1
      have h3 := nat1 l.length
      simp only [run0, run1, run2, run3, run4, run5, run6, run7, run8, run9, run10, run11, run12, run13, run14, run15, run16, run17, run18, run19, run20, run21, run22, reduceCtorEq, Nat.reduceEqDiff, Nat.reduceAdd, Nat.reduceSub, Nat.reduceLeDiff, indexAddrA, indexRefA, appendA, strA, Nat.reduceMul, Nat.zero_mul, Nat.reduceMod, Int.reduceEq, Int.reduceLT, Int.reduceLE, Nat.reduceLT, Nat.lt_irrefl, Nat.reduceBEq, tys0, tys1, tys2, tys3, tys4, tys5, tys6, tys7, tys8, tys9, tys10, tys11, Try.ntmps88, Try.results88, hs, h2, h3, Int.natCast_nonneg, Int.toNat_natCast, ints_at]
      exact Fin.eq (by simp) rfl

end Go.Proofs.Ytolfjeedgedblaa
