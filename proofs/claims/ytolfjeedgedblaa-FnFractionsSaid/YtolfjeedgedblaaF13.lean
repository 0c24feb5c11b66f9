/-
  Short numbers: the number to which a word leads.
-/
import Derived.Test.YtolfjeedgedblaaF12
namespace Go.Proofs.Ytolfjeedgedblaa
open Go K
set_option linter.unusedSimpArgs false
set_option linter.unusedVariables false
set_option maxHeartbeats 400000

theorem index_str {s : ByteArray} {k : Nat} (h : k < s.size) : indexA Try.prog 9 (.str s) (.int .i64 k) = some (.int .u8 (s.data.getD k 0).toNat) := by
  have h2 : s[k]? = some (s[k]'h) := getElem?_pos s k h
  have h3 : s[k]'h = s.data.getD k 0 := by
    show s.data[k]'h = _
    have h' : k < s.data.size := h
    rw [Array.getD, dif_pos h']; rfl
  simp only [indexA, Try.underlying9, Int.natCast_nonneg, if_true, Int.toNat_natCast, h2, Option.map_some, h3]

/-- Where a word tells to go, at its letter 'k'. -/
def ofF (s : ByteArray) (k : Nat) : Int := if k = s.size then 0 else if s.data.getD k 0 = 43 then 1 else -1
def ofK (s : ByteArray) (k : Nat) : Nat := if k = s.size then k else k + 1
theorem closOf_ok (s : ByteArray) (k : Nat) (x : Int) (Y : List AObj) (hk : k ≤ s.size) (hs : s.size ≤ 1000) :
    Ct Try.prog 89 [.int .i64 x, .ptr 1 0, .ptr 0 0] (.box 9 [.str s] :: .box 3 [.int .i64 k] :: Y) (.int .i64 (ofF s k)) (.box 9 [.str s] :: .box 3 [.int .i64 (ofK s k)] :: Y) := by
  refine Ct.by_ hmix [] Try.func89 rfl ?_
  simp only [run0, run1, run2, run3, run4, run5, run6, run7, run8, run9, run10, run11, run12, run13, run14, run15, run16, run17, run18, run19, run20, run21, run22, reduceCtorEq, Nat.reduceEqDiff, Nat.reduceAdd, Nat.reduceSub, Nat.reduceLeDiff, indexAddrA, indexRefA, appendA, strA, Nat.reduceMul, Nat.zero_mul, Nat.reduceMod, Int.reduceEq, Int.reduceLT, Int.reduceLE, Nat.reduceLT, Nat.lt_irrefl, Nat.reduceBEq, tys0, tys1, tys2, tys3, tys4, tys5, tys6, tys7, tys8, tys9, tys10, tys11, Try.ntmps89, Try.results89]
  by_cases h : k = s.size
  · have e0 : ((k : Int) == (s.size : Int)) = true := by simp [h]
    simp only [run0, run1, run2, run3, run4, run5, run6, run7, run8, run9, run10, run11, run12, run13, run14, run15, run16, run17, run18, run19, run20, run21, run22, reduceCtorEq, Nat.reduceEqDiff, Nat.reduceAdd, Nat.reduceSub, Nat.reduceLeDiff, indexAddrA, indexRefA, appendA, strA, Nat.reduceMul, Nat.zero_mul, Nat.reduceMod, Int.reduceEq, Int.reduceLT, Int.reduceLE, Nat.reduceLT, Nat.lt_irrefl, Nat.reduceBEq, tys0, tys1, tys2, tys3, tys4, tys5, tys6, tys7, tys8, tys9, tys10, tys11, Try.ntmps89, Try.results89, e0]
    exact Fin.own (by simp [ofK, h]) (by simp [ofF, h])
  · have e0 : ((k : Int) == (s.size : Int)) = false := by simp; omega
    have e1 : IntKind.i64.wrap ((k : Int) + 1) = (k : Int) + 1 := w64_small (by omega)
    have e2 : IntKind.i64.wrap ((k : Int) + 1 - 1) = (k : Int) := by
      have := w64_small (x := (k : Int) + 1 - 1) (by omega)
      simp only [w64] at this
      rw [this]; omega
    have e3 := index_str (s := s) (k := k) (by omega)
    simp only [run0, run1, run2, run3, run4, run5, run6, run7, run8, run9, run10, run11, run12, run13, run14, run15, run16, run17, run18, run19, run20, run21, run22, reduceCtorEq, Nat.reduceEqDiff, Nat.reduceAdd, Nat.reduceSub, Nat.reduceLeDiff, indexAddrA, indexRefA, appendA, strA, Nat.reduceMul, Nat.zero_mul, Nat.reduceMod, Int.reduceEq, Int.reduceLT, Int.reduceLE, Nat.reduceLT, Nat.lt_irrefl, Nat.reduceBEq, tys0, tys1, tys2, tys3, tys4, tys5, tys6, tys7, tys8, tys9, tys10, tys11, Try.ntmps89, Try.results89, e0, e1, e2, e3]
    by_cases hp : s.data.getD k 0 = 43
    · have e4 : (((s.data.getD k 0).toNat : Int) == 43) = true := by rw [hp]; rfl
      simp only [run0, run1, run2, run3, run4, run5, run6, run7, run8, run9, run10, run11, run12, run13, run14, run15, run16, run17, run18, run19, run20, run21, run22, reduceCtorEq, Nat.reduceEqDiff, Nat.reduceAdd, Nat.reduceSub, Nat.reduceLeDiff, indexAddrA, indexRefA, appendA, strA, Nat.reduceMul, Nat.zero_mul, Nat.reduceMod, Int.reduceEq, Int.reduceLT, Int.reduceLE, Nat.reduceLT, Nat.lt_irrefl, Nat.reduceBEq, tys0, tys1, tys2, tys3, tys4, tys5, tys6, tys7, tys8, tys9, tys10, tys11, Try.ntmps89, Try.results89, e4]
      exact Fin.own (by simp [ofK, h]) (by simp only [ofF, h, hp, if_true, if_false])
    · have e4 : (((s.data.getD k 0).toNat : Int) == 43) = false := by
        rw [beq_eq_false_iff_ne]
        intro he
        exact hp (UInt8.toNat_inj.1 (by simpa using (show (s.data.getD k 0).toNat = 43 by omega)))
      simp only [run0, run1, run2, run3, run4, run5, run6, run7, run8, run9, run10, run11, run12, run13, run14, run15, run16, run17, run18, run19, run20, run21, run22, reduceCtorEq, Nat.reduceEqDiff, Nat.reduceAdd, Nat.reduceSub, Nat.reduceLeDiff, indexAddrA, indexRefA, appendA, strA, Nat.reduceMul, Nat.zero_mul, Nat.reduceMod, Int.reduceEq, Int.reduceLT, Int.reduceLE, Nat.reduceLT, Nat.lt_irrefl, Nat.reduceBEq, tys0, tys1, tys2, tys3, tys4, tys5, tys6, tys7, tys8, tys9, tys10, tys11, Try.ntmps89, Try.results89, e4]
      exact Fin.own (by simp [ofK, h]) (by simp only [ofF, h, hp, if_false])

end Go.Proofs.Ytolfjeedgedblaa
