/-
  Short numbers: the walk along a given word.
-/
import Derived.Test.YtolfjeedgedblaaF13
namespace Go.Proofs.Ytolfjeedgedblaa
open Go K
set_option linter.unusedSimpArgs false
set_option linter.unusedVariables false
set_option maxHeartbeats 400000

def ofSt (s : ByteArray) (i : Wk) : St :=
  ⟨[.fn 89 [.ptr 1 0, .ptr 0 0], .junk, .ref 2 [] i.nums.length i.nums.length, .str i.word, .ref 3 [] i.low.length i.low.length, .ref 4 [] i.high.length i.high.length, .int .i64 i.x, .junk, .junk, .junk, .junk, .junk, .junk, .junk, .junk, .junk, .junk, .junk, .junk, .junk, .junk, .junk, .junk, .junk, .junk, .junk, .junk, .junk, .junk, .junk, .junk, .junk, .junk, .junk, .junk, .junk, .junk, .junk, .junk, .junk, .junk, .junk, .junk, .junk, .junk],
   [.box 9 [.str s], .box 3 [.int .i64 i.word.size], .vec 3 1 i.nums.length (ints i.nums), .vec 3 1 i.low.length (ints i.low), .vec 3 1 i.high.length (ints i.high)]⟩
def ofRun (s : ByteArray) : Nat → Wk → Wk
  | 0, i => i
  | k + 1, i =>
    if ofF s i.word.size = 0 ∨ i.word.size = 20 then { i with nums := i.nums ++ [i.x] }
    else if 0 < ofF s i.word.size then ofRun s k ⟨i.nums ++ [i.x], i.word ++ plusB, i.low ++ [i.x], i.high, betw i.x (ofF s i.word.size) (i.low ++ [i.x]) i.high⟩
    else ofRun s k ⟨i.nums ++ [i.x], i.word ++ minusB, i.low, i.high ++ [i.x], betw i.x (ofF s i.word.size) i.low (i.high ++ [i.x])⟩
def ofR (i : Wk) : AV := .tup [.ref 2 [] i.nums.length i.nums.length, .str i.word, .ref 3 [] i.low.length i.low.length, .ref 4 [] i.high.length i.high.length]
def ofL (s : ByteArray) (i : Wk) : List AObj := [.box 9 [.str s], .box 3 [.int .i64 (ofK s i.word.size)], .vec 3 1 i.nums.length (ints i.nums), .vec 3 1 i.low.length (ints i.low), .vec 3 1 i.high.length (ints i.high)]

theorem walkOf_ok (s : ByteArray) (hs : s.size ≤ 1000) :
    Ct Try.prog 79 [.fn 89 [.ptr 1 0, .ptr 0 0]] [.box 9 [.str s], .box 3 [.int .i64 0]] (ofR (ofRun s 21 wk0)) (ofL s (ofRun s 21 wk0)) := by
  refine Ct.by_ hmix [] Try.func79 rfl ?_
  simp only [run0, run1, run2, run3, run4, run5, run6, run7, run8, run9, run10, run11, run12, run13, run14, run15, run16, run17, run18, run19, run20, run21, run22, reduceCtorEq, Nat.reduceEqDiff, Nat.reduceAdd, Nat.reduceSub, Nat.reduceLeDiff, indexAddrA, indexRefA, appendA, strA, Nat.reduceMul, Nat.zero_mul, Nat.reduceMod, Int.reduceEq, Int.reduceLT, Int.reduceLE, Nat.reduceLT, Nat.lt_irrefl, Nat.reduceBEq, tys0, tys1, tys2, tys3, tys4, tys5, tys6, tys7, tys8, tys9, tys10, tys11, Try.ntmps79, Try.results79]
  refine AWp.nil 2 3 1 rfl ?_
  refine AWp.nil 4 3 1 rfl ?_
  refine AWp.nil 5 3 1 rfl ?_
  refine AWp.loop_inv (ofSt s) (fun i => i.word.size ≤ 20 ∧ i.word.size ≤ s.size ∧ i.nums.length = i.word.size ∧ i.low.length ≤ i.word.size ∧ i.high.length ≤ i.word.size ∧ ofRun s (21 - i.word.size) i = ofRun s 21 wk0)
    (fun i => 21 - i.word.size) wk0 ⟨by decide, Nat.zero_le _, rfl, by decide, by decide, rfl⟩ ⟨JL.refl _, rfl⟩ ?_
  rintro ⟨nums, word, low, high, x⟩ ⟨hw, hws, hn, hlo, hhi, hrun⟩
  simp only at hw hws hn hlo hhi hrun
  simp only [ofSt]
  refine W.sound hmix (E := []) ?_
  have b0 : nums.length + 1 ≤ 137438953472 := by omega
  have b1 : low.length + 1 ≤ 137438953472 := by omega
  have b2 : high.length + 1 ≤ 137438953472 := by omega
  have hk : 21 - word.size = (20 - word.size) + 1 := by omega
  rw [hk] at hrun
  simp only [run0, run1, run2, run3, run4, run5, run6, run7, run8, run9, run10, run11, run12, run13, run14, run15, run16, run17, run18, run19, run20, run21, run22, reduceCtorEq, Nat.reduceEqDiff, Nat.reduceAdd, Nat.reduceSub, Nat.reduceLeDiff, indexAddrA, indexRefA, appendA, strA, Nat.reduceMul, Nat.zero_mul, Nat.reduceMod, Int.reduceEq, Int.reduceLT, Int.reduceLE, Nat.reduceLT, Nat.lt_irrefl, Nat.reduceBEq, tys0, tys1, tys2, tys3, tys4, tys5, tys6, tys7, tys8, tys9, tys10, tys11, Try.ntmps79, Try.results79, b0, ints_noOwn]
  refine RunL.callc rfl rfl rfl rfl ok_f89 rfl (.inl rfl) (closOf_ok s word.size x _ hws hs) ?_
  generalize hfx : ofF s word.size = fx at *
  have hend : (fx = 0 ∨ word.size = 20) → ofRun s 21 wk0 = ⟨nums ++ [x], word, low, high, x⟩ := by
    intro h
    rw [← hrun]
    simp [ofRun, hfx, h]
  by_cases hz : fx = 0
  · have e0 : (fx == 0) = true := by simp [hz]
    rw [hend (.inl hz)]
    simp only [run0, run1, run2, run3, run4, run5, run6, run7, run8, run9, run10, run11, run12, run13, run14, run15, run16, run17, run18, run19, run20, run21, run22, reduceCtorEq, Nat.reduceEqDiff, Nat.reduceAdd, Nat.reduceSub, Nat.reduceLeDiff, indexAddrA, indexRefA, appendA, strA, Nat.reduceMul, Nat.zero_mul, Nat.reduceMod, Int.reduceEq, Int.reduceLT, Int.reduceLE, Nat.reduceLT, Nat.lt_irrefl, Nat.reduceBEq, tys0, tys1, tys2, tys3, tys4, tys5, tys6, tys7, tys8, tys9, tys10, tys11, Try.ntmps79, Try.results79, e0]
    exact Fin.own (by simp [ofL, ints]) (by simp [ofR])
  have e0 : (fx == 0) = false := by simp [hz]
  by_cases h20 : word.size = 20
  · have e1 : ((word.size : Int) == 20) = true := by simp [h20]
    rw [hend (.inr h20)]
    simp only [run0, run1, run2, run3, run4, run5, run6, run7, run8, run9, run10, run11, run12, run13, run14, run15, run16, run17, run18, run19, run20, run21, run22, reduceCtorEq, Nat.reduceEqDiff, Nat.reduceAdd, Nat.reduceSub, Nat.reduceLeDiff, indexAddrA, indexRefA, appendA, strA, Nat.reduceMul, Nat.zero_mul, Nat.reduceMod, Int.reduceEq, Int.reduceLT, Int.reduceLE, Nat.reduceLT, Nat.lt_irrefl, Nat.reduceBEq, tys0, tys1, tys2, tys3, tys4, tys5, tys6, tys7, tys8, tys9, tys10, tys11, Try.ntmps79, Try.results79, e0, e1]
    exact Fin.own (by simp [ofL, ints]) (by simp [ofR])
  have e1 : ((word.size : Int) == 20) = false := by simp; omega
  have hgo : ¬ (fx = 0 ∨ word.size = 20) := by simp [hz, h20]
  have hne : word.size ≠ s.size := by
    intro he; apply hz; rw [← hfx]; simp [ofF, he]
  have hK : ofK s word.size = word.size + 1 := by simp [ofK, hne]
  have b3 : word.size + (ByteArray.mk #[43]).size ≤ 9223372036854775807 := by
    rw [show (ByteArray.mk #[43]).size = 1 from rfl]; omega
  have b4 : word.size + (ByteArray.mk #[45]).size ≤ 9223372036854775807 := by
    rw [show (ByteArray.mk #[45]).size = 1 from rfl]; omega
  by_cases hpos : 0 < fx
  · simp only [run0, run1, run2, run3, run4, run5, run6, run7, run8, run9, run10, run11, run12, run13, run14, run15, run16, run17, run18, run19, run20, run21, run22, reduceCtorEq, Nat.reduceEqDiff, Nat.reduceAdd, Nat.reduceSub, Nat.reduceLeDiff, indexAddrA, indexRefA, appendA, strA, Nat.reduceMul, Nat.zero_mul, Nat.reduceMod, Int.reduceEq, Int.reduceLT, Int.reduceLE, Nat.reduceLT, Nat.lt_irrefl, Nat.reduceBEq, tys0, tys1, tys2, tys3, tys4, tys5, tys6, tys7, tys8, tys9, tys10, tys11, Try.ntmps79, Try.results79, e0, e1, hpos, b1, b3, ints_noOwn]
    refine RunL.call rfl rfl rfl ok_f88 rfl (.inl rfl) (Ct.lend (between_ok x (fx) (low ++ [x]) high (by simp; omega) (by omega)) (.cons (Vw.pur (Pur.int _ _)) (.cons (Vw.pur (Pur.int _ _)) (.cons (Vw_ints rfl (by simp) (by simp)) (.cons (Vw_ints rfl rfl rfl) .nil)))) rfl) ?_
    simp only [run0, run1, run2, run3, run4, run5, run6, run7, run8, run9, run10, run11, run12, run13, run14, run15, run16, run17, run18, run19, run20, run21, run22, reduceCtorEq, Nat.reduceEqDiff, Nat.reduceAdd, Nat.reduceSub, Nat.reduceLeDiff, indexAddrA, indexRefA, appendA, strA, Nat.reduceMul, Nat.zero_mul, Nat.reduceMod, Int.reduceEq, Int.reduceLT, Int.reduceLE, Nat.reduceLT, Nat.lt_irrefl, Nat.reduceBEq, tys0, tys1, tys2, tys3, tys4, tys5, tys6, tys7, tys8, tys9, tys10, tys11, Try.ntmps79, Try.results79]
    have hsz : (word ++ plusB).size = word.size + 1 := by simp [ByteArray.size_append, plusB]; rfl
    refine ⟨⟨nums ++ [x], word ++ plusB, low ++ [x], high, betw x (fx) (low ++ [x]) high⟩, ⟨by simp only [hsz]; omega, by simp only [hsz]; omega, by simp only [hsz, List.length_append, hn]; rfl, by simp only [hsz, List.length_append, List.length_cons, List.length_nil]; omega, by simp only [hsz]; omega, ?_⟩, by simp only [hsz]; omega, ?_, ?_⟩
    · simp only [hsz]
      rw [← hrun, show 21 - (word.size + 1) = 20 - word.size by omega]
      simp [ofRun, hfx, hgo, hpos]
    · simp only [List.length_append, List.length_cons, List.length_nil, Nat.zero_add, plusB]
      repeat constructor
    · simp [ints, hK, hsz]
  · simp only [run0, run1, run2, run3, run4, run5, run6, run7, run8, run9, run10, run11, run12, run13, run14, run15, run16, run17, run18, run19, run20, run21, run22, reduceCtorEq, Nat.reduceEqDiff, Nat.reduceAdd, Nat.reduceSub, Nat.reduceLeDiff, indexAddrA, indexRefA, appendA, strA, Nat.reduceMul, Nat.zero_mul, Nat.reduceMod, Int.reduceEq, Int.reduceLT, Int.reduceLE, Nat.reduceLT, Nat.lt_irrefl, Nat.reduceBEq, tys0, tys1, tys2, tys3, tys4, tys5, tys6, tys7, tys8, tys9, tys10, tys11, Try.ntmps79, Try.results79, e0, e1, hpos, b2, b4, ints_noOwn]
    refine RunL.call rfl rfl rfl ok_f88 rfl (.inl rfl) (Ct.lend (between_ok x (fx) low (high ++ [x]) (by omega) (by simp; omega)) (.cons (Vw.pur (Pur.int _ _)) (.cons (Vw.pur (Pur.int _ _)) (.cons (Vw_ints rfl rfl rfl) (.cons (Vw_ints rfl (by simp) (by simp)) .nil)))) rfl) ?_
    simp only [run0, run1, run2, run3, run4, run5, run6, run7, run8, run9, run10, run11, run12, run13, run14, run15, run16, run17, run18, run19, run20, run21, run22, reduceCtorEq, Nat.reduceEqDiff, Nat.reduceAdd, Nat.reduceSub, Nat.reduceLeDiff, indexAddrA, indexRefA, appendA, strA, Nat.reduceMul, Nat.zero_mul, Nat.reduceMod, Int.reduceEq, Int.reduceLT, Int.reduceLE, Nat.reduceLT, Nat.lt_irrefl, Nat.reduceBEq, tys0, tys1, tys2, tys3, tys4, tys5, tys6, tys7, tys8, tys9, tys10, tys11, Try.ntmps79, Try.results79]
    have hsz : (word ++ minusB).size = word.size + 1 := by simp [ByteArray.size_append, minusB]; rfl
    refine ⟨⟨nums ++ [x], word ++ minusB, low, high ++ [x], betw x (fx) low (high ++ [x])⟩, ⟨by simp only [hsz]; omega, by simp only [hsz]; omega, by simp only [hsz, List.length_append, hn]; rfl, by simp only [hsz]; omega, by simp only [hsz, List.length_append, List.length_cons, List.length_nil]; omega, ?_⟩, by simp only [hsz]; omega, ?_, ?_⟩
    · simp only [hsz]
      rw [← hrun, show 21 - (word.size + 1) = 20 - word.size by omega]
      simp [ofRun, hfx, hgo, hpos]
    · simp only [List.length_append, List.length_cons, List.length_nil, Nat.zero_add, minusB]
      repeat constructor
    · simp [ints, hK, hsz]

end Go.Proofs.Ytolfjeedgedblaa
