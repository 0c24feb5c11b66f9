/-
  Short numbers: the walk along a word.
-/
import Derived.Test.YtolfjeedgedblaaF6
import Derived.Test.YtolfjeedgedblaaK18
namespace Go.Proofs.Ytolfjeedgedblaa
open Go K
set_option linter.unusedSimpArgs false
set_option linter.unusedVariables false
set_option maxHeartbeats 400000

theorem Vw_ints {L : List AObj} {id g n sz : Nat} {T : TypeId} {es : List AV} {a : List Int} (hL : L[id]? = some (.vec T sz g es)) (he : es = ints a) (hn : n = a.length) : Vw L (.ref id [] g n) (.sl false (ints a)) := by
  subst he hn
  have := Vw.refPur (o := false) hL (n := a.length) (by simp) (fun e he c hc => by
    simp only [ints, List.mem_map] at he
    obtain ⟨i, _, rfl⟩ := he
    simp [AV.cells] at hc
    subst hc
    exact ⟨.int _ _, fun xs h => by cases h⟩)
  rwa [List.take_of_length_le (by simp)] at this

structure Wk where
  nums : List Int
  word : ByteArray
  low : List Int
  high : List Int
  x : Int

def wkSt (cf : FuncId) (cap : List AV) (i : Wk) : St :=
  ⟨[.fn cf cap, .junk, .ref 0 [] i.nums.length i.nums.length, .str i.word, .ref 1 [] i.low.length i.low.length, .ref 2 [] i.high.length i.high.length, .int .i64 i.x, .junk, .junk, .junk, .junk, .junk, .junk, .junk, .junk, .junk, .junk, .junk, .junk, .junk, .junk, .junk, .junk, .junk, .junk, .junk, .junk, .junk, .junk, .junk, .junk, .junk, .junk, .junk, .junk, .junk, .junk, .junk, .junk, .junk, .junk, .junk, .junk, .junk, .junk],
   [.vec 3 1 i.nums.length (ints i.nums), .vec 3 1 i.low.length (ints i.low), .vec 3 1 i.high.length (ints i.high)]⟩

def plusB : ByteArray := ⟨#[43]⟩
def minusB : ByteArray := ⟨#[45]⟩
/-- Where a walk ends. -/
def wkRun (f : Int → Int) : Nat → Wk → Wk
  | 0, i => i
  | k + 1, i =>
    if f i.x = 0 ∨ i.word.size = 20 then { i with nums := i.nums ++ [i.x] }
    else if 0 < f i.x then wkRun f k ⟨i.nums ++ [i.x], i.word ++ plusB, i.low ++ [i.x], i.high, betw i.x (f i.x) (i.low ++ [i.x]) i.high⟩
    else wkRun f k ⟨i.nums ++ [i.x], i.word ++ minusB, i.low, i.high ++ [i.x], betw i.x (f i.x) i.low (i.high ++ [i.x])⟩
def wk0 : Wk := ⟨[], ⟨#[]⟩, [], [], 0⟩
def wkAV (i : Wk) : AV := .tup [.sl false (ints i.nums), .str i.word, .sl false (ints i.low), .sl false (ints i.high)]

def wkR (i : Wk) : AV := .tup [.ref 0 [] i.nums.length i.nums.length, .str i.word, .ref 1 [] i.low.length i.low.length, .ref 2 [] i.high.length i.high.length]
def wkL (i : Wk) : List AObj := [.vec 3 1 i.nums.length (ints i.nums), .vec 3 1 i.low.length (ints i.low), .vec 3 1 i.high.length (ints i.high)]

theorem walk_ok (cf : FuncId) (cap : List AV) (f : Int → Int) (hc : ∀ x, Ct Try.prog cf (.int .i64 x :: cap) [] (.int .i64 (f x)) []) (hp : pureL cap = true) (hf : okFn Try.prog cf = true) :
    Ct Try.prog 79 [.fn cf cap] [] (wkR (wkRun f 21 wk0)) (wkL (wkRun f 21 wk0)) := by
  refine Ct.by_ hmix [] Try.func79 rfl ?_
  simp only [run0, run1, run2, run3, run4, run5, run6, run7, run8, run9, run10, run11, run12, run13, run14, run15, run16, run17, run18, run19, run20, run21, run22, reduceCtorEq, Nat.reduceEqDiff, Nat.reduceAdd, Nat.reduceSub, Nat.reduceLeDiff, indexAddrA, indexRefA, appendA, strA, Nat.reduceMul, Nat.zero_mul, Nat.reduceMod, Int.reduceEq, Int.reduceLT, Int.reduceLE, Nat.reduceLT, Nat.lt_irrefl, Nat.reduceBEq, tys0, tys1, tys2, tys3, tys4, tys5, tys6, tys7, tys8, tys9, tys10, tys11, Try.ntmps79, Try.results79]
  refine AWp.nil 2 3 1 rfl ?_
  refine AWp.nil 4 3 1 rfl ?_
  refine AWp.nil 5 3 1 rfl ?_
  refine AWp.loop_inv (wkSt cf cap) (fun i => i.word.size ≤ 20 ∧ i.nums.length = i.word.size ∧ i.low.length ≤ i.word.size ∧ i.high.length ≤ i.word.size ∧ wkRun f (21 - i.word.size) i = wkRun f 21 wk0)
    (fun i => 21 - i.word.size) wk0 ⟨by decide, rfl, by decide, by decide, rfl⟩ ⟨JL.refl _, rfl⟩ ?_
  rintro ⟨nums, word, low, high, x⟩ ⟨hw, hn, hlo, hhi, hrun⟩
  simp only at hw hn hlo hhi hrun
  simp only [wkSt]
  refine W.sound hmix (E := []) ?_
  have b0 : nums.length + 1 ≤ 137438953472 := by omega
  have b1 : low.length + 1 ≤ 137438953472 := by omega
  have b2 : high.length + 1 ≤ 137438953472 := by omega
  have hk : 21 - word.size = (20 - word.size) + 1 := by omega
  rw [hk] at hrun
  simp only [run0, run1, run2, run3, run4, run5, run6, run7, run8, run9, run10, run11, run12, run13, run14, run15, run16, run17, run18, run19, run20, run21, run22, reduceCtorEq, Nat.reduceEqDiff, Nat.reduceAdd, Nat.reduceSub, Nat.reduceLeDiff, indexAddrA, indexRefA, appendA, strA, Nat.reduceMul, Nat.zero_mul, Nat.reduceMod, Int.reduceEq, Int.reduceLT, Int.reduceLE, Nat.reduceLT, Nat.lt_irrefl, Nat.reduceBEq, tys0, tys1, tys2, tys3, tys4, tys5, tys6, tys7, tys8, tys9, tys10, tys11, Try.ntmps79, Try.results79, b0, ints_noOwn]
  refine RunL.callcv rfl rfl rfl rfl hf rfl (hc x) (show pureL (.int .i64 x :: cap) = true by simp [pureL, pureB, hp]) ?_
  have hend : (f x = 0 ∨ word.size = 20) → wkRun f 21 wk0 = ⟨nums ++ [x], word, low, high, x⟩ := by
    intro h
    rw [← hrun]
    simp [wkRun, h]
  by_cases hz : f x = 0
  · have e0 : (f x == 0) = true := by simp [hz]
    rw [hend (.inl hz)]
    simp only [run0, run1, run2, run3, run4, run5, run6, run7, run8, run9, run10, run11, run12, run13, run14, run15, run16, run17, run18, run19, run20, run21, run22, reduceCtorEq, Nat.reduceEqDiff, Nat.reduceAdd, Nat.reduceSub, Nat.reduceLeDiff, indexAddrA, indexRefA, appendA, strA, Nat.reduceMul, Nat.zero_mul, Nat.reduceMod, Int.reduceEq, Int.reduceLT, Int.reduceLE, Nat.reduceLT, Nat.lt_irrefl, Nat.reduceBEq, tys0, tys1, tys2, tys3, tys4, tys5, tys6, tys7, tys8, tys9, tys10, tys11, Try.ntmps79, Try.results79, e0]
    exact Fin.own (by simp [wkL, ints]) (by simp [wkR])
  have e0 : (f x == 0) = false := by simp [hz]
  by_cases h20 : word.size = 20
  · have e1 : ((word.size : Int) == 20) = true := by simp [h20]
    rw [hend (.inr h20)]
    simp only [run0, run1, run2, run3, run4, run5, run6, run7, run8, run9, run10, run11, run12, run13, run14, run15, run16, run17, run18, run19, run20, run21, run22, reduceCtorEq, Nat.reduceEqDiff, Nat.reduceAdd, Nat.reduceSub, Nat.reduceLeDiff, indexAddrA, indexRefA, appendA, strA, Nat.reduceMul, Nat.zero_mul, Nat.reduceMod, Int.reduceEq, Int.reduceLT, Int.reduceLE, Nat.reduceLT, Nat.lt_irrefl, Nat.reduceBEq, tys0, tys1, tys2, tys3, tys4, tys5, tys6, tys7, tys8, tys9, tys10, tys11, Try.ntmps79, Try.results79, e0, e1]
    exact Fin.own (by simp [wkL, ints]) (by simp [wkR])
  have e1 : ((word.size : Int) == 20) = false := by simp; omega
  have hgo : ¬ (f x = 0 ∨ word.size = 20) := by simp [hz, h20]
  have b3 : word.size + (ByteArray.mk #[43]).size ≤ 9223372036854775807 := by
    rw [show (ByteArray.mk #[43]).size = 1 from rfl]; omega
  have b4 : word.size + (ByteArray.mk #[45]).size ≤ 9223372036854775807 := by
    rw [show (ByteArray.mk #[45]).size = 1 from rfl]; omega
  by_cases hpos : 0 < f x
  · simp only [run0, run1, run2, run3, run4, run5, run6, run7, run8, run9, run10, run11, run12, run13, run14, run15, run16, run17, run18, run19, run20, run21, run22, reduceCtorEq, Nat.reduceEqDiff, Nat.reduceAdd, Nat.reduceSub, Nat.reduceLeDiff, indexAddrA, indexRefA, appendA, strA, Nat.reduceMul, Nat.zero_mul, Nat.reduceMod, Int.reduceEq, Int.reduceLT, Int.reduceLE, Nat.reduceLT, Nat.lt_irrefl, Nat.reduceBEq, tys0, tys1, tys2, tys3, tys4, tys5, tys6, tys7, tys8, tys9, tys10, tys11, Try.ntmps79, Try.results79, e0, e1, hpos, b1, b3, ints_noOwn]
    refine RunL.call rfl rfl rfl ok_f88 rfl (.inl rfl) (Ct.lend (between_ok x (f x) (low ++ [x]) high (by simp; omega) (by omega)) (.cons (Vw.pur (Pur.int _ _)) (.cons (Vw.pur (Pur.int _ _)) (.cons (Vw_ints rfl (by simp) (by simp)) (.cons (Vw_ints rfl rfl rfl) .nil)))) rfl) ?_
    simp only [run0, run1, run2, run3, run4, run5, run6, run7, run8, run9, run10, run11, run12, run13, run14, run15, run16, run17, run18, run19, run20, run21, run22, reduceCtorEq, Nat.reduceEqDiff, Nat.reduceAdd, Nat.reduceSub, Nat.reduceLeDiff, indexAddrA, indexRefA, appendA, strA, Nat.reduceMul, Nat.zero_mul, Nat.reduceMod, Int.reduceEq, Int.reduceLT, Int.reduceLE, Nat.reduceLT, Nat.lt_irrefl, Nat.reduceBEq, tys0, tys1, tys2, tys3, tys4, tys5, tys6, tys7, tys8, tys9, tys10, tys11, Try.ntmps79, Try.results79]
    have hsz : (word ++ plusB).size = word.size + 1 := by simp [ByteArray.size_append, plusB]; rfl
    refine ⟨⟨nums ++ [x], word ++ plusB, low ++ [x], high, betw x (f x) (low ++ [x]) high⟩, ⟨by simp only [hsz]; omega, by simp only [hsz, List.length_append, hn]; rfl, by simp only [hsz, List.length_append, List.length_cons, List.length_nil]; omega, by simp only [hsz]; omega, ?_⟩, by simp only [hsz]; omega, ?_, ?_⟩
    · simp only [hsz]
      rw [← hrun, show 21 - (word.size + 1) = 20 - word.size by omega]
      simp [wkRun, hgo, hpos]
    · simp only [List.length_append, List.length_cons, List.length_nil, Nat.zero_add, plusB]
      repeat constructor
    · simp [ints]
  · simp only [run0, run1, run2, run3, run4, run5, run6, run7, run8, run9, run10, run11, run12, run13, run14, run15, run16, run17, run18, run19, run20, run21, run22, reduceCtorEq, Nat.reduceEqDiff, Nat.reduceAdd, Nat.reduceSub, Nat.reduceLeDiff, indexAddrA, indexRefA, appendA, strA, Nat.reduceMul, Nat.zero_mul, Nat.reduceMod, Int.reduceEq, Int.reduceLT, Int.reduceLE, Nat.reduceLT, Nat.lt_irrefl, Nat.reduceBEq, tys0, tys1, tys2, tys3, tys4, tys5, tys6, tys7, tys8, tys9, tys10, tys11, Try.ntmps79, Try.results79, e0, e1, hpos, b2, b4, ints_noOwn]
    refine RunL.call rfl rfl rfl ok_f88 rfl (.inl rfl) (Ct.lend (between_ok x (f x) low (high ++ [x]) (by omega) (by simp; omega)) (.cons (Vw.pur (Pur.int _ _)) (.cons (Vw.pur (Pur.int _ _)) (.cons (Vw_ints rfl rfl rfl) (.cons (Vw_ints rfl (by simp) (by simp)) .nil)))) rfl) ?_
    simp only [run0, run1, run2, run3, run4, run5, run6, run7, run8, run9, run10, run11, run12, run13, run14, run15, run16, run17, run18, run19, run20, run21, run22, reduceCtorEq, Nat.reduceEqDiff, Nat.reduceAdd, Nat.reduceSub, Nat.reduceLeDiff, indexAddrA, indexRefA, appendA, strA, Nat.reduceMul, Nat.zero_mul, Nat.reduceMod, Int.reduceEq, Int.reduceLT, Int.reduceLE, Nat.reduceLT, Nat.lt_irrefl, Nat.reduceBEq, tys0, tys1, tys2, tys3, tys4, tys5, tys6, tys7, tys8, tys9, tys10, tys11, Try.ntmps79, Try.results79]
    have hsz : (word ++ minusB).size = word.size + 1 := by simp [ByteArray.size_append, minusB]; rfl
    refine ⟨⟨nums ++ [x], word ++ minusB, low, high ++ [x], betw x (f x) low (high ++ [x])⟩, ⟨by simp only [hsz]; omega, by simp only [hsz, List.length_append, hn]; rfl, by simp only [hsz]; omega, by simp only [hsz, List.length_append, List.length_cons, List.length_nil]; omega, ?_⟩, by simp only [hsz]; omega, ?_, ?_⟩
    · simp only [hsz]
      rw [← hrun, show 21 - (word.size + 1) = 20 - word.size by omega]
      simp [wkRun, hgo, hpos]
    · simp only [List.length_append, List.length_cons, List.length_nil, Nat.zero_add, minusB]
      repeat constructor
    · simp [ints]

theorem wkRun_last (f : Int → Int) : ∀ (k : Nat) (i : Wk), (0 < k ∨ ∃ l y, i.nums = l ++ [y]) → ∃ l y, (wkRun f k i).nums = l ++ [y]
  | 0, i, h => by
    rcases h with h | h
    · omega
    · exact h
  | k + 1, i, _ => by
    unfold wkRun
    split
    · exact ⟨_, _, rfl⟩
    · split
      · exact wkRun_last f k _ (.inr ⟨_, _, rfl⟩)
      · exact wkRun_last f k _ (.inr ⟨_, _, rfl⟩)
theorem wkRun_size (f : Int → Int) : ∀ (k : Nat) (i : Wk), (wkRun f k i).nums.length ≤ i.nums.length + k + 1
  | 0, i => by simp [wkRun]
  | k + 1, i => by
    unfold wkRun
    split
    · simp
    · split
      · have := wkRun_size f k ⟨i.nums ++ [i.x], i.word ++ plusB, i.low ++ [i.x], i.high, betw i.x (f i.x) (i.low ++ [i.x]) i.high⟩
        simp at this ⊢; omega
      · have := wkRun_size f k ⟨i.nums ++ [i.x], i.word ++ minusB, i.low, i.high ++ [i.x], betw i.x (f i.x) i.low (i.high ++ [i.x])⟩
        simp at this ⊢; omega

/-- Where a fraction lies, from a number of so many parts. -/
def side (n d : Int) (x : Int) : Int := cmpI (w64 (n * 1048576)) (w64 (x * d))
theorem closWord_ok (n d x : Int) : Ct Try.prog 80 [.int .i64 x, .rptr (.agg [.int .i64 n, .int .i64 d]) 0] [] (.int .i64 (side n d x)) [] := by
  refine Ct.by_ hmix [] Try.func80 rfl ?_
  simp only [run0, run1, run2, run3, run4, run5, run6, run7, run8, run9, run10, run11, run12, run13, run14, run15, run16, run17, run18, run19, run20, run21, run22, reduceCtorEq, Nat.reduceEqDiff, Nat.reduceAdd, Nat.reduceSub, Nat.reduceLeDiff, indexAddrA, indexRefA, appendA, strA, Nat.reduceMul, Nat.zero_mul, Nat.reduceMod, Int.reduceEq, Int.reduceLT, Int.reduceLE, Nat.reduceLT, Nat.lt_irrefl, Nat.reduceBEq, tys0, tys1, tys2, tys3, tys4, tys5, tys6, tys7, tys8, tys9, tys10, tys11, Try.ntmps80, Try.results80]
  refine RunL.callp rfl rfl ok_f75 (compare_ok _ _) (by first | rfl | simp only [pureL, pureB, Bool.and_self, Bool.and_true, Bool.true_and]) rfl ?_
  simp only [run0, run1, run2, run3, run4, run5, run6, run7, run8, run9, run10, run11, run12, run13, run14, run15, run16, run17, run18, run19, run20, run21, run22, reduceCtorEq, Nat.reduceEqDiff, Nat.reduceAdd, Nat.reduceSub, Nat.reduceLeDiff, indexAddrA, indexRefA, appendA, strA, Nat.reduceMul, Nat.zero_mul, Nat.reduceMod, Int.reduceEq, Int.reduceLT, Int.reduceLE, Nat.reduceLT, Nat.lt_irrefl, Nat.reduceBEq, tys0, tys1, tys2, tys3, tys4, tys5, tys6, tys7, tys8, tys9, tys10, tys11, Try.ntmps80, Try.results80]
  exact Fin.eq rfl rfl

def wkOf (n d : Int) : Wk := wkRun (side n d) 21 wk0
def shortB (n d : Int) : Bool := goodB n d && (w64 (n * 1048576) == w64 ((wkOf n d).nums.getLastD 0 * d))
def noWk : Wk := ⟨[], ⟨#[]⟩, [], [], 0⟩
def gWk (n d : Int) : Wk := if goodB n d then wkOf n d else noWk

theorem wordOf_ok (n d : Int) : Ct Try.prog 61 [fr n d] [] (.tup [.sl false (ints (gWk n d).nums), .str (gWk n d).word, .sl false (ints (gWk n d).low), .sl false (ints (gWk n d).high), .bool (shortB n d)]) [] := by
  refine Ct.by_ hmix [] Try.func61 rfl ?_
  simp only [run0, run1, run2, run3, run4, run5, run6, run7, run8, run9, run10, run11, run12, run13, run14, run15, run16, run17, run18, run19, run20, run21, run22, reduceCtorEq, Nat.reduceEqDiff, Nat.reduceAdd, Nat.reduceSub, Nat.reduceLeDiff, indexAddrA, indexRefA, appendA, strA, Nat.reduceMul, Nat.zero_mul, Nat.reduceMod, Int.reduceEq, Int.reduceLT, Int.reduceLE, Nat.reduceLT, Nat.lt_irrefl, Nat.reduceBEq, tys0, tys1, tys2, tys3, tys4, tys5, tys6, tys7, tys8, tys9, tys10, tys11, Try.ntmps61, Try.results61, fr]
  refine RunL.callp rfl rfl ok_f48 (good_ok _ _) (by first | rfl | simp only [pureL, pureB, Bool.and_self, Bool.and_true, Bool.true_and]) rfl ?_
  simp only [run0, run1, run2, run3, run4, run5, run6, run7, run8, run9, run10, run11, run12, run13, run14, run15, run16, run17, run18, run19, run20, run21, run22, reduceCtorEq, Nat.reduceEqDiff, Nat.reduceAdd, Nat.reduceSub, Nat.reduceLeDiff, indexAddrA, indexRefA, appendA, strA, Nat.reduceMul, Nat.zero_mul, Nat.reduceMod, Int.reduceEq, Int.reduceLT, Int.reduceLE, Nat.reduceLT, Nat.lt_irrefl, Nat.reduceBEq, tys0, tys1, tys2, tys3, tys4, tys5, tys6, tys7, tys8, tys9, tys10, tys11, Try.ntmps61, Try.results61]
  refine Wc.split (fun hg => ?_) (fun hg => ?_) <;> simp only [run0, run1, run2, run3, run4, run5, run6, run7, run8, run9, run10, run11, run12, run13, run14, run15, run16, run17, run18, run19, run20, run21, run22, reduceCtorEq, Nat.reduceEqDiff, Nat.reduceAdd, Nat.reduceSub, Nat.reduceLeDiff, indexAddrA, indexRefA, appendA, strA, Nat.reduceMul, Nat.zero_mul, Nat.reduceMod, Int.reduceEq, Int.reduceLT, Int.reduceLE, Nat.reduceLT, Nat.lt_irrefl, Nat.reduceBEq, tys0, tys1, tys2, tys3, tys4, tys5, tys6, tys7, tys8, tys9, tys10, tys11, Try.ntmps61, Try.results61, hg]
  · have hg' : goodB n d = false := by simpa using hg
    rw [show (AV.tup [AV.sl false (ints (gWk n d).nums), AV.str (gWk n d).word, AV.sl false (ints (gWk n d).low), AV.sl false (ints (gWk n d).high), AV.bool (shortB n d)]) = .tup [.sl false [], .str ⟨#[]⟩, .sl false [], .sl false [], .bool false] by simp [gWk, hg', shortB, noWk, ints]]
    exact Fin.value (Vw.tup (.cons (Vw.nil false) (.cons (Vw.pur (Pur.str _)) (.cons (Vw.nil false) (.cons (Vw.nil false) (.cons (Vw.pur (Pur.bool _)) .nil))))))
  · have hg' : goodB n d = true := by simpa using hg
    obtain ⟨l, y, hl⟩ := wkRun_last (side n d) 21 wk0 (.inl (by omega))
    have hsz := wkRun_size (side n d) 21 wk0
    have hw := walk_ok 80 [.rptr (.agg [.int .i64 n, .int .i64 d]) 0] (side n d) (closWord_ok n d) rfl ok_f80
    have e1 : gWk n d = wkRun (side n d) 21 wk0 := by simp [gWk, hg', wkOf]
    have e2 : shortB n d = (w64 (n * 1048576) == w64 (y * d)) := by simp [shortB, hg', wkOf, hl]
    rw [e1, e2]
    generalize wkRun (side n d) 21 wk0 = j at *
    obtain ⟨nums, word, low, high, x⟩ := j
    simp only at hl hsz
    subst hl
    have h1 : l.length ≤ 1000 := by simp [wk0] at hsz; omega
    have h2 := last_wrap h1
    have h3 : ((l.length : Int) < ((l.length + 1 : Nat) : Int)) := by omega
    refine RunL.lendOwn (ys := [.fn 80 [.rptr (.agg [.int .i64 n, .int .i64 d]) 0]]) rfl rfl rfl ok_f79 rfl rfl hw rfl (by simp [wkL, okO, noOwn, ints, AV.cells, flatB]) ?_
    simp only [run0, run1, run2, run3, run4, run5, run6, run7, run8, run9, run10, run11, run12, run13, run14, run15, run16, run17, run18, run19, run20, run21, run22, reduceCtorEq, Nat.reduceEqDiff, Nat.reduceAdd, Nat.reduceSub, Nat.reduceLeDiff, indexAddrA, indexRefA, appendA, strA, Nat.reduceMul, Nat.zero_mul, Nat.reduceMod, Int.reduceEq, Int.reduceLT, Int.reduceLE, Nat.reduceLT, Nat.lt_irrefl, Nat.reduceBEq, tys0, tys1, tys2, tys3, tys4, tys5, tys6, tys7, tys8, tys9, tys10, tys11, Try.ntmps61, Try.results61, shR, sh1, wkL, wkR, h2, h3, Int.natCast_nonneg, Int.toNat_natCast, ints_at, List.mapIdx_cons, List.mapIdx_nil, viewC]
    refine ⟨by kernel_rfl, Fin.value (Vw.tup (.cons (Vw_ints rfl rfl (by simp)) (.cons (Vw.pur (Pur.str _)) (.cons (Vw_ints rfl rfl rfl) (.cons (Vw_ints rfl rfl rfl) (.cons (Vw.pur (Pur.bool _)) .nil))))))⟩

end Go.Proofs.Ytolfjeedgedblaa
