/-
  Texts joined in one: SH3, SH4.
-/
import Derived.Test.YtllcljajlemmaaaMGameOfD
/-
  Games of short numbers: the program.
-/
namespace Go.Proofs.Ytllcljajlemmaaa
open Go K
set_option linter.unusedSimpArgs false
set_option linter.unusedVariables false
set_option maxHeartbeats 3200000
set_option maxRecDepth 8000

theorem cmpI_lt {a b : Int} : cmpI a b = -1 ↔ a < b := by unfold cmpI; split <;> (try split) <;> omega
theorem cmpI_gt {a b : Int} : cmpI a b = 1 ↔ b < a := by unfold cmpI; split <;> (try split) <;> omega
structure SiN where
  d : List Int
  r : List Int
  a : Int
  b : Int
structure SoN where
  k : Nat
  es : List AV
  S : List Nat
  X : List AObj
def boundN (o : Int) (n : Nat) : Prop := o = -1 ∨ 0 ≤ o ∧ o < n
theorem near_step {s : Int} {l : List Int} {x y : Int} {r : List Int} {n : Nat} {o : Int} {N : Int} (h : nearS s l x (y :: r) n o = N) (hb : boundN o n) (o' : Int)
    (e : o' = if cmpI y x = s ∧ (o < 0 ∨ cmpI y (l.getD o.toNat 0) = -s) then (n : Int) else o) : nearS s l x r (n + 1) o' = N ∧ boundN o' (n + 1) := by
  rw [nearS_cons] at h
  subst e
  refine ⟨h, ?_⟩
  split
  · right; omega
  · rcases hb with h | h
    · exact .inl h
    · right; omega
/-- What a round does with one of the two places. -/
theorem near_cases {s : Int} (l : List Int) (x y : Int) (n : Nat) {o : Int} (hb : boundN o n) (hn : n ≤ l.length) :
    ∃ o', o' = (if cmpI y x = s ∧ (o < 0 ∨ cmpI y (l.getD o.toNat 0) = -s) then (n : Int) else o) ∧
      ((cmpI y x ≠ s ∧ o' = o) ∨ (cmpI y x = s ∧ o = -1 ∧ o' = n) ∨
       ∃ k : Nat, o = k ∧ k < l.length ∧ (ints l)[k]? = some (.int .i64 (l.getD k 0)) ∧ cmpI y x = s ∧ ((cmpI y (l.getD k 0) = -s ∧ o' = n) ∨ (cmpI y (l.getD k 0) ≠ -s ∧ o' = o))) := by
  refine ⟨_, rfl, ?_⟩
  by_cases h1 : cmpI y x = s
  · rcases hb with rfl | ⟨h2, h3⟩
    · exact .inr (.inl ⟨h1, rfl, by rw [if_pos ⟨h1, .inl (by omega)⟩]⟩)
    · obtain ⟨k, rfl⟩ := Int.eq_ofNat_of_zero_le h2
      have hk : k < l.length := by omega
      refine .inr (.inr ⟨k, rfl, hk, ?_, h1, ?_⟩)
      · rw [List.getD_eq_getElem?_getD, List.getElem?_eq_getElem hk]
        simp [ints, hk]
      · rw [Int.toNat_natCast]
        by_cases h4 : cmpI y (l.getD k 0) = -s
        · exact .inl ⟨h4, by rw [if_pos ⟨h1, .inr h4⟩]⟩
        · exact .inr ⟨h4, by rw [if_neg]; rintro ⟨_, h | h⟩; omega; exact h4 h⟩
  · exact .inl ⟨h1, by rw [if_neg (fun h => h1 h.1)]⟩
theorem near_lo (l : List Int) (x y : Int) (n : Nat) {o : Int} (hb : boundN o n) (hn : n ≤ l.length) :
    ∃ o', o' = (if cmpI y x = -1 ∧ (o < 0 ∨ cmpI y (l.getD o.toNat 0) = -(-1)) then (n : Int) else o) ∧
      ((¬ y < x ∧ o' = o) ∨ (y < x ∧ o = -1 ∧ o' = n) ∨
       ∃ k : Nat, o = k ∧ (k : Int) < (l.length : Int) ∧ (ints l)[k]? = some (.int .i64 (l.getD k 0)) ∧ y < x ∧ ((l.getD k 0 < y ∧ o' = n) ∨ (¬ l.getD k 0 < y ∧ o' = o))) := by
  obtain ⟨o', h1, h2⟩ := near_cases (s := -1) l x y n hb hn
  refine ⟨o', h1, ?_⟩
  rw [Int.neg_neg] at h2
  simp only [ne_eq, cmpI_lt, cmpI_gt] at h2
  rcases h2 with h | h | ⟨k, a, b, c, d, e⟩
  · exact .inl h
  · exact .inr (.inl h)
  · exact .inr (.inr ⟨k, a, by omega, c, d, e⟩)
theorem near_hi (l : List Int) (x y : Int) (n : Nat) {o : Int} (hb : boundN o n) (hn : n ≤ l.length) :
    ∃ o', o' = (if cmpI y x = 1 ∧ (o < 0 ∨ cmpI y (l.getD o.toNat 0) = -1) then (n : Int) else o) ∧
      ((¬ x < y ∧ o' = o) ∨ (x < y ∧ o = -1 ∧ o' = n) ∨
       ∃ k : Nat, o = k ∧ (k : Int) < (l.length : Int) ∧ (ints l)[k]? = some (.int .i64 (l.getD k 0)) ∧ x < y ∧ ((y < l.getD k 0 ∧ o' = n) ∨ (¬ y < l.getD k 0 ∧ o' = o))) := by
  obtain ⟨o', h1, h2⟩ := near_cases (s := 1) l x y n hb hn
  refine ⟨o', h1, ?_⟩
  simp only [ne_eq, cmpI_lt, cmpI_gt] at h2
  rcases h2 with h | h | ⟨k, a, b, c, d, e⟩
  · exact .inl h
  · exact .inr (.inl h)
  · exact .inr (.inr ⟨k, a, by omega, c, d, e⟩)
def pL (X : List AObj) (a : Int) : AV := if 0 ≤ a then .ref (X.length + 3) [] 0 1 else nilV
def pR (X : List AObj) (a b : Int) : AV := if 0 ≤ b then .ref (X.length + (if 0 ≤ a then 4 else 3)) [] 0 1 else nilV
def rowN (a : Int) : List AObj := if 0 ≤ a then [.vec 3 1 0 [.int .i64 a]] else []
theorem implShort_ok (n d : Int) : ∃ x M, Ct Try.prog 28 [fr n d] [] (.tup [x, .bool (shortB n d)]) M ∧ ∃ S, OwnP M (shN n d) x S ∧ S.Nodup ∧ M.all okSO = true := by
  have hw := wk_size n d
  cases h : shortB n d
  · refine ⟨nilV, ?_⟩
    apply ex1
    · apply Ct.by_ hmix [1000086, 1000091] Try.func28 rfl
      simp only [run0, run1, run2, run3, run4, run5, run6, run7, run8, run9, run10, run11, run12, run13, run14, run15, run16, run17, run18, run19, run20, run21, run22, reduceCtorEq, Nat.reduceEqDiff, Nat.reduceAdd, Nat.reduceSub, Nat.reduceLeDiff, indexAddrA, indexRefA, appendA, strA, Nat.reduceMul, Nat.zero_mul, Nat.reduceMod, Int.reduceEq, Int.reduceLT, Int.reduceLE, Nat.reduceLT, Nat.lt_irrefl, Nat.reduceBEq, tys0, tys1, tys2, tys3, tys4, tys5, tys6, tys7, tys8, tys9, tys10, tys11, tys12, tys13, tys14, tys15, tys16, tys17, tys18, tys19, tys20, tys21, tys22, tys23, Try.ntmps28, Try.results28, fr]
      refine RunL.callp rfl rfl ok_f71 (wordOf_ok n d) (by first | rfl | simp only [pureL, pureB, Bool.and_self, Bool.and_true, Bool.true_and]) rfl ?_
      simp only [run0, run1, run2, run3, run4, run5, run6, run7, run8, run9, run10, run11, run12, run13, run14, run15, run16, run17, run18, run19, run20, run21, run22, reduceCtorEq, Nat.reduceEqDiff, Nat.reduceAdd, Nat.reduceSub, Nat.reduceLeDiff, indexAddrA, indexRefA, appendA, strA, Nat.reduceMul, Nat.zero_mul, Nat.reduceMod, Int.reduceEq, Int.reduceLT, Int.reduceLE, Nat.reduceLT, Nat.lt_irrefl, Nat.reduceBEq, tys0, tys1, tys2, tys3, tys4, tys5, tys6, tys7, tys8, tys9, tys10, tys11, tys12, tys13, tys14, tys15, tys16, tys17, tys18, tys19, tys20, tys21, tys22, tys23, Try.ntmps28, Try.results28, h]
      exact Fin.keep [] rfl rfl
    · exact ⟨[], .inl ⟨by simp [shN, h], rfl, rfl⟩, List.nodup_nil, keepS_okSO _ _⟩
  obtain ⟨hnl, hu, hrow⟩ := nums_ok h
  have e : shN n d = shG (gWk n d).nums (gWk n d).nums.length := by simp [shN, h]
  rw [e]
  have hwo := wordOf_ok n d
  rw [h] at hwo
  clear hu hrow e
  generalize gWk n d = W at *
  obtain ⟨nums, word, low, high, x0⟩ := W
  simp only at *
  have hl : nums.length ≤ 40 := by omega
  have hsz : ¬ ((40 : Int) < (nums.length : Int)) := by omega
  suffices h : ∃ r M, Ct Try.prog 28 [fr n d] [] r M ∧ (∃ x, r = .tup [x, .bool true] ∧ ∃ S, OwnP M (shG nums nums.length) x S ∧ S.Nodup ∧ M.all okSO = true) by
    obtain ⟨r, M, h1, x, rfl, h2⟩ := h
    exact ⟨x, M, h1, h2⟩
  refine Ct.ex hmix [1000086, 1000091] Try.func28 rfl ?_
  simp only [run0, run1, run2, run3, run4, run5, run6, run7, run8, run9, run10, run11, run12, run13, run14, run15, run16, run17, run18, run19, run20, run21, run22, reduceCtorEq, Nat.reduceEqDiff, Nat.reduceAdd, Nat.reduceSub, Nat.reduceLeDiff, indexAddrA, indexRefA, appendA, strA, Nat.reduceMul, Nat.zero_mul, Nat.reduceMod, Int.reduceEq, Int.reduceLT, Int.reduceLE, Nat.reduceLT, Nat.lt_irrefl, Nat.reduceBEq, tys0, tys1, tys2, tys3, tys4, tys5, tys6, tys7, tys8, tys9, tys10, tys11, tys12, tys13, tys14, tys15, tys16, tys17, tys18, tys19, tys20, tys21, tys22, tys23, Try.ntmps28, Try.results28, fr]
  refine RunL.callp_ex rfl rfl ok_f71 hwo rfl rfl ?_
  simp only [run0, run1, run2, run3, run4, run5, run6, run7, run8, run9, run10, run11, run12, run13, run14, run15, run16, run17, run18, run19, run20, run21, run22, reduceCtorEq, Nat.reduceEqDiff, Nat.reduceAdd, Nat.reduceSub, Nat.reduceLeDiff, indexAddrA, indexRefA, appendA, strA, Nat.reduceMul, Nat.zero_mul, Nat.reduceMod, Int.reduceEq, Int.reduceLT, Int.reduceLE, Nat.reduceLT, Nat.lt_irrefl, Nat.reduceBEq, tys0, tys1, tys2, tys3, tys4, tys5, tys6, tys7, tys8, tys9, tys10, tys11, tys12, tys13, tys14, tys15, tys16, tys17, tys18, tys19, tys20, tys21, tys22, tys23, Try.ntmps28, Try.results28, hsz, ints_length]
  refine AWp.loop_exK (ι := SoN) (fun q => ⟨[.junk, .ptr 0 0, nilV, .bool false, .sl false (ints nums), .junk, .junk, .junk, .junk, .ref 1 [] q.k q.k, .junk, .junk, .junk, .junk, .junk, .junk, .junk, .junk, .junk, .junk, .junk, .junk, .junk, .junk, .junk, .junk, .junk, .junk, .junk, .junk, .junk, .junk, .junk, .sl false (ints nums), .int .i64 nums.length, .int .i64 q.k, .junk, .junk, .junk, .junk, .junk, .junk, .junk, .junk, .junk, .junk, .junk, .junk, .junk, .junk, .junk, .junk, .junk, .junk, .junk, .junk, .junk, .junk, .junk, .junk, .junk, .junk, .junk, .junk, .junk, .junk, .junk, .junk, .junk, .junk, .junk, .junk, .junk, .junk, .junk, .junk, .junk, .junk, .junk, .junk, .junk, .junk, .junk, .junk, .junk, .junk, .junk, .junk, .junk, .junk, .junk, .junk, .junk, .junk, .junk, .junk, .junk, .junk, .junk], .box 42 [.int .i64 n, .int .i64 d] :: .vec 70 2 q.k q.es :: q.X⟩)
    (fun q => q.k ≤ nums.length ∧ OwnPE (.box 42 [.int .i64 n, .int .i64 d] :: .vec 70 2 q.k q.es :: q.X) (shG nums q.k) q.es q.S ∧ q.S.Nodup ∧ ∀ j ∈ q.S, 2 ≤ j) (fun q => nums.length - q.k) ⟨0, [], [], []⟩ ⟨Nat.zero_le _, ⟨rfl, rfl⟩, List.nodup_nil, by simp⟩
    ⟨by simp only [Int.natCast_zero]; repeat constructor, rfl⟩ ?_
  rintro ⟨k, es, S, X⟩ ⟨hk, hO, hN, h2⟩
  simp only at hk hO hN h2
  by_cases hkn : k < nums.length
  case neg =>
    obtain rfl : k = nums.length := by omega
    left
    refine ⟨.tup [.ref 1 [] nums.length nums.length, .bool true], ?_⟩
    apply ex1
    · refine W.sound hmix (E := [1000086, 1000091]) ?_
      simp only [run0, run1, run2, run3, run4, run5, run6, run7, run8, run9, run10, run11, run12, run13, run14, run15, run16, run17, run18, run19, run20, run21, run22, reduceCtorEq, Nat.reduceEqDiff, Nat.reduceAdd, Nat.reduceSub, Nat.reduceLeDiff, indexAddrA, indexRefA, appendA, strA, Nat.reduceMul, Nat.zero_mul, Nat.reduceMod, Int.reduceEq, Int.reduceLT, Int.reduceLE, Nat.reduceLT, Nat.lt_irrefl, Nat.reduceBEq, tys0, tys1, tys2, tys3, tys4, tys5, tys6, tys7, tys8, tys9, tys10, tys11, tys12, tys13, tys14, tys15, tys16, tys17, tys18, tys19, tys20, tys21, tys22, tys23, Try.ntmps28, Try.results28, Int.lt_irrefl]
      exact Fin.keep (1 :: S) rfl rfl
    · refine ⟨_, rfl, 1 :: S, OwnP.keep (.inr ⟨1, nums.length, es, S, by rw [shG_len], rfl, hO, rfl⟩) fun _ h => h, List.nodup_cons.2 ⟨fun h => by have := h2 1 h; omega, hN⟩, keepS_okSO _ _⟩
  right
  have hel := hO.len
  rw [shG_len] at hel
  have hnO := hO.noOwn
  have e1 : (k : Int) < (nums.length : Int) := by omega
  have e2 : (ints nums)[k]? = some (.int .i64 (nums.getD k 0)) := by
    rw [List.getD_eq_getElem?_getD, List.getElem?_eq_getElem hkn]; simp [ints, hkn]
  have htl : (nums.take k).length = k := by rw [List.length_take]; omega
  have e3 : (ints nums).take k = ints (nums.take k) := by simp [ints, List.map_take]
  have e4 : (k : Int) ≤ (nums.length : Int) := by omega
  have e5 : IntKind.i64.wrap ((k : Int) + 1) = ((k + 1 : Nat) : Int) := by rw [i64_id (by omega) (by omega)]; simp
  have e6 : (∀ (y : AV), y ∈ ints nums → y.cells.length = 1) = True := eq_true fun y hy => by
    obtain ⟨p, _, rfl⟩ := List.mem_map.1 hy; rfl
  have e7 : ((0 : Nat) : Int) ≤ (k : Int) := by omega
  generalize hA : near (-1) nums k = A
  generalize hB : near 1 nums k = B
  have f3 : k + 1 ≤ 137438953472 := by omega
  refine ⟨⟨k + 1, es ++ [.agg [pL X A, pR X A B]], S ++ ((if 0 ≤ A then [X.length + 3] else []) ++ (if 0 ≤ B then [X.length + (if 0 ≤ A then 4 else 3)] else [])), X ++ (.box 70 [pL X A, pR X A B] :: (rowN A ++ rowN B))⟩, ⟨by simp only; omega, ?_, ?_, ?_⟩, by simp only; omega, ?_⟩
  · simp only
    rw [shG_succ]
    have hsp : shP nums k = (optL A, optL B) := by rw [← hA, ← hB]; rfl
    rw [hsp]
    have kp : Kept S (.box 42 [.int .i64 n, .int .i64 d] :: .vec 70 2 k es :: X) (.box 42 [.int .i64 n, .int .i64 d] :: .vec 70 2 (k + 1) (es ++ [.agg [pL X A, pR X A B]]) :: (X ++ (.box 70 [pL X A, pR X A B] :: (rowN A ++ rowN B)))) := fun j hj _ _ _ _ hq => by
      obtain ⟨i, rfl⟩ : ∃ i, j = i + 2 := ⟨j - 2, by have := h2 j hj; omega⟩
      simp only [List.getElem?_cons_succ] at hq ⊢
      rw [List.getElem?_append_left (List.getElem?_eq_some_iff.1 hq).1]; exact hq
    refine (hO.mono kp).snoc ?_ ?_
    · unfold pL optL rowN
      split
      · refine .inr ⟨X.length + 3, 0, rfl, ?_, rfl⟩
        simp only [List.getElem?_cons_succ]
        rw [show X.length + 1 = X.length + (0 + 1) by rfl, getXn]
        rfl
      · exact .inl ⟨rfl, rfl, rfl⟩
    · unfold pR optL
      split
      · refine .inr ⟨_, 0, rfl, ?_, rfl⟩
        by_cases hA0 : 0 ≤ A
        · simp only [hA0, if_true, rowN, List.getElem?_cons_succ]
          rw [show X.length + 2 = X.length + (0 + 2) by rfl, getXn]
          rename_i hB0
          simp [hB0, ints]
        · simp only [hA0, if_false, rowN, List.getElem?_cons_succ]
          rw [show X.length + 1 = X.length + (0 + 1) by rfl, getXn]
          rename_i hB0
          simp [hB0, ints]
      · exact .inl ⟨rfl, rfl, rfl⟩
  · have hlt : ∀ j ∈ S, j < X.length + 2 := fun j hj => by
      obtain ⟨_, _, _, _, hq⟩ := hO.lt j hj
      have := (List.getElem?_eq_some_iff.1 hq).1
      simpa using this
    simp only
    refine List.nodup_append.2 ⟨hN, ?_, fun u hu v hv => ?_⟩
    · by_cases hA0 : 0 ≤ A <;> by_cases hB0 : 0 ≤ B <;> simp [hA0, hB0]
    · have := hlt u hu
      by_cases hA0 : 0 ≤ A <;> by_cases hB0 : 0 ≤ B <;> simp [hA0, hB0] at hv <;> omega
  · simp only
    intro j hj
    rcases List.mem_append.1 hj with hj | hj
    · exact h2 j hj
    · by_cases hA0 : 0 ≤ A <;> by_cases hB0 : 0 ≤ B <;> simp [hA0, hB0] at hj <;> omega
  refine W.sound hmix (E := [1000086, 1000091]) ?_
  simp only [run0, run1, run2, run3, run4, run5, run6, run7, run8, run9, run10, run11, run12, run13, run14, run15, run16, run17, run18, run19, run20, run21, run22, reduceCtorEq, Nat.reduceEqDiff, Nat.reduceAdd, Nat.reduceSub, Nat.reduceLeDiff, indexAddrA, indexRefA, appendA, strA, Nat.reduceMul, Nat.zero_mul, Nat.reduceMod, Int.reduceEq, Int.reduceLT, Int.reduceLE, Nat.reduceLT, Nat.lt_irrefl, Nat.reduceBEq, tys0, tys1, tys2, tys3, tys4, tys5, tys6, tys7, tys8, tys9, tys10, tys11, tys12, tys13, tys14, tys15, tys16, tys17, tys18, tys19, tys20, tys21, tys22, tys23, Try.ntmps28, Try.results28, e1, e2, e3, e4, e6, e7, htl, ints_length, Int.toNat_natCast, Int.natCast_nonneg]
  generalize hx : nums.getD k 0 = x at *
  refine AWp.loop_inv (ι := SiN) (fun q => ⟨[.junk, .ptr 0 0, nilV, .bool false, .sl false (ints nums), .junk, .junk, .junk, .junk, .ref 1 [] k k, .int .i64 k, .int .i64 x, .int .i64 q.a, .int .i64 q.b, .junk, .junk, .junk, .junk, .junk, .junk, .junk, .junk, .junk, .junk, .junk, .junk, .junk, .junk, .junk, .junk, .junk, .junk, .junk, .sl false (ints nums), .int .i64 nums.length, .int .i64 k, .junk, .junk, .junk, .junk, .junk, .junk, .sl false (ints (nums.take k)), .int .i64 k, .int .i64 q.d.length, .junk, .junk, .junk, .junk, .junk, .junk, .junk, .junk, .junk, .junk, .junk, .junk, .junk, .junk, .junk, .junk, .junk, .junk, .junk, .junk, .junk, .junk, .junk, .junk, .junk, .junk, .junk, .junk, .junk, .junk, .junk, .junk, .junk, .junk, .junk, .junk, .junk, .junk, .junk, .junk, .junk, .junk, .junk, .junk, .junk, .junk, .junk, .junk, .junk, .junk, .junk, .junk, .junk, .junk], .box 42 [.int .i64 n, .int .i64 d] :: .vec 70 2 k es :: X⟩)
    (fun q => nums.take k = q.d ++ q.r ∧ (nearS (-1) nums x q.r q.d.length q.a = A ∧ boundN q.a q.d.length) ∧ (nearS 1 nums x q.r q.d.length q.b = B ∧ boundN q.b q.d.length)) (fun q => q.r.length) ⟨[], nums.take k, -1, -1⟩ ⟨rfl, ⟨by rw [← hA]; unfold near; rw [hx]; rfl, .inl rfl⟩, ⟨by rw [← hB]; unfold near; rw [hx]; rfl, .inl rfl⟩⟩ ⟨by simp only [List.length_nil, Int.natCast_zero]; repeat constructor, rfl⟩ ?_
  rintro ⟨d', r, a, b⟩ ⟨ha, ⟨na, ba⟩, ⟨nb, bb⟩⟩
  refine W.sound hmix (E := [1000086, 1000091]) ?_
  simp only at ha na ba nb bb
  have hda : k = d'.length + r.length := by rw [← htl, ha]; simp
  cases r with
  | nil =>
    have k1 : ¬ ((d'.length : Int) < (k : Int)) := by simp at hda; omega
    simp only [nearS] at na nb
    subst na nb
    unfold pL pR rowN
    by_cases hA0 : 0 ≤ a <;> by_cases hB0 : 0 ≤ b
    all_goals
      simp only [hA0, hB0, if_true, if_false]
      simp only [run0, run1, run2, run3, run4, run5, run6, run7, run8, run9, run10, run11, run12, run13, run14, run15, run16, run17, run18, run19, run20, run21, run22, reduceCtorEq, Nat.reduceEqDiff, Nat.reduceAdd, Nat.reduceSub, Nat.reduceLeDiff, indexAddrA, indexRefA, appendA, strA, Nat.reduceMul, Nat.zero_mul, Nat.reduceMod, Int.reduceEq, Int.reduceLT, Int.reduceLE, Nat.reduceLT, Nat.lt_irrefl, Nat.reduceBEq, tys0, tys1, tys2, tys3, tys4, tys5, tys6, tys7, tys8, tys9, tys10, tys11, tys12, tys13, tys14, tys15, tys16, tys17, tys18, tys19, tys20, tys21, tys22, tys23, Try.ntmps28, Try.results28, k1, hA0, hB0, e5, f3, hnO, hel, nilV, List.getElem?_append_right, Nat.le_refl, Nat.sub_self, getXn]
      repeat constructor
  | cons y r =>
    simp only [List.length_cons] at hda
    have k1 : (d'.length : Int) < (k : Int) := by omega
    have k2 : (ints (nums.take k))[d'.length]? = some (.int .i64 y) := by rw [ha]; simp
    have k5 : IntKind.i64.wrap ((d'.length : Int) + 1) = ((d' ++ [y]).length : Int) := by rw [i64_id (by omega) (by omega)]; simp
    have hdl : (d' ++ [y]).length = d'.length + 1 := by simp
    obtain ⟨a', ea, ca⟩ := near_lo nums x y d'.length ba (by omega)
    obtain ⟨b', eb, cb⟩ := near_hi nums x y d'.length bb (by omega)
    obtain ⟨na', ba'⟩ := near_step na ba a' ea
    obtain ⟨nb', bb'⟩ := near_step nb bb b' eb
    have fin : ∀ (T : Prop), (nums.take k = (d' ++ [y]) ++ r ∧ (nearS (-1) nums x r (d' ++ [y]).length a' = A ∧ boundN a' (d' ++ [y]).length) ∧ (nearS 1 nums x r (d' ++ [y]).length b' = B ∧ boundN b' (d' ++ [y]).length)) := fun _ => by
      rw [hdl]; exact ⟨by simp [ha], ⟨na', ba'⟩, ⟨nb', bb'⟩⟩
    have fin := fin True
    clear ea eb na' nb' ba' bb' ba bb na nb
    rcases ca with ⟨aq, ae⟩ | ⟨aq, ao, ae⟩ | ⟨au, ao, a1, ag, aq, ⟨az, ae⟩ | ⟨az, ae⟩⟩
    · rcases cb with ⟨bq, be⟩ | ⟨bq, bo, be⟩ | ⟨bu, bo, b1, bg, bq, ⟨bz, be⟩ | ⟨bz, be⟩⟩
      · subst ae
        subst be
        simp only [run0, run1, run2, run3, run4, run5, run6, run7, run8, run9, run10, run11, run12, run13, run14, run15, run16, run17, run18, run19, run20, run21, run22, reduceCtorEq, Nat.reduceEqDiff, Nat.reduceAdd, Nat.reduceSub, Nat.reduceLeDiff, indexAddrA, indexRefA, appendA, strA, Nat.reduceMul, Nat.zero_mul, Nat.reduceMod, Int.reduceEq, Int.reduceLT, Int.reduceLE, Nat.reduceLT, Nat.lt_irrefl, Nat.reduceBEq, tys0, tys1, tys2, tys3, tys4, tys5, tys6, tys7, tys8, tys9, tys10, tys11, tys12, tys13, tys14, tys15, tys16, tys17, tys18, tys19, tys20, tys21, tys22, tys23, Try.ntmps28, Try.results28, k1, k2, k5, aq, bq, ints_length, Int.toNat_natCast, Int.natCast_nonneg]
        exact ⟨⟨d' ++ [y], r, _, _⟩, fin, by simp, by simp only [List.length_append, List.length_cons, List.length_nil]; repeat constructor⟩
      · subst ae
        subst bo be
        simp only [run0, run1, run2, run3, run4, run5, run6, run7, run8, run9, run10, run11, run12, run13, run14, run15, run16, run17, run18, run19, run20, run21, run22, reduceCtorEq, Nat.reduceEqDiff, Nat.reduceAdd, Nat.reduceSub, Nat.reduceLeDiff, indexAddrA, indexRefA, appendA, strA, Nat.reduceMul, Nat.zero_mul, Nat.reduceMod, Int.reduceEq, Int.reduceLT, Int.reduceLE, Nat.reduceLT, Nat.lt_irrefl, Nat.reduceBEq, tys0, tys1, tys2, tys3, tys4, tys5, tys6, tys7, tys8, tys9, tys10, tys11, tys12, tys13, tys14, tys15, tys16, tys17, tys18, tys19, tys20, tys21, tys22, tys23, Try.ntmps28, Try.results28, k1, k2, k5, aq, bq, ints_length, Int.toNat_natCast, Int.natCast_nonneg]
        exact ⟨⟨d' ++ [y], r, _, _⟩, fin, by simp, by simp only [List.length_append, List.length_cons, List.length_nil]; repeat constructor⟩
      · subst ae
        subst bo be
        have bn : ¬ ((bu : Nat) : Int) < 0 := by omega
        simp only [run0, run1, run2, run3, run4, run5, run6, run7, run8, run9, run10, run11, run12, run13, run14, run15, run16, run17, run18, run19, run20, run21, run22, reduceCtorEq, Nat.reduceEqDiff, Nat.reduceAdd, Nat.reduceSub, Nat.reduceLeDiff, indexAddrA, indexRefA, appendA, strA, Nat.reduceMul, Nat.zero_mul, Nat.reduceMod, Int.reduceEq, Int.reduceLT, Int.reduceLE, Nat.reduceLT, Nat.lt_irrefl, Nat.reduceBEq, tys0, tys1, tys2, tys3, tys4, tys5, tys6, tys7, tys8, tys9, tys10, tys11, tys12, tys13, tys14, tys15, tys16, tys17, tys18, tys19, tys20, tys21, tys22, tys23, Try.ntmps28, Try.results28, k1, k2, k5, aq, b1, bg, bq, bz, bn, ints_length, Int.toNat_natCast, Int.natCast_nonneg]
        exact ⟨⟨d' ++ [y], r, _, _⟩, fin, by simp, by simp only [List.length_append, List.length_cons, List.length_nil]; repeat constructor⟩
      · subst ae
        subst bo be
        have bn : ¬ ((bu : Nat) : Int) < 0 := by omega
        simp only [run0, run1, run2, run3, run4, run5, run6, run7, run8, run9, run10, run11, run12, run13, run14, run15, run16, run17, run18, run19, run20, run21, run22, reduceCtorEq, Nat.reduceEqDiff, Nat.reduceAdd, Nat.reduceSub, Nat.reduceLeDiff, indexAddrA, indexRefA, appendA, strA, Nat.reduceMul, Nat.zero_mul, Nat.reduceMod, Int.reduceEq, Int.reduceLT, Int.reduceLE, Nat.reduceLT, Nat.lt_irrefl, Nat.reduceBEq, tys0, tys1, tys2, tys3, tys4, tys5, tys6, tys7, tys8, tys9, tys10, tys11, tys12, tys13, tys14, tys15, tys16, tys17, tys18, tys19, tys20, tys21, tys22, tys23, Try.ntmps28, Try.results28, k1, k2, k5, aq, b1, bg, bq, bz, bn, ints_length, Int.toNat_natCast, Int.natCast_nonneg]
        exact ⟨⟨d' ++ [y], r, _, _⟩, fin, by simp, by simp only [List.length_append, List.length_cons, List.length_nil]; repeat constructor⟩
    · rcases cb with ⟨bq, be⟩ | ⟨bq, bo, be⟩ | ⟨bu, bo, b1, bg, bq, ⟨bz, be⟩ | ⟨bz, be⟩⟩
      · subst ao ae
        subst be
        simp only [run0, run1, run2, run3, run4, run5, run6, run7, run8, run9, run10, run11, run12, run13, run14, run15, run16, run17, run18, run19, run20, run21, run22, reduceCtorEq, Nat.reduceEqDiff, Nat.reduceAdd, Nat.reduceSub, Nat.reduceLeDiff, indexAddrA, indexRefA, appendA, strA, Nat.reduceMul, Nat.zero_mul, Nat.reduceMod, Int.reduceEq, Int.reduceLT, Int.reduceLE, Nat.reduceLT, Nat.lt_irrefl, Nat.reduceBEq, tys0, tys1, tys2, tys3, tys4, tys5, tys6, tys7, tys8, tys9, tys10, tys11, tys12, tys13, tys14, tys15, tys16, tys17, tys18, tys19, tys20, tys21, tys22, tys23, Try.ntmps28, Try.results28, k1, k2, k5, aq, bq, ints_length, Int.toNat_natCast, Int.natCast_nonneg]
        exact ⟨⟨d' ++ [y], r, _, _⟩, fin, by simp, by simp only [List.length_append, List.length_cons, List.length_nil]; repeat constructor⟩
      · subst ao ae
        subst bo be
        simp only [run0, run1, run2, run3, run4, run5, run6, run7, run8, run9, run10, run11, run12, run13, run14, run15, run16, run17, run18, run19, run20, run21, run22, reduceCtorEq, Nat.reduceEqDiff, Nat.reduceAdd, Nat.reduceSub, Nat.reduceLeDiff, indexAddrA, indexRefA, appendA, strA, Nat.reduceMul, Nat.zero_mul, Nat.reduceMod, Int.reduceEq, Int.reduceLT, Int.reduceLE, Nat.reduceLT, Nat.lt_irrefl, Nat.reduceBEq, tys0, tys1, tys2, tys3, tys4, tys5, tys6, tys7, tys8, tys9, tys10, tys11, tys12, tys13, tys14, tys15, tys16, tys17, tys18, tys19, tys20, tys21, tys22, tys23, Try.ntmps28, Try.results28, k1, k2, k5, aq, bq, ints_length, Int.toNat_natCast, Int.natCast_nonneg]
        exact ⟨⟨d' ++ [y], r, _, _⟩, fin, by simp, by simp only [List.length_append, List.length_cons, List.length_nil]; repeat constructor⟩
      · subst ao ae
        subst bo be
        have bn : ¬ ((bu : Nat) : Int) < 0 := by omega
        simp only [run0, run1, run2, run3, run4, run5, run6, run7, run8, run9, run10, run11, run12, run13, run14, run15, run16, run17, run18, run19, run20, run21, run22, reduceCtorEq, Nat.reduceEqDiff, Nat.reduceAdd, Nat.reduceSub, Nat.reduceLeDiff, indexAddrA, indexRefA, appendA, strA, Nat.reduceMul, Nat.zero_mul, Nat.reduceMod, Int.reduceEq, Int.reduceLT, Int.reduceLE, Nat.reduceLT, Nat.lt_irrefl, Nat.reduceBEq, tys0, tys1, tys2, tys3, tys4, tys5, tys6, tys7, tys8, tys9, tys10, tys11, tys12, tys13, tys14, tys15, tys16, tys17, tys18, tys19, tys20, tys21, tys22, tys23, Try.ntmps28, Try.results28, k1, k2, k5, aq, b1, bg, bq, bz, bn, ints_length, Int.toNat_natCast, Int.natCast_nonneg]
        exact ⟨⟨d' ++ [y], r, _, _⟩, fin, by simp, by simp only [List.length_append, List.length_cons, List.length_nil]; repeat constructor⟩
      · subst ao ae
        subst bo be
        have bn : ¬ ((bu : Nat) : Int) < 0 := by omega
        simp only [run0, run1, run2, run3, run4, run5, run6, run7, run8, run9, run10, run11, run12, run13, run14, run15, run16, run17, run18, run19, run20, run21, run22, reduceCtorEq, Nat.reduceEqDiff, Nat.reduceAdd, Nat.reduceSub, Nat.reduceLeDiff, indexAddrA, indexRefA, appendA, strA, Nat.reduceMul, Nat.zero_mul, Nat.reduceMod, Int.reduceEq, Int.reduceLT, Int.reduceLE, Nat.reduceLT, Nat.lt_irrefl, Nat.reduceBEq, tys0, tys1, tys2, tys3, tys4, tys5, tys6, tys7, tys8, tys9, tys10, tys11, tys12, tys13, tys14, tys15, tys16, tys17, tys18, tys19, tys20, tys21, tys22, tys23, Try.ntmps28, Try.results28, k1, k2, k5, aq, b1, bg, bq, bz, bn, ints_length, Int.toNat_natCast, Int.natCast_nonneg]
        exact ⟨⟨d' ++ [y], r, _, _⟩, fin, by simp, by simp only [List.length_append, List.length_cons, List.length_nil]; repeat constructor⟩
    · rcases cb with ⟨bq, be⟩ | ⟨bq, bo, be⟩ | ⟨bu, bo, b1, bg, bq, ⟨bz, be⟩ | ⟨bz, be⟩⟩
      · subst ao ae
        have an : ¬ ((au : Nat) : Int) < 0 := by omega
        subst be
        simp only [run0, run1, run2, run3, run4, run5, run6, run7, run8, run9, run10, run11, run12, run13, run14, run15, run16, run17, run18, run19, run20, run21, run22, reduceCtorEq, Nat.reduceEqDiff, Nat.reduceAdd, Nat.reduceSub, Nat.reduceLeDiff, indexAddrA, indexRefA, appendA, strA, Nat.reduceMul, Nat.zero_mul, Nat.reduceMod, Int.reduceEq, Int.reduceLT, Int.reduceLE, Nat.reduceLT, Nat.lt_irrefl, Nat.reduceBEq, tys0, tys1, tys2, tys3, tys4, tys5, tys6, tys7, tys8, tys9, tys10, tys11, tys12, tys13, tys14, tys15, tys16, tys17, tys18, tys19, tys20, tys21, tys22, tys23, Try.ntmps28, Try.results28, k1, k2, k5, a1, ag, aq, az, an, bq, ints_length, Int.toNat_natCast, Int.natCast_nonneg]
        exact ⟨⟨d' ++ [y], r, _, _⟩, fin, by simp, by simp only [List.length_append, List.length_cons, List.length_nil]; repeat constructor⟩
      · subst ao ae
        have an : ¬ ((au : Nat) : Int) < 0 := by omega
        subst bo be
        simp only [run0, run1, run2, run3, run4, run5, run6, run7, run8, run9, run10, run11, run12, run13, run14, run15, run16, run17, run18, run19, run20, run21, run22, reduceCtorEq, Nat.reduceEqDiff, Nat.reduceAdd, Nat.reduceSub, Nat.reduceLeDiff, indexAddrA, indexRefA, appendA, strA, Nat.reduceMul, Nat.zero_mul, Nat.reduceMod, Int.reduceEq, Int.reduceLT, Int.reduceLE, Nat.reduceLT, Nat.lt_irrefl, Nat.reduceBEq, tys0, tys1, tys2, tys3, tys4, tys5, tys6, tys7, tys8, tys9, tys10, tys11, tys12, tys13, tys14, tys15, tys16, tys17, tys18, tys19, tys20, tys21, tys22, tys23, Try.ntmps28, Try.results28, k1, k2, k5, a1, ag, aq, az, an, bq, ints_length, Int.toNat_natCast, Int.natCast_nonneg]
        exact ⟨⟨d' ++ [y], r, _, _⟩, fin, by simp, by simp only [List.length_append, List.length_cons, List.length_nil]; repeat constructor⟩
      · subst ao ae
        have an : ¬ ((au : Nat) : Int) < 0 := by omega
        subst bo be
        have bn : ¬ ((bu : Nat) : Int) < 0 := by omega
        simp only [run0, run1, run2, run3, run4, run5, run6, run7, run8, run9, run10, run11, run12, run13, run14, run15, run16, run17, run18, run19, run20, run21, run22, reduceCtorEq, Nat.reduceEqDiff, Nat.reduceAdd, Nat.reduceSub, Nat.reduceLeDiff, indexAddrA, indexRefA, appendA, strA, Nat.reduceMul, Nat.zero_mul, Nat.reduceMod, Int.reduceEq, Int.reduceLT, Int.reduceLE, Nat.reduceLT, Nat.lt_irrefl, Nat.reduceBEq, tys0, tys1, tys2, tys3, tys4, tys5, tys6, tys7, tys8, tys9, tys10, tys11, tys12, tys13, tys14, tys15, tys16, tys17, tys18, tys19, tys20, tys21, tys22, tys23, Try.ntmps28, Try.results28, k1, k2, k5, a1, ag, aq, az, an, b1, bg, bq, bz, bn, ints_length, Int.toNat_natCast, Int.natCast_nonneg]
        exact ⟨⟨d' ++ [y], r, _, _⟩, fin, by simp, by simp only [List.length_append, List.length_cons, List.length_nil]; repeat constructor⟩
      · subst ao ae
        have an : ¬ ((au : Nat) : Int) < 0 := by omega
        subst bo be
        have bn : ¬ ((bu : Nat) : Int) < 0 := by omega
        simp only [run0, run1, run2, run3, run4, run5, run6, run7, run8, run9, run10, run11, run12, run13, run14, run15, run16, run17, run18, run19, run20, run21, run22, reduceCtorEq, Nat.reduceEqDiff, Nat.reduceAdd, Nat.reduceSub, Nat.reduceLeDiff, indexAddrA, indexRefA, appendA, strA, Nat.reduceMul, Nat.zero_mul, Nat.reduceMod, Int.reduceEq, Int.reduceLT, Int.reduceLE, Nat.reduceLT, Nat.lt_irrefl, Nat.reduceBEq, tys0, tys1, tys2, tys3, tys4, tys5, tys6, tys7, tys8, tys9, tys10, tys11, tys12, tys13, tys14, tys15, tys16, tys17, tys18, tys19, tys20, tys21, tys22, tys23, Try.ntmps28, Try.results28, k1, k2, k5, a1, ag, aq, az, an, b1, bg, bq, bz, bn, ints_length, Int.toNat_natCast, Int.natCast_nonneg]
        exact ⟨⟨d' ++ [y], r, _, _⟩, fin, by simp, by simp only [List.length_append, List.length_cons, List.length_nil]; repeat constructor⟩
    · rcases cb with ⟨bq, be⟩ | ⟨bq, bo, be⟩ | ⟨bu, bo, b1, bg, bq, ⟨bz, be⟩ | ⟨bz, be⟩⟩
      · subst ao ae
        have an : ¬ ((au : Nat) : Int) < 0 := by omega
        subst be
        simp only [run0, run1, run2, run3, run4, run5, run6, run7, run8, run9, run10, run11, run12, run13, run14, run15, run16, run17, run18, run19, run20, run21, run22, reduceCtorEq, Nat.reduceEqDiff, Nat.reduceAdd, Nat.reduceSub, Nat.reduceLeDiff, indexAddrA, indexRefA, appendA, strA, Nat.reduceMul, Nat.zero_mul, Nat.reduceMod, Int.reduceEq, Int.reduceLT, Int.reduceLE, Nat.reduceLT, Nat.lt_irrefl, Nat.reduceBEq, tys0, tys1, tys2, tys3, tys4, tys5, tys6, tys7, tys8, tys9, tys10, tys11, tys12, tys13, tys14, tys15, tys16, tys17, tys18, tys19, tys20, tys21, tys22, tys23, Try.ntmps28, Try.results28, k1, k2, k5, a1, ag, aq, az, an, bq, ints_length, Int.toNat_natCast, Int.natCast_nonneg]
        exact ⟨⟨d' ++ [y], r, _, _⟩, fin, by simp, by simp only [List.length_append, List.length_cons, List.length_nil]; repeat constructor⟩
      · subst ao ae
        have an : ¬ ((au : Nat) : Int) < 0 := by omega
        subst bo be
        simp only [run0, run1, run2, run3, run4, run5, run6, run7, run8, run9, run10, run11, run12, run13, run14, run15, run16, run17, run18, run19, run20, run21, run22, reduceCtorEq, Nat.reduceEqDiff, Nat.reduceAdd, Nat.reduceSub, Nat.reduceLeDiff, indexAddrA, indexRefA, appendA, strA, Nat.reduceMul, Nat.zero_mul, Nat.reduceMod, Int.reduceEq, Int.reduceLT, Int.reduceLE, Nat.reduceLT, Nat.lt_irrefl, Nat.reduceBEq, tys0, tys1, tys2, tys3, tys4, tys5, tys6, tys7, tys8, tys9, tys10, tys11, tys12, tys13, tys14, tys15, tys16, tys17, tys18, tys19, tys20, tys21, tys22, tys23, Try.ntmps28, Try.results28, k1, k2, k5, a1, ag, aq, az, an, bq, ints_length, Int.toNat_natCast, Int.natCast_nonneg]
        exact ⟨⟨d' ++ [y], r, _, _⟩, fin, by simp, by simp only [List.length_append, List.length_cons, List.length_nil]; repeat constructor⟩
      · subst ao ae
        have an : ¬ ((au : Nat) : Int) < 0 := by omega
        subst bo be
        have bn : ¬ ((bu : Nat) : Int) < 0 := by omega
        simp only [run0, run1, run2, run3, run4, run5, run6, run7, run8, run9, run10, run11, run12, run13, run14, run15, run16, run17, run18, run19, run20, run21, run22, reduceCtorEq, Nat.reduceEqDiff, Nat.reduceAdd, Nat.reduceSub, Nat.reduceLeDiff, indexAddrA, indexRefA, appendA, strA, Nat.reduceMul, Nat.zero_mul, Nat.reduceMod, Int.reduceEq, Int.reduceLT, Int.reduceLE, Nat.reduceLT, Nat.lt_irrefl, Nat.reduceBEq, tys0, tys1, tys2, tys3, tys4, tys5, tys6, tys7, tys8, tys9, tys10, tys11, tys12, tys13, tys14, tys15, tys16, tys17, tys18, tys19, tys20, tys21, tys22, tys23, Try.ntmps28, Try.results28, k1, k2, k5, a1, ag, aq, az, an, b1, bg, bq, bz, bn, ints_length, Int.toNat_natCast, Int.natCast_nonneg]
        exact ⟨⟨d' ++ [y], r, _, _⟩, fin, by simp, by simp only [List.length_append, List.length_cons, List.length_nil]; repeat constructor⟩
      · subst ao ae
        have an : ¬ ((au : Nat) : Int) < 0 := by omega
        subst bo be
        have bn : ¬ ((bu : Nat) : Int) < 0 := by omega
        simp only [run0, run1, run2, run3, run4, run5, run6, run7, run8, run9, run10, run11, run12, run13, run14, run15, run16, run17, run18, run19, run20, run21, run22, reduceCtorEq, Nat.reduceEqDiff, Nat.reduceAdd, Nat.reduceSub, Nat.reduceLeDiff, indexAddrA, indexRefA, appendA, strA, Nat.reduceMul, Nat.zero_mul, Nat.reduceMod, Int.reduceEq, Int.reduceLT, Int.reduceLE, Nat.reduceLT, Nat.lt_irrefl, Nat.reduceBEq, tys0, tys1, tys2, tys3, tys4, tys5, tys6, tys7, tys8, tys9, tys10, tys11, tys12, tys13, tys14, tys15, tys16, tys17, tys18, tys19, tys20, tys21, tys22, tys23, Try.ntmps28, Try.results28, k1, k2, k5, a1, ag, aq, az, an, b1, bg, bq, bz, bn, ints_length, Int.toNat_natCast, Int.natCast_nonneg]
        exact ⟨⟨d' ++ [y], r, _, _⟩, fin, by simp, by simp only [List.length_append, List.length_cons, List.length_nil]; repeat constructor⟩

end Go.Proofs.Ytllcljajlemmaaa
/-
  Games of short numbers: the law.
-/
namespace Go.Proofs.Ytllcljajlemmaaa
open Go K
set_option linter.unusedSimpArgs false
set_option linter.unusedVariables false
set_option maxHeartbeats 3200000
set_option maxRecDepth 8000

theorem nodup_add {S : List Nat} (k : Nat) (h : S.Nodup) : (S.map (· + k)).Nodup := by
  unfold List.Nodup at *
  rw [List.pairwise_map]
  exact h.imp fun h1 h2 => h1 (by omega)
theorem shN_small (n d : Int) : (shN n d).length ≤ 1000 ∧ ∀ p ∈ shN n d, psz p ≤ 1000 := by
  unfold shN
  split
  · rename_i h
    have hw := wk_size n d
    obtain ⟨h1, _, _⟩ := nums_ok h
    refine ⟨by rw [shG_len]; omega, fun p hp => ?_⟩
    obtain ⟨i, _, rfl⟩ := List.mem_map.1 hp
    have ho : ∀ o, (optL o).length ≤ 1 := fun o => by unfold optL; split <;> simp
    have := ho (near (-1) (gWk n d).nums i)
    have := ho (near 1 (gWk n d).nums i)
    show (optL _).length + (optL _).length ≤ 1000
    omega
  · exact ⟨by simp, fun p hp => by cases hp⟩
theorem FnExactGameOfShort_ok {a0 : AV} (h0 : IsOf Try.prog 40 a0) : Ct Try.prog 7 [a0] [] (.bool true) [] := by
  obtain ⟨n, d, rfl, _, _⟩ := laws_isFr h0
  have hsp := specShort_ok n d
  obtain ⟨g, M1, hi, S1, ho1, hN1, hM1⟩ := implShort_ok n d
  obtain ⟨hlen, hps⟩ := shN_small n d
  have hp := posL_pure (shN n d)
  generalize shN n d = R at *
  generalize shortB n d = ok at *
  have hsm : ∀ p ∈ R, smallP p := fun p hp => by have := hps p hp; unfold psz at this; exact ⟨by omega, by omega⟩
  simp only [fr] at hsp hi
  generalize hM1' : M1.map (shO 1) = N1 at *
  have og : OwnP (.box 40 [.int .i64 n, .int .i64 d] :: N1) R (shA 1 g) (S1.map (· + 1)) :=
    OwnP.sh (fun id => by simp [← hM1']) ho1
  have hnT : (S1.map (· + 1)).Nodup := nodup_add 1 hN1
  generalize hG : shA 1 g = G0 at *
  generalize hS1 : S1.map (· + 1) = T1 at *
  obtain ⟨L2, hc2, og2, hf2, hl2⟩ := markPositionS_ok R G0 T1 (.box 40 [.int .i64 n, .int .i64 d] :: N1) 1 og hnT hlen hps (by omega) (by omega)
  have p0 : L2[0]? = some (.box 40 [.int .i64 n, .int .i64 d]) := by
    rw [hf2 0 (fun q => by obtain ⟨_, _, _, _, h⟩ := og.lt 0 q; cases h)]; rfl
  have oh : OwnP (L2 ++ M1.map (shO L2.length)) R (shA L2.length g) (S1.map (· + L2.length)) := OwnP.sh (fun id => by
    rw [List.getElem?_append_right (by omega), List.getElem?_map]; congr 2; omega) ho1
  have e4 : ¬ (1 + (gsz R : Int) < 0) := by omega
  refine Ct.by_ hmix [] Try.func7 rfl ?_
  simp only [run0, run1, run2, run3, run4, run5, run6, run7, run8, run9, run10, run11, run12, run13, run14, run15, run16, run17, run18, run19, run20, run21, run22, reduceCtorEq, Nat.reduceEqDiff, Nat.reduceAdd, Nat.reduceSub, Nat.reduceLeDiff, indexAddrA, indexRefA, appendA, strA, Nat.reduceMul, Nat.zero_mul, Nat.reduceMod, Int.reduceEq, Int.reduceLT, Int.reduceLE, Nat.reduceLT, Nat.lt_irrefl, Nat.reduceBEq, tys0, tys1, tys2, tys3, tys4, tys5, tys6, tys7, tys8, tys9, tys10, tys11, tys12, tys13, tys14, tys15, tys16, tys17, tys18, tys19, tys20, tys21, tys22, tys23, Try.ntmps7, Try.results7, fr]
  refine RunL.callp rfl rfl ok_f27 (toFraction_ok _ _) (by first | rfl | simp only [pureL, pureB, Bool.and_self, Bool.and_true, Bool.true_and]) rfl ?_
  simp only [run0, run1, run2, run3, run4, run5, run6, run7, run8, run9, run10, run11, run12, run13, run14, run15, run16, run17, run18, run19, run20, run21, run22, reduceCtorEq, Nat.reduceEqDiff, Nat.reduceAdd, Nat.reduceSub, Nat.reduceLeDiff, indexAddrA, indexRefA, appendA, strA, Nat.reduceMul, Nat.zero_mul, Nat.reduceMod, Int.reduceEq, Int.reduceLT, Int.reduceLE, Nat.reduceLT, Nat.lt_irrefl, Nat.reduceBEq, tys0, tys1, tys2, tys3, tys4, tys5, tys6, tys7, tys8, tys9, tys10, tys11, tys12, tys13, tys14, tys15, tys16, tys17, tys18, tys19, tys20, tys21, tys22, tys23, Try.ntmps7, Try.results7, fr]
  refine RunL.callp rfl rfl ok_f26 hsp (by rfl) rfl ?_
  simp only [run0, run1, run2, run3, run4, run5, run6, run7, run8, run9, run10, run11, run12, run13, run14, run15, run16, run17, run18, run19, run20, run21, run22, reduceCtorEq, Nat.reduceEqDiff, Nat.reduceAdd, Nat.reduceSub, Nat.reduceLeDiff, indexAddrA, indexRefA, appendA, strA, Nat.reduceMul, Nat.zero_mul, Nat.reduceMod, Int.reduceEq, Int.reduceLT, Int.reduceLE, Nat.reduceLT, Nat.lt_irrefl, Nat.reduceBEq, tys0, tys1, tys2, tys3, tys4, tys5, tys6, tys7, tys8, tys9, tys10, tys11, tys12, tys13, tys14, tys15, tys16, tys17, tys18, tys19, tys20, tys21, tys22, tys23, Try.ntmps7, Try.results7, fr]
  refine RunL.callp rfl rfl ok_f27 (toFraction_ok _ _) (by first | rfl | simp only [pureL, pureB, Bool.and_self, Bool.and_true, Bool.true_and]) rfl ?_
  simp only [run0, run1, run2, run3, run4, run5, run6, run7, run8, run9, run10, run11, run12, run13, run14, run15, run16, run17, run18, run19, run20, run21, run22, reduceCtorEq, Nat.reduceEqDiff, Nat.reduceAdd, Nat.reduceSub, Nat.reduceLeDiff, indexAddrA, indexRefA, appendA, strA, Nat.reduceMul, Nat.zero_mul, Nat.reduceMod, Int.reduceEq, Int.reduceLT, Int.reduceLE, Nat.reduceLT, Nat.lt_irrefl, Nat.reduceBEq, tys0, tys1, tys2, tys3, tys4, tys5, tys6, tys7, tys8, tys9, tys10, tys11, tys12, tys13, tys14, tys15, tys16, tys17, tys18, tys19, tys20, tys21, tys22, tys23, Try.ntmps7, Try.results7, fr]
  refine RunL.callgp rfl rfl ok_f28 rfl hi (by rfl) rfl ?_
  simp only [run0, run1, run2, run3, run4, run5, run6, run7, run8, run9, run10, run11, run12, run13, run14, run15, run16, run17, run18, run19, run20, run21, run22, reduceCtorEq, Nat.reduceEqDiff, Nat.reduceAdd, Nat.reduceSub, Nat.reduceLeDiff, indexAddrA, indexRefA, appendA, strA, Nat.reduceMul, Nat.zero_mul, Nat.reduceMod, Int.reduceEq, Int.reduceLT, Int.reduceLE, Nat.reduceLT, Nat.lt_irrefl, Nat.reduceBEq, tys0, tys1, tys2, tys3, tys4, tys5, tys6, tys7, tys8, tys9, tys10, tys11, tys12, tys13, tys14, tys15, tys16, tys17, tys18, tys19, tys20, tys21, tys22, tys23, Try.ntmps7, Try.results7, shA, shL, hM1', hG]
  refine RunL.lendV rfl rfl ok_f17 rfl (eqPositionS_ok R (by omega) hsm) (.cons og.view (.cons (.pur (.of (by simp only [pureB, hp]))) .nil)) rfl rfl ?_
  simp only [run0, run1, run2, run3, run4, run5, run6, run7, run8, run9, run10, run11, run12, run13, run14, run15, run16, run17, run18, run19, run20, run21, run22, reduceCtorEq, Nat.reduceEqDiff, Nat.reduceAdd, Nat.reduceSub, Nat.reduceLeDiff, indexAddrA, indexRefA, appendA, strA, Nat.reduceMul, Nat.zero_mul, Nat.reduceMod, Int.reduceEq, Int.reduceLT, Int.reduceLE, Nat.reduceLT, Nat.lt_irrefl, Nat.reduceBEq, tys0, tys1, tys2, tys3, tys4, tys5, tys6, tys7, tys8, tys9, tys10, tys11, tys12, tys13, tys14, tys15, tys16, tys17, tys18, tys19, tys20, tys21, tys22, tys23, Try.ntmps7, Try.results7, bne_self_eq_false]
  refine RunL.callM rfl rfl ok_f18 rfl rfl hc2 rfl ?_
  simp only [run0, run1, run2, run3, run4, run5, run6, run7, run8, run9, run10, run11, run12, run13, run14, run15, run16, run17, run18, run19, run20, run21, run22, reduceCtorEq, Nat.reduceEqDiff, Nat.reduceAdd, Nat.reduceSub, Nat.reduceLeDiff, indexAddrA, indexRefA, appendA, strA, Nat.reduceMul, Nat.zero_mul, Nat.reduceMod, Int.reduceEq, Int.reduceLT, Int.reduceLE, Nat.reduceLT, Nat.lt_irrefl, Nat.reduceBEq, tys0, tys1, tys2, tys3, tys4, tys5, tys6, tys7, tys8, tys9, tys10, tys11, tys12, tys13, tys14, tys15, tys16, tys17, tys18, tys19, tys20, tys21, tys22, tys23, Try.ntmps7, Try.results7, p0]
  refine RunL.lendV rfl rfl ok_f19 rfl (heldPositionS_ok R 1 hlen hps (by omega) (by omega)) (.cons og2.view (.cons (.pur (.int _ _)) .nil)) rfl rfl ?_
  simp only [run0, run1, run2, run3, run4, run5, run6, run7, run8, run9, run10, run11, run12, run13, run14, run15, run16, run17, run18, run19, run20, run21, run22, reduceCtorEq, Nat.reduceEqDiff, Nat.reduceAdd, Nat.reduceSub, Nat.reduceLeDiff, indexAddrA, indexRefA, appendA, strA, Nat.reduceMul, Nat.zero_mul, Nat.reduceMod, Int.reduceEq, Int.reduceLT, Int.reduceLE, Nat.reduceLT, Nat.lt_irrefl, Nat.reduceBEq, tys0, tys1, tys2, tys3, tys4, tys5, tys6, tys7, tys8, tys9, tys10, tys11, tys12, tys13, tys14, tys15, tys16, tys17, tys18, tys19, tys20, tys21, tys22, tys23, Try.ntmps7, Try.results7, e4, p0, bne_self_eq_false]
  refine RunL.callp rfl rfl ok_f27 (toFraction_ok _ _) (by first | rfl | simp only [pureL, pureB, Bool.and_self, Bool.and_true, Bool.true_and]) rfl ?_
  simp only [run0, run1, run2, run3, run4, run5, run6, run7, run8, run9, run10, run11, run12, run13, run14, run15, run16, run17, run18, run19, run20, run21, run22, reduceCtorEq, Nat.reduceEqDiff, Nat.reduceAdd, Nat.reduceSub, Nat.reduceLeDiff, indexAddrA, indexRefA, appendA, strA, Nat.reduceMul, Nat.zero_mul, Nat.reduceMod, Int.reduceEq, Int.reduceLT, Int.reduceLE, Nat.reduceLT, Nat.lt_irrefl, Nat.reduceBEq, tys0, tys1, tys2, tys3, tys4, tys5, tys6, tys7, tys8, tys9, tys10, tys11, tys12, tys13, tys14, tys15, tys16, tys17, tys18, tys19, tys20, tys21, tys22, tys23, Try.ntmps7, Try.results7, fr]
  refine RunL.callgp rfl rfl ok_f28 rfl hi (by rfl) rfl ?_
  simp only [run0, run1, run2, run3, run4, run5, run6, run7, run8, run9, run10, run11, run12, run13, run14, run15, run16, run17, run18, run19, run20, run21, run22, reduceCtorEq, Nat.reduceEqDiff, Nat.reduceAdd, Nat.reduceSub, Nat.reduceLeDiff, indexAddrA, indexRefA, appendA, strA, Nat.reduceMul, Nat.zero_mul, Nat.reduceMod, Int.reduceEq, Int.reduceLT, Int.reduceLE, Nat.reduceLT, Nat.lt_irrefl, Nat.reduceBEq, tys0, tys1, tys2, tys3, tys4, tys5, tys6, tys7, tys8, tys9, tys10, tys11, tys12, tys13, tys14, tys15, tys16, tys17, tys18, tys19, tys20, tys21, tys22, tys23, Try.ntmps7, Try.results7, shA, shL]
  refine RunL.lendV rfl rfl ok_f17 rfl (eqPositionS_ok R (by omega) hsm) (.cons oh.view (.cons (.pur (.of (by simp only [pureB, hp]))) .nil)) rfl rfl ?_
  simp only [run0, run1, run2, run3, run4, run5, run6, run7, run8, run9, run10, run11, run12, run13, run14, run15, run16, run17, run18, run19, run20, run21, run22, reduceCtorEq, Nat.reduceEqDiff, Nat.reduceAdd, Nat.reduceSub, Nat.reduceLeDiff, indexAddrA, indexRefA, appendA, strA, Nat.reduceMul, Nat.zero_mul, Nat.reduceMod, Int.reduceEq, Int.reduceLT, Int.reduceLE, Nat.reduceLT, Nat.lt_irrefl, Nat.reduceBEq, tys0, tys1, tys2, tys3, tys4, tys5, tys6, tys7, tys8, tys9, tys10, tys11, tys12, tys13, tys14, tys15, tys16, tys17, tys18, tys19, tys20, tys21, tys22, tys23, Try.ntmps7, Try.results7, bne_self_eq_false]
  refine RunL.lendV rfl rfl ok_f19 rfl (heldPositionS_ok R 1 hlen hps (by omega) (by omega)) (.cons (og2.mono (Kept.more _ _ _)).view (.cons (.pur (.int _ _)) .nil)) rfl rfl ?_
  simp only [run0, run1, run2, run3, run4, run5, run6, run7, run8, run9, run10, run11, run12, run13, run14, run15, run16, run17, run18, run19, run20, run21, run22, reduceCtorEq, Nat.reduceEqDiff, Nat.reduceAdd, Nat.reduceSub, Nat.reduceLeDiff, indexAddrA, indexRefA, appendA, strA, Nat.reduceMul, Nat.zero_mul, Nat.reduceMod, Int.reduceEq, Int.reduceLT, Int.reduceLE, Nat.reduceLT, Nat.lt_irrefl, Nat.reduceBEq, tys0, tys1, tys2, tys3, tys4, tys5, tys6, tys7, tys8, tys9, tys10, tys11, tys12, tys13, tys14, tys15, tys16, tys17, tys18, tys19, tys20, tys21, tys22, tys23, Try.ntmps7, Try.results7, e4, bne_self_eq_false]
  exact Fin.eq rfl rfl

end Go.Proofs.Ytllcljajlemmaaa
