/-
  Texts joined in one: GT4.
-/
import Derived.Test.YtllcljajlemmaaaDoorMGaTeC
/-
  The text of a game: the reference, and the law.
-/
namespace Go.Proofs.YtllcljajlemmaaaDoor
open Go K Go.RowKit
set_option linter.unusedSimpArgs false
set_option linter.unusedVariables false
set_option maxHeartbeats 1600000
set_option maxRecDepth 8000

theorem ba_eq {a b : ByteArray} (h : a.data.toList = b.data.toList) : a = b := ByteArray.ext (Array.toList_inj.1 h)
theorem ba_app (a b : ByteArray) : (a ++ b).data.toList = a.data.toList ++ b.data.toList := by rw [ByteArray.data_append, Array.toList_append]
theorem numsS_snoc (d : List Int) (x : Int) (h : d ≠ []) : numsS (d ++ [x]) = (numsS d ++ ⟨#[44]⟩) ++ decS x.toNat := by
  refine ba_eq ?_
  rw [ba_app, ba_app]
  show numsL (d ++ [x]) = (numsL d ++ [44]) ++ Lib.decDigits x.toNat
  unfold numsL
  rw [List.map_append, List.map_cons, List.map_nil, join_snoc _ _ _ (by simpa using h)]
theorem numsS_one (x : Int) : numsS [x] = decS x.toNat := by
  unfold numsS numsL decS
  rw [List.map_cons, List.map_nil, Lib.join_one]
theorem gameS_snoc (d : List GP) (p : GP) (h : d ≠ []) : gameS (d ++ [p]) = (gameS d ++ ⟨#[59]⟩) ++ partS p := by
  refine ba_eq ?_
  rw [ba_app, ba_app]
  show Lib.join (((d ++ [p]).map partS).map (·.data.toList)) [59] = (Lib.join ((d.map partS).map (·.data.toList)) [59] ++ [59]) ++ (partS p).data.toList
  rw [List.map_append, List.map_append, List.map_cons, List.map_nil, List.map_cons, List.map_nil, join_snoc _ _ _ (by simpa using h)]
theorem gameS_one (p : GP) : gameS [p] = partS p := by
  refine ba_eq ?_
  show Lib.join [(partS p).data.toList] [59] = _
  rw [Lib.join_one]
theorem gaList_ok (l : List Int) (h : okNums l) : Ct Tryd.prog 37 [.sl false (ints l)] [] (.str (numsS l)) [] := by
  have hl := h.1
  refine Ct.by_ hmix [] Tryd.func37 rfl ?_
  simp only [run0, run1, run2, run3, run4, run5, run6, run7, run8, run9, run10, run11, run12, run13, run14, run15, run16, run17, run18, run19, run20, run21, run22, reduceCtorEq, Nat.reduceEqDiff, Nat.reduceAdd, Nat.reduceSub, Nat.reduceLeDiff, indexAddrA, indexRefA, appendA, strA, Nat.reduceMul, Nat.zero_mul, Nat.reduceMod, Int.reduceEq, Int.reduceLT, Int.reduceLE, Nat.reduceLT, Nat.lt_irrefl, Nat.reduceBEq, tys0, tys1, tys2, tys3, tys4, tys5, tys6, tys7, tys8, Tryd.ntmps37, Tryd.results37, ints_length]
  refine AWp.loop_inv (ι := List Int × List Int) (fun q => ⟨[.junk, .junk, .str ⟨#[]⟩, .str (numsS q.1), .junk, .junk, .sl false (ints l), .int .i64 l.length, .int .i64 q.1.length, .junk, .junk, .junk, .junk, .junk, .junk, .junk, .junk, .junk, .junk, .junk, .junk, .junk, .junk], []⟩)
    (fun q => l = q.1 ++ q.2) (fun q => q.2.length) ([], l) rfl ⟨by simp only [List.length_nil, Int.natCast_zero]; repeat constructor, rfl⟩ ?_
  rintro ⟨d, r⟩ ha
  refine W.sound hmix (E := []) ?_
  simp only at ha
  cases r with
  | cons x r =>
    obtain ⟨e1, e2, e5⟩ := int_split ha (by omega)
    have hx := h.2 x (by rw [ha]; simp)
    obtain ⟨k, rfl⟩ := Int.eq_ofNat_of_zero_le hx.1
    have hd : okNums d := ⟨by have := congrArg List.length ha; simp at this; omega, fun y hy => h.2 y (by rw [ha]; simp [hy])⟩
    have z1 := numsL_len hd
    have z2 := dec_len (i := k) (by omega)
    have zd : (decS k).size = (Lib.decDigits k).length := by simp [decS, ByteArray.size]
    cases d with
    | nil =>
      have s0 : (ByteArray.mk #[]).size + (decS k).size ≤ 9223372036854775807 := by rw [zd]; show 0 + _ ≤ _; omega
      have e0 : (ByteArray.mk #[]) ++ decS k = decS k := by refine ba_eq ?_; rw [ba_app]; rfl
      have n0 : numsS [] = ⟨#[]⟩ := rfl
      have k0 : ¬ (0 : Int) < ((0 : Nat) : Int) := by simp
      simp only [List.length_nil] at e1 e2 e5
      simp only [run0, run1, run2, run3, run4, run5, run6, run7, run8, run9, run10, run11, run12, run13, run14, run15, run16, run17, run18, run19, run20, run21, run22, reduceCtorEq, Nat.reduceEqDiff, Nat.reduceAdd, Nat.reduceSub, Nat.reduceLeDiff, indexAddrA, indexRefA, appendA, strA, Nat.reduceMul, Nat.zero_mul, Nat.reduceMod, Int.reduceEq, Int.reduceLT, Int.reduceLE, Nat.reduceLT, Nat.lt_irrefl, Nat.reduceBEq, tys0, tys1, tys2, tys3, tys4, tys5, tys6, tys7, tys8, Tryd.ntmps37, Tryd.results37, ints_length, e1, e2, n0, k0, Int.toNat_natCast, Int.natCast_nonneg]
      refine RunL.callp rfl rfl ok_f51 (num_ok k (by omega)) rfl rfl ?_
      simp only [run0, run1, run2, run3, run4, run5, run6, run7, run8, run9, run10, run11, run12, run13, run14, run15, run16, run17, run18, run19, run20, run21, run22, reduceCtorEq, Nat.reduceEqDiff, Nat.reduceAdd, Nat.reduceSub, Nat.reduceLeDiff, indexAddrA, indexRefA, appendA, strA, Nat.reduceMul, Nat.zero_mul, Nat.reduceMod, Int.reduceEq, Int.reduceLT, Int.reduceLE, Nat.reduceLT, Nat.lt_irrefl, Nat.reduceBEq, tys0, tys1, tys2, tys3, tys4, tys5, tys6, tys7, tys8, Tryd.ntmps37, Tryd.results37, s0, e0, e5]
      exact ⟨([(k : Int)], r), ha, by simp, by rw [show numsS ([(k : Int)], r).1 = decS k from numsS_one k]; simp only [List.length_append, List.length_cons, List.length_nil, List.nil_append]; repeat constructor⟩
    | cons y d =>
      have k0 : (0 : Int) < ((y :: d).length : Int) := by simp
      have s0 : (numsS (y :: d)).size + (ByteArray.mk #[44]).size ≤ 9223372036854775807 := by rw [numsS_size]; show _ + 1 ≤ _; omega
      have s1 : (numsS (y :: d) ++ ByteArray.mk #[44]).size + (decS k).size ≤ 9223372036854775807 := by rw [size_app, numsS_size, zd]; show _ + 1 + _ ≤ _; omega
      have hn := numsS_snoc (y :: d) k (by simp)
      rw [Int.toNat_natCast] at hn
      generalize hD : (y :: d) = D at *
      simp only [run0, run1, run2, run3, run4, run5, run6, run7, run8, run9, run10, run11, run12, run13, run14, run15, run16, run17, run18, run19, run20, run21, run22, reduceCtorEq, Nat.reduceEqDiff, Nat.reduceAdd, Nat.reduceSub, Nat.reduceLeDiff, indexAddrA, indexRefA, appendA, strA, Nat.reduceMul, Nat.zero_mul, Nat.reduceMod, Int.reduceEq, Int.reduceLT, Int.reduceLE, Nat.reduceLT, Nat.lt_irrefl, Nat.reduceBEq, tys0, tys1, tys2, tys3, tys4, tys5, tys6, tys7, tys8, Tryd.ntmps37, Tryd.results37, ints_length, e1, e2, k0, s0, Int.toNat_natCast, Int.natCast_nonneg]
      refine RunL.callp rfl rfl ok_f51 (num_ok k (by omega)) rfl rfl ?_
      simp only [run0, run1, run2, run3, run4, run5, run6, run7, run8, run9, run10, run11, run12, run13, run14, run15, run16, run17, run18, run19, run20, run21, run22, reduceCtorEq, Nat.reduceEqDiff, Nat.reduceAdd, Nat.reduceSub, Nat.reduceLeDiff, indexAddrA, indexRefA, appendA, strA, Nat.reduceMul, Nat.zero_mul, Nat.reduceMod, Int.reduceEq, Int.reduceLT, Int.reduceLE, Nat.reduceLT, Nat.lt_irrefl, Nat.reduceBEq, tys0, tys1, tys2, tys3, tys4, tys5, tys6, tys7, tys8, Tryd.ntmps37, Tryd.results37, s1, e5]
      exact ⟨(D ++ [(k : Int)], r), by simp [ha], by simp, by rw [show numsS (D ++ [(k : Int)], r).1 = _ from hn]; simp only [List.length_append, List.length_cons, List.length_nil]; repeat constructor⟩
  | nil =>
    have e1 := int_end ha
    rw [List.append_nil] at ha
    subst ha
    simp only [run0, run1, run2, run3, run4, run5, run6, run7, run8, run9, run10, run11, run12, run13, run14, run15, run16, run17, run18, run19, run20, run21, run22, reduceCtorEq, Nat.reduceEqDiff, Nat.reduceAdd, Nat.reduceSub, Nat.reduceLeDiff, indexAddrA, indexRefA, appendA, strA, Nat.reduceMul, Nat.zero_mul, Nat.reduceMod, Int.reduceEq, Int.reduceLT, Int.reduceLE, Nat.reduceLT, Nat.lt_irrefl, Nat.reduceBEq, tys0, tys1, tys2, tys3, tys4, tys5, tys6, tys7, tys8, Tryd.ntmps37, Tryd.results37, ints_length, e1]
    exact Fin.eq rfl rfl
theorem gameS_size {d : List GP} (hl : d.length ≤ 40) (h : ∀ p ∈ d, okNums p.1 ∧ okNums p.2) : (gameS d).size ≤ 300000 := by
  have := gameS_len hl h
  have e : (gameS d).size = (Lib.join ((d.map partS).map (·.data.toList)) [59]).length := by
    unfold gameS joinS
    simp [ByteArray.size]
  omega
theorem partS_size {p : GP} (h1 : okNums p.1) (h2 : okNums p.2) : (partS p).size ≤ 7000 := by
  have := partS_len h1 h2
  rwa [Array.length_toList] at this
theorem gaText_ok (g : List GP) (hl : g.length ≤ 40) (hok : ∀ p ∈ g, okNums p.1 ∧ okNums p.2) : Ct Tryd.prog 24 [.sl false (g.map posE)] [] (.str (gameS g)) [] := by
  refine Ct.by_ hmix [] Tryd.func24 rfl ?_
  simp only [run0, run1, run2, run3, run4, run5, run6, run7, run8, run9, run10, run11, run12, run13, run14, run15, run16, run17, run18, run19, run20, run21, run22, reduceCtorEq, Nat.reduceEqDiff, Nat.reduceAdd, Nat.reduceSub, Nat.reduceLeDiff, indexAddrA, indexRefA, appendA, strA, Nat.reduceMul, Nat.zero_mul, Nat.reduceMod, Int.reduceEq, Int.reduceLT, Int.reduceLE, Nat.reduceLT, Nat.lt_irrefl, Nat.reduceBEq, tys0, tys1, tys2, tys3, tys4, tys5, tys6, tys7, tys8, Tryd.ntmps24, Tryd.results24, List.length_map]
  refine AWp.loop_inv (ι := GmS) (fun q => ⟨[.junk, .junk, .str ⟨#[]⟩, .str (gameS q.d), .junk, .junk, .sl false (g.map posE), .int .i64 g.length, .int .i64 q.d.length, .junk, .junk, .junk, .junk, .junk, .junk, .junk, .junk, .junk, .junk, .junk, .junk, .junk, .junk, .junk, .junk, .junk, .junk, .junk, .junk], q.X⟩)
    (fun q => g = q.d ++ q.r) (fun q => q.r.length) ⟨[], g, []⟩ rfl ⟨by simp only [List.length_nil, Int.natCast_zero]; repeat constructor, rfl⟩ ?_
  rintro ⟨d, r, X⟩ ha
  refine W.sound hmix (E := []) ?_
  simp only at ha
  cases r with
  | cons p r =>
    obtain ⟨e1, e2, e5⟩ := pos_split ha (by omega)
    have hp := hok p (by rw [ha]; simp)
    have z1 := numsL_len hp.1
    have z2 := numsL_len hp.2
    have zp := partS_size hp.1 hp.2
    have zg := gameS_size (d := d) (by have := congrArg List.length ha; simp at this; omega) (fun q hq => hok q (by rw [ha]; simp [hq]))
    have s1 : (numsS p.1).size + (ByteArray.mk #[124]).size ≤ 9223372036854775807 := by rw [numsS_size]; show _ + 1 ≤ _; omega
    have s2 : (numsS p.1 ++ ByteArray.mk #[124]).size + (numsS p.2).size ≤ 9223372036854775807 := by rw [size_app, numsS_size, numsS_size]; show _ + 1 + _ ≤ _; omega
    have hpS : numsS p.1 ++ ByteArray.mk #[124] ++ numsS p.2 = partS p := rfl
    cases d with
    | nil =>
      have s0 : (ByteArray.mk #[]).size + (partS p).size ≤ 9223372036854775807 := by show 0 + _ ≤ _; omega
      have e0 : (ByteArray.mk #[]) ++ partS p = partS p := by refine ba_eq ?_; rw [ba_app]; rfl
      have n0 : gameS [] = ⟨#[]⟩ := rfl
      have k0 : ¬ (0 : Int) < ((0 : Nat) : Int) := by simp
      simp only [List.length_nil] at e1 e2 e5
      simp only [run0, run1, run2, run3, run4, run5, run6, run7, run8, run9, run10, run11, run12, run13, run14, run15, run16, run17, run18, run19, run20, run21, run22, reduceCtorEq, Nat.reduceEqDiff, Nat.reduceAdd, Nat.reduceSub, Nat.reduceLeDiff, indexAddrA, indexRefA, appendA, strA, Nat.reduceMul, Nat.zero_mul, Nat.reduceMod, Int.reduceEq, Int.reduceLT, Int.reduceLE, Nat.reduceLT, Nat.lt_irrefl, Nat.reduceBEq, tys0, tys1, tys2, tys3, tys4, tys5, tys6, tys7, tys8, Tryd.ntmps24, Tryd.results24, List.length_map, e1, e2, n0, k0, Int.toNat_natCast, Int.natCast_nonneg, List.getElem?_append_right, Nat.le_refl, Nat.sub_self]
      refine ⟨by kernel_rfl, ?_⟩
      refine RunL.callp rfl rfl ok_f37 (gaList_ok p.1 hp.1) (by simp only [pureL, pureB, ints_pure, Bool.and_self]) rfl ?_
      simp only [run0, run1, run2, run3, run4, run5, run6, run7, run8, run9, run10, run11, run12, run13, run14, run15, run16, run17, run18, run19, run20, run21, run22, reduceCtorEq, Nat.reduceEqDiff, Nat.reduceAdd, Nat.reduceSub, Nat.reduceLeDiff, indexAddrA, indexRefA, appendA, strA, Nat.reduceMul, Nat.zero_mul, Nat.reduceMod, Int.reduceEq, Int.reduceLT, Int.reduceLE, Nat.reduceLT, Nat.lt_irrefl, Nat.reduceBEq, tys0, tys1, tys2, tys3, tys4, tys5, tys6, tys7, tys8, Tryd.ntmps24, Tryd.results24, s1, s2, List.getElem?_append_right, Nat.le_refl, Nat.sub_self]
      refine RunL.callp rfl rfl ok_f37 (gaList_ok p.2 hp.2) (by simp only [pureL, pureB, ints_pure, Bool.and_self]) rfl ?_
      simp only [run0, run1, run2, run3, run4, run5, run6, run7, run8, run9, run10, run11, run12, run13, run14, run15, run16, run17, run18, run19, run20, run21, run22, reduceCtorEq, Nat.reduceEqDiff, Nat.reduceAdd, Nat.reduceSub, Nat.reduceLeDiff, indexAddrA, indexRefA, appendA, strA, Nat.reduceMul, Nat.zero_mul, Nat.reduceMod, Int.reduceEq, Int.reduceLT, Int.reduceLE, Nat.reduceLT, Nat.lt_irrefl, Nat.reduceBEq, tys0, tys1, tys2, tys3, tys4, tys5, tys6, tys7, tys8, Tryd.ntmps24, Tryd.results24, s1, s2, hpS, s0, e0, e5]
      exact ⟨⟨[p], r, _⟩, ha, by simp, by rw [show gameS ([p] : List GP) = partS p from gameS_one p]; simp only [List.length_append, List.length_cons, List.length_nil, List.nil_append]; repeat constructor, rfl⟩
    | cons y d =>
      have k0 : (0 : Int) < ((y :: d).length : Int) := by simp
      have s0 : (gameS (y :: d)).size + (ByteArray.mk #[59]).size ≤ 9223372036854775807 := by show _ + 1 ≤ _; omega
      have s3 : (gameS (y :: d) ++ ByteArray.mk #[59]).size + (partS p).size ≤ 9223372036854775807 := by rw [size_app]; show _ + 1 + _ ≤ _; omega
      have hn := gameS_snoc (y :: d) p (by simp)
      generalize hD : (y :: d) = D at *
      simp only [run0, run1, run2, run3, run4, run5, run6, run7, run8, run9, run10, run11, run12, run13, run14, run15, run16, run17, run18, run19, run20, run21, run22, reduceCtorEq, Nat.reduceEqDiff, Nat.reduceAdd, Nat.reduceSub, Nat.reduceLeDiff, indexAddrA, indexRefA, appendA, strA, Nat.reduceMul, Nat.zero_mul, Nat.reduceMod, Int.reduceEq, Int.reduceLT, Int.reduceLE, Nat.reduceLT, Nat.lt_irrefl, Nat.reduceBEq, tys0, tys1, tys2, tys3, tys4, tys5, tys6, tys7, tys8, Tryd.ntmps24, Tryd.results24, List.length_map, e1, e2, k0, s0, Int.toNat_natCast, Int.natCast_nonneg, List.getElem?_append_right, Nat.le_refl, Nat.sub_self]
      refine ⟨by kernel_rfl, ?_⟩
      refine RunL.callp rfl rfl ok_f37 (gaList_ok p.1 hp.1) (by simp only [pureL, pureB, ints_pure, Bool.and_self]) rfl ?_
      simp only [run0, run1, run2, run3, run4, run5, run6, run7, run8, run9, run10, run11, run12, run13, run14, run15, run16, run17, run18, run19, run20, run21, run22, reduceCtorEq, Nat.reduceEqDiff, Nat.reduceAdd, Nat.reduceSub, Nat.reduceLeDiff, indexAddrA, indexRefA, appendA, strA, Nat.reduceMul, Nat.zero_mul, Nat.reduceMod, Int.reduceEq, Int.reduceLT, Int.reduceLE, Nat.reduceLT, Nat.lt_irrefl, Nat.reduceBEq, tys0, tys1, tys2, tys3, tys4, tys5, tys6, tys7, tys8, Tryd.ntmps24, Tryd.results24, s1, s2, List.getElem?_append_right, Nat.le_refl, Nat.sub_self]
      refine RunL.callp rfl rfl ok_f37 (gaList_ok p.2 hp.2) (by simp only [pureL, pureB, ints_pure, Bool.and_self]) rfl ?_
      simp only [run0, run1, run2, run3, run4, run5, run6, run7, run8, run9, run10, run11, run12, run13, run14, run15, run16, run17, run18, run19, run20, run21, run22, reduceCtorEq, Nat.reduceEqDiff, Nat.reduceAdd, Nat.reduceSub, Nat.reduceLeDiff, indexAddrA, indexRefA, appendA, strA, Nat.reduceMul, Nat.zero_mul, Nat.reduceMod, Int.reduceEq, Int.reduceLT, Int.reduceLE, Nat.reduceLT, Nat.lt_irrefl, Nat.reduceBEq, tys0, tys1, tys2, tys3, tys4, tys5, tys6, tys7, tys8, Tryd.ntmps24, Tryd.results24, s1, s2, hpS, s3, e5]
      exact ⟨⟨D ++ [p], r, _⟩, by simp [ha], by simp, by rw [show gameS (D ++ [p]) = _ from hn]; simp only [List.length_append, List.length_cons, List.length_nil]; repeat constructor, rfl⟩
  | nil =>
    have e1 := pos_end ha
    rw [List.append_nil] at ha
    subst ha
    simp only [run0, run1, run2, run3, run4, run5, run6, run7, run8, run9, run10, run11, run12, run13, run14, run15, run16, run17, run18, run19, run20, run21, run22, reduceCtorEq, Nat.reduceEqDiff, Nat.reduceAdd, Nat.reduceSub, Nat.reduceLeDiff, indexAddrA, indexRefA, appendA, strA, Nat.reduceMul, Nat.zero_mul, Nat.reduceMod, Int.reduceEq, Int.reduceLT, Int.reduceLE, Nat.reduceLT, Nat.lt_irrefl, Nat.reduceBEq, tys0, tys1, tys2, tys3, tys4, tys5, tys6, tys7, tys8, Tryd.ntmps24, Tryd.results24, e1]
    exact Fin.eq rfl rfl
theorem specText_ok (g : List GP) (lg : g.length ≤ 1048576) (sg : ∀ p ∈ g, smallP p) : Ct Tryd.prog 11 [.sl false (g.map posE)] [] (gtR g) [] := by
  have pg := posL_pure g
  refine Ct.by_ hmix [] Tryd.func11 rfl ?_
  simp only [run0, run1, run2, run3, run4, run5, run6, run7, run8, run9, run10, run11, run12, run13, run14, run15, run16, run17, run18, run19, run20, run21, run22, reduceCtorEq, Nat.reduceEqDiff, Nat.reduceAdd, Nat.reduceSub, Nat.reduceLeDiff, indexAddrA, indexRefA, appendA, strA, Nat.reduceMul, Nat.zero_mul, Nat.reduceMod, Int.reduceEq, Int.reduceLT, Int.reduceLE, Nat.reduceLT, Nat.lt_irrefl, Nat.reduceBEq, tys0, tys1, tys2, tys3, tys4, tys5, tys6, tys7, tys8, Tryd.ntmps11, Tryd.results11]
  refine RunL.callp rfl rfl ok_f16 (gaGood_ok g lg sg) (by simp only [pureL, pureB, pg, Bool.and_self]) rfl ?_
  cases h1 : gameB g
  · simp only [run0, run1, run2, run3, run4, run5, run6, run7, run8, run9, run10, run11, run12, run13, run14, run15, run16, run17, run18, run19, run20, run21, run22, reduceCtorEq, Nat.reduceEqDiff, Nat.reduceAdd, Nat.reduceSub, Nat.reduceLeDiff, indexAddrA, indexRefA, appendA, strA, Nat.reduceMul, Nat.zero_mul, Nat.reduceMod, Int.reduceEq, Int.reduceLT, Int.reduceLE, Nat.reduceLT, Nat.lt_irrefl, Nat.reduceBEq, tys0, tys1, tys2, tys3, tys4, tys5, tys6, tys7, tys8, Tryd.ntmps11, Tryd.results11]
    exact Fin.eq (by simp [gtR, h1]) rfl
  obtain ⟨hl, hok⟩ := okPos h1
  unfold gtR
  rw [h1, if_pos rfl]
  simp only [run0, run1, run2, run3, run4, run5, run6, run7, run8, run9, run10, run11, run12, run13, run14, run15, run16, run17, run18, run19, run20, run21, run22, reduceCtorEq, Nat.reduceEqDiff, Nat.reduceAdd, Nat.reduceSub, Nat.reduceLeDiff, indexAddrA, indexRefA, appendA, strA, Nat.reduceMul, Nat.zero_mul, Nat.reduceMod, Int.reduceEq, Int.reduceLT, Int.reduceLE, Nat.reduceLT, Nat.lt_irrefl, Nat.reduceBEq, tys0, tys1, tys2, tys3, tys4, tys5, tys6, tys7, tys8, Tryd.ntmps11, Tryd.results11]
  refine RunL.callp rfl rfl ok_f24 (gaText_ok g hl hok) (by simp only [pureL, pureB, pg, Bool.and_self]) rfl ?_
  simp only [run0, run1, run2, run3, run4, run5, run6, run7, run8, run9, run10, run11, run12, run13, run14, run15, run16, run17, run18, run19, run20, run21, run22, reduceCtorEq, Nat.reduceEqDiff, Nat.reduceAdd, Nat.reduceSub, Nat.reduceLeDiff, indexAddrA, indexRefA, appendA, strA, Nat.reduceMul, Nat.zero_mul, Nat.reduceMod, Int.reduceEq, Int.reduceLT, Int.reduceLE, Nat.reduceLT, Nat.lt_irrefl, Nat.reduceBEq, tys0, tys1, tys2, tys3, tys4, tys5, tys6, tys7, tys8, Tryd.ntmps11, Tryd.results11]
  exact Fin.eq rfl rfl
theorem FnExactGameText_ok {a0 : AV} (h0 : IsOf Tryd.prog 28 a0)  : Ct Tryd.prog 4 [a0] [] (.bool true) [] := by
  obtain ⟨g, rfl, hl, hf⟩ := laws_isPoS h0
  have pg := posL_pure g
  refine Ct.by_ hmix [] Tryd.func4 rfl ?_
  simp only [run0, run1, run2, run3, run4, run5, run6, run7, run8, run9, run10, run11, run12, run13, run14, run15, run16, run17, run18, run19, run20, run21, run22, reduceCtorEq, Nat.reduceEqDiff, Nat.reduceAdd, Nat.reduceSub, Nat.reduceLeDiff, indexAddrA, indexRefA, appendA, strA, Nat.reduceMul, Nat.zero_mul, Nat.reduceMod, Int.reduceEq, Int.reduceLT, Int.reduceLE, Nat.reduceLT, Nat.lt_irrefl, Nat.reduceBEq, tys0, tys1, tys2, tys3, tys4, tys5, tys6, tys7, tys8, Tryd.ntmps4, Tryd.results4]
  refine RunL.callp rfl rfl ok_f10 (szPositionS_ok g 1048576 hl hf (by omega) (by omega)) (by simp only [pureL, pureB, pg, Bool.and_self]) rfl ?_
  rcases szN_spec (g.length + gsz g) 1048576 with ⟨g1, g2⟩ | ⟨g1, g2⟩
  case inr =>
    have e1 : szN (g.length + gsz g) 1048576 < 0 := by omega
    simp only [run0, run1, run2, run3, run4, run5, run6, run7, run8, run9, run10, run11, run12, run13, run14, run15, run16, run17, run18, run19, run20, run21, run22, reduceCtorEq, Nat.reduceEqDiff, Nat.reduceAdd, Nat.reduceSub, Nat.reduceLeDiff, indexAddrA, indexRefA, appendA, strA, Nat.reduceMul, Nat.zero_mul, Nat.reduceMod, Int.reduceEq, Int.reduceLT, Int.reduceLE, Nat.reduceLT, Nat.lt_irrefl, Nat.reduceBEq, tys0, tys1, tys2, tys3, tys4, tys5, tys6, tys7, tys8, Tryd.ntmps4, Tryd.results4, e1]
    exact Fin.eq rfl rfl
  have e1 : ¬ szN (g.length + gsz g) 1048576 < 0 := by omega
  have gl : g.length ≤ 1048576 := by omega
  have gs : ∀ p ∈ g, smallP p := fun p hp => by have := gsz_mem hp; unfold psz at this; exact ⟨by omega, by omega⟩
  simp only [run0, run1, run2, run3, run4, run5, run6, run7, run8, run9, run10, run11, run12, run13, run14, run15, run16, run17, run18, run19, run20, run21, run22, reduceCtorEq, Nat.reduceEqDiff, Nat.reduceAdd, Nat.reduceSub, Nat.reduceLeDiff, indexAddrA, indexRefA, appendA, strA, Nat.reduceMul, Nat.zero_mul, Nat.reduceMod, Int.reduceEq, Int.reduceLT, Int.reduceLE, Nat.reduceLT, Nat.lt_irrefl, Nat.reduceBEq, tys0, tys1, tys2, tys3, tys4, tys5, tys6, tys7, tys8, Tryd.ntmps4, Tryd.results4, e1]
  refine RunL.callp rfl rfl ok_f12 (toPositionS_ok g gl gs) (by simp only [pureL, pureB, pg, Bool.and_self]) rfl ?_
  simp only [run0, run1, run2, run3, run4, run5, run6, run7, run8, run9, run10, run11, run12, run13, run14, run15, run16, run17, run18, run19, run20, run21, run22, reduceCtorEq, Nat.reduceEqDiff, Nat.reduceAdd, Nat.reduceSub, Nat.reduceLeDiff, indexAddrA, indexRefA, appendA, strA, Nat.reduceMul, Nat.zero_mul, Nat.reduceMod, Int.reduceEq, Int.reduceLT, Int.reduceLE, Nat.reduceLT, Nat.lt_irrefl, Nat.reduceBEq, tys0, tys1, tys2, tys3, tys4, tys5, tys6, tys7, tys8, Tryd.ntmps4, Tryd.results4]
  refine RunL.callp rfl rfl ok_f11 (specText_ok g  gl gs) (by simp only [pureL, pureB, pg, Bool.and_self]) rfl ?_
  simp only [run0, run1, run2, run3, run4, run5, run6, run7, run8, run9, run10, run11, run12, run13, run14, run15, run16, run17, run18, run19, run20, run21, run22, reduceCtorEq, Nat.reduceEqDiff, Nat.reduceAdd, Nat.reduceSub, Nat.reduceLeDiff, indexAddrA, indexRefA, appendA, strA, Nat.reduceMul, Nat.zero_mul, Nat.reduceMod, Int.reduceEq, Int.reduceLT, Int.reduceLE, Nat.reduceLT, Nat.lt_irrefl, Nat.reduceBEq, tys0, tys1, tys2, tys3, tys4, tys5, tys6, tys7, tys8, Tryd.ntmps4, Tryd.results4, gtR]
  refine RunL.callp rfl rfl ok_f12 (toPositionS_ok g gl gs) (by simp only [pureL, pureB, pg, Bool.and_self]) rfl ?_
  simp only [run0, run1, run2, run3, run4, run5, run6, run7, run8, run9, run10, run11, run12, run13, run14, run15, run16, run17, run18, run19, run20, run21, run22, reduceCtorEq, Nat.reduceEqDiff, Nat.reduceAdd, Nat.reduceSub, Nat.reduceLeDiff, indexAddrA, indexRefA, appendA, strA, Nat.reduceMul, Nat.zero_mul, Nat.reduceMod, Int.reduceEq, Int.reduceLT, Int.reduceLE, Nat.reduceLT, Nat.lt_irrefl, Nat.reduceBEq, tys0, tys1, tys2, tys3, tys4, tys5, tys6, tys7, tys8, Tryd.ntmps4, Tryd.results4]
  refine RunL.callp rfl rfl ok_f13 (implText_ok g  gl gs) (by simp only [pureL, pureB, pg, Bool.and_self]) rfl ?_
  simp only [run0, run1, run2, run3, run4, run5, run6, run7, run8, run9, run10, run11, run12, run13, run14, run15, run16, run17, run18, run19, run20, run21, run22, reduceCtorEq, Nat.reduceEqDiff, Nat.reduceAdd, Nat.reduceSub, Nat.reduceLeDiff, indexAddrA, indexRefA, appendA, strA, Nat.reduceMul, Nat.zero_mul, Nat.reduceMod, Int.reduceEq, Int.reduceLT, Int.reduceLE, Nat.reduceLT, Nat.lt_irrefl, Nat.reduceBEq, tys0, tys1, tys2, tys3, tys4, tys5, tys6, tys7, tys8, Tryd.ntmps4, Tryd.results4, gtR, bne_self_eq_false]
  refine RunL.callp rfl rfl ok_f12 (toPositionS_ok g gl gs) (by simp only [pureL, pureB, pg, Bool.and_self]) rfl ?_
  simp only [run0, run1, run2, run3, run4, run5, run6, run7, run8, run9, run10, run11, run12, run13, run14, run15, run16, run17, run18, run19, run20, run21, run22, reduceCtorEq, Nat.reduceEqDiff, Nat.reduceAdd, Nat.reduceSub, Nat.reduceLeDiff, indexAddrA, indexRefA, appendA, strA, Nat.reduceMul, Nat.zero_mul, Nat.reduceMod, Int.reduceEq, Int.reduceLT, Int.reduceLE, Nat.reduceLT, Nat.lt_irrefl, Nat.reduceBEq, tys0, tys1, tys2, tys3, tys4, tys5, tys6, tys7, tys8, Tryd.ntmps4, Tryd.results4]
  refine RunL.callp rfl rfl ok_f7 (eqPositionS_ok g gl gs) (by simp only [pureL, pureB, pg, Bool.and_self]) rfl ?_
  simp only [run0, run1, run2, run3, run4, run5, run6, run7, run8, run9, run10, run11, run12, run13, run14, run15, run16, run17, run18, run19, run20, run21, run22, reduceCtorEq, Nat.reduceEqDiff, Nat.reduceAdd, Nat.reduceSub, Nat.reduceLeDiff, indexAddrA, indexRefA, appendA, strA, Nat.reduceMul, Nat.zero_mul, Nat.reduceMod, Int.reduceEq, Int.reduceLT, Int.reduceLE, Nat.reduceLT, Nat.lt_irrefl, Nat.reduceBEq, tys0, tys1, tys2, tys3, tys4, tys5, tys6, tys7, tys8, Tryd.ntmps4, Tryd.results4]
  exact Fin.eq rfl rfl


end Go.Proofs.YtllcljajlemmaaaDoor
