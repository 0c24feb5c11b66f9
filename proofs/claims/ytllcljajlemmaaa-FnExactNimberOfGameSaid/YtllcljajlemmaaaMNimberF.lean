/-
  Texts joined in one: NB8, NB9.
-/
import Derived.Test.YtllcljajlemmaaaMNimberE
/-
  Nimbers of games: the program, walked.
-/
namespace Go.Proofs.Ytllcljajlemmaaa
open Go K
set_option linter.unusedSimpArgs false
set_option linter.unusedVariables false
set_option maxHeartbeats 3200000
set_option maxRecDepth 8000

theorem posL_sh (k : Nat) (g : List GP) : (g.map posE).map (shA k) = g.map posE := by
  rw [List.map_map]
  refine List.map_congr_left fun p _ => ?_
  have h1 := ints_sh k p.1
  have h2 := ints_sh k p.2
  simp only [Function.comp, posE, shA, shL, shL_eq, h1, h2]
theorem posL_okS (g : List GP) (T : TypeId) (z n : Nat) : plainO (.vec T z n (g.map posE)) := .inl rfl
structure NbS where
  d : List GP
  r : List GP
  es : List AV
  X : List AObj
theorem implNim_ok (g : List GP) (a : Int) (hl : g.length ≤ 1048576) (hs : ∀ p ∈ g, smallP p) : Ct Try.prog 30 [.sl false (g.map posE), .int .i64 a] [] (nimR g a) [] := by
  have pg := posL_pure g
  refine Ct.intro Try.func30 rfl ?_
  refine AWp.seq ?_
  refine W.sound hmix (E := []) ?_
  simp only [run0, run1, run2, run3, run4, run5, run6, run7, run8, run9, run10, run11, run12, run13, run14, run15, run16, run17, run18, run19, run20, run21, run22, reduceCtorEq, Nat.reduceEqDiff, Nat.reduceAdd, Nat.reduceSub, Nat.reduceLeDiff, indexAddrA, indexRefA, appendA, strA, Nat.reduceMul, Nat.zero_mul, Nat.reduceMod, Int.reduceEq, Int.reduceLT, Int.reduceLE, Nat.reduceLT, Nat.lt_irrefl, Nat.reduceBEq, tys0, tys1, tys2, tys3, tys4, tys5, tys6, tys7, tys8, tys9, tys10, tys11, tys12, tys13, tys14, tys15, tys16, tys17, tys18, tys19, tys20, tys21, tys22, tys23, Try.ntmps30, Try.results30]
  refine AWp.seq ?_
  refine W.sound hmix (E := []) ?_
  simp only [run0, run1, run2, run3, run4, run5, run6, run7, run8, run9, run10, run11, run12, run13, run14, run15, run16, run17, run18, run19, run20, run21, run22, reduceCtorEq, Nat.reduceEqDiff, Nat.reduceAdd, Nat.reduceSub, Nat.reduceLeDiff, indexAddrA, indexRefA, appendA, strA, Nat.reduceMul, Nat.zero_mul, Nat.reduceMod, Int.reduceEq, Int.reduceLT, Int.reduceLE, Nat.reduceLT, Nat.lt_irrefl, Nat.reduceBEq, tys0, tys1, tys2, tys3, tys4, tys5, tys6, tys7, tys8, tys9, tys10, tys11, tys12, tys13, tys14, tys15, tys16, tys17, tys18, tys19, tys20, tys21, tys22, tys23, Try.ntmps30, Try.results30]
  refine RunL.callp rfl rfl ok_f66 (hasPosition_ok g a hl hs) (by simp only [pureL, pureB, pg, Bool.and_self]) rfl ?_
  cases h1 : hasB g a
  · simp only [run0, run1, run2, run3, run4, run5, run6, run7, run8, run9, run10, run11, run12, run13, run14, run15, run16, run17, run18, run19, run20, run21, run22, reduceCtorEq, Nat.reduceEqDiff, Nat.reduceAdd, Nat.reduceSub, Nat.reduceLeDiff, indexAddrA, indexRefA, appendA, strA, Nat.reduceMul, Nat.zero_mul, Nat.reduceMod, Int.reduceEq, Int.reduceLT, Int.reduceLE, Nat.reduceLT, Nat.lt_irrefl, Nat.reduceBEq, tys0, tys1, tys2, tys3, tys4, tys5, tys6, tys7, tys8, tys9, tys10, tys11, tys12, tys13, tys14, tys15, tys16, tys17, tys18, tys19, tys20, tys21, tys22, tys23, Try.ntmps30, Try.results30]
    exact Fin.eq (by simp [nimR, h1]) rfl
  unfold nimR
  rw [h1, if_pos rfl]
  obtain ⟨hgb, a, rfl, ha⟩ := hasB_ok h1
  obtain ⟨hg, hg1, hg2, hg3⟩ := gameB_ok hgb
  have hj := join_ok hg 40 (by omega)
  have hjl := join_len g 40
  have hpj := posL_pure (nimG 40)
  have hpk := posL_pure (joinG g (nimG 40))
  rw [Int.toNat_natCast]
  simp only [run0, run1, run2, run3, run4, run5, run6, run7, run8, run9, run10, run11, run12, run13, run14, run15, run16, run17, run18, run19, run20, run21, run22, reduceCtorEq, Nat.reduceEqDiff, Nat.reduceAdd, Nat.reduceSub, Nat.reduceLeDiff, indexAddrA, indexRefA, appendA, strA, Nat.reduceMul, Nat.zero_mul, Nat.reduceMod, Int.reduceEq, Int.reduceLT, Int.reduceLE, Nat.reduceLT, Nat.lt_irrefl, Nat.reduceBEq, tys0, tys1, tys2, tys3, tys4, tys5, tys6, tys7, tys8, tys9, tys10, tys11, tys12, tys13, tys14, tys15, tys16, tys17, tys18, tys19, tys20, tys21, tys22, tys23, Try.ntmps30, Try.results30]
  refine AWp.seq ?_
  refine W.sound hmix (E := []) ?_
  simp only [run0, run1, run2, run3, run4, run5, run6, run7, run8, run9, run10, run11, run12, run13, run14, run15, run16, run17, run18, run19, run20, run21, run22, reduceCtorEq, Nat.reduceEqDiff, Nat.reduceAdd, Nat.reduceSub, Nat.reduceLeDiff, indexAddrA, indexRefA, appendA, strA, Nat.reduceMul, Nat.zero_mul, Nat.reduceMod, Int.reduceEq, Int.reduceLT, Int.reduceLE, Nat.reduceLT, Nat.lt_irrefl, Nat.reduceBEq, tys0, tys1, tys2, tys3, tys4, tys5, tys6, tys7, tys8, tys9, tys10, tys11, tys12, tys13, tys14, tys15, tys16, tys17, tys18, tys19, tys20, tys21, tys22, tys23, Try.ntmps30, Try.results30]
  refine RunL.callgp rfl rfl ok_f60 rfl (cloneP_ok g false (by intro e; rw [e] at hg1; simp at hg1) hl) (by simp only [pureL, pureB, pg, Bool.and_self]) rfl ?_
  simp only [run0, run1, run2, run3, run4, run5, run6, run7, run8, run9, run10, run11, run12, run13, run14, run15, run16, run17, run18, run19, run20, run21, run22, reduceCtorEq, Nat.reduceEqDiff, Nat.reduceAdd, Nat.reduceSub, Nat.reduceLeDiff, indexAddrA, indexRefA, appendA, strA, Nat.reduceMul, Nat.zero_mul, Nat.reduceMod, Int.reduceEq, Int.reduceLT, Int.reduceLE, Nat.reduceLT, Nat.lt_irrefl, Nat.reduceBEq, tys0, tys1, tys2, tys3, tys4, tys5, tys6, tys7, tys8, tys9, tys10, tys11, tys12, tys13, tys14, tys15, tys16, tys17, tys18, tys19, tys20, tys21, tys22, tys23, Try.ntmps30, Try.results30, shA, shO, posL_sh]
  refine AWp.seq ?_
  refine W.sound hmix (E := []) ?_
  simp only [run0, run1, run2, run3, run4, run5, run6, run7, run8, run9, run10, run11, run12, run13, run14, run15, run16, run17, run18, run19, run20, run21, run22, reduceCtorEq, Nat.reduceEqDiff, Nat.reduceAdd, Nat.reduceSub, Nat.reduceLeDiff, indexAddrA, indexRefA, appendA, strA, Nat.reduceMul, Nat.zero_mul, Nat.reduceMod, Int.reduceEq, Int.reduceLT, Int.reduceLE, Nat.reduceLT, Nat.lt_irrefl, Nat.reduceBEq, tys0, tys1, tys2, tys3, tys4, tys5, tys6, tys7, tys8, tys9, tys10, tys11, tys12, tys13, tys14, tys15, tys16, tys17, tys18, tys19, tys20, tys21, tys22, tys23, Try.ntmps30, Try.results30]
  refine AWp.seq ?_
  refine W.sound hmix (E := []) ?_
  simp only [run0, run1, run2, run3, run4, run5, run6, run7, run8, run9, run10, run11, run12, run13, run14, run15, run16, run17, run18, run19, run20, run21, run22, reduceCtorEq, Nat.reduceEqDiff, Nat.reduceAdd, Nat.reduceSub, Nat.reduceLeDiff, indexAddrA, indexRefA, appendA, strA, Nat.reduceMul, Nat.zero_mul, Nat.reduceMod, Int.reduceEq, Int.reduceLT, Int.reduceLE, Nat.reduceLT, Nat.lt_irrefl, Nat.reduceBEq, tys0, tys1, tys2, tys3, tys4, tys5, tys6, tys7, tys8, tys9, tys10, tys11, tys12, tys13, tys14, tys15, tys16, tys17, tys18, tys19, tys20, tys21, tys22, tys23, Try.ntmps30, Try.results30]
  refine RunL.callp rfl rfl ok_f75 nimberGame_ok rfl rfl ?_
  simp only [run0, run1, run2, run3, run4, run5, run6, run7, run8, run9, run10, run11, run12, run13, run14, run15, run16, run17, run18, run19, run20, run21, run22, reduceCtorEq, Nat.reduceEqDiff, Nat.reduceAdd, Nat.reduceSub, Nat.reduceLeDiff, indexAddrA, indexRefA, appendA, strA, Nat.reduceMul, Nat.zero_mul, Nat.reduceMod, Int.reduceEq, Int.reduceLT, Int.reduceLE, Nat.reduceLT, Nat.lt_irrefl, Nat.reduceBEq, tys0, tys1, tys2, tys3, tys4, tys5, tys6, tys7, tys8, tys9, tys10, tys11, tys12, tys13, tys14, tys15, tys16, tys17, tys18, tys19, tys20, tys21, tys22, tys23, Try.ntmps30, Try.results30, List.length_map, nimG_len]
  have hsm := nimG_small (n := 40) (by omega)
  have hnl := nimG_len 40
  unfold joinG at *
  generalize nimG 40 = N at *
  refine AWp.loop_inv (ι := NbS) (fun q => ⟨[.junk, .int .i64 a, .ptr 0 0, .junk, .int .i64 0, .bool false, .ref 1 [] (1 + q.d.length) (g.length + q.d.length), .fn 74 [.ptr 0 0], .junk, .junk, .junk, .junk, .junk, .junk, .junk, .junk, .junk, .junk, .junk, .sl false (N.map posE), .int .i64 40, .int .i64 q.d.length, .junk, .junk, .junk, .junk, .junk, .junk, .junk, .junk, .junk, .junk, .junk, .junk, .junk, .junk, .junk, .junk, .junk, .junk, .junk, .junk, .junk, .junk, .junk, .junk, .junk, .junk, .junk, .junk, .junk, .junk, .junk], .box 24 [.sl false (g.map posE)] :: .vec 70 2 (1 + q.d.length) q.es :: q.X⟩)
    (fun q => N = q.d ++ q.r ∧ (∃ S, mixV (.box 24 [.sl false (g.map posE)] :: .vec 70 2 (1 + q.d.length) q.es :: q.X) g (q.d.map (mvP g.length)) q.es S ∧ ∀ i ∈ S, 2 ≤ i) ∧ ∀ o ∈ q.X, plainO o) (fun q => q.r.length) ⟨[], N, g.map posE, []⟩ ⟨rfl, ⟨[], ⟨[], by simp, rfl, rfl⟩, by simp⟩, by simp⟩
    ⟨by simp only [List.length_nil, Int.natCast_zero, Nat.add_zero]; repeat constructor, rfl⟩ ?_
  rintro ⟨d, r, es, X⟩ ⟨hd, ⟨S, hM, hS⟩, hX⟩
  refine W.sound hmix (E := [8000000, 5999990]) ?_
  simp only at hd hM hS hX
  cases r with
  | cons p r =>
    obtain ⟨e1, e2, e5⟩ := pos_split hd (by omega)
    have e1 : (d.length : Int) < 40 := by omega
    obtain ⟨p1, p2, b1, b2⟩ := hsm p (by rw [hd]; simp)
    have hdl : d.length + 1 ≤ N.length := by rw [hd]; simp
    have c1 := movedC_ok p.1 g p1 hl b1 (.box 24 [.sl false (g.map posE)] :: .vec 70 2 (1 + d.length) es :: (X ++ [.box 70 [.sl false (ints p.1), .sl false (ints p.2)]])) 0 rfl
    have c2 := movedC_ok p.2 g p2 hl b2 (.box 24 [.sl false (g.map posE)] :: .vec 70 2 (1 + d.length) es :: (X ++ [.box 70 [.sl false (ints p.1), .sl false (ints p.2)], .vec 3 1 p.1.length (ints (mvL g.length p.1))])) 0 rfl
    have m3 : g.length + d.length + 1 ≤ 137438953472 := by omega
    have m4 := hM.noOwn
    have m5 := hM.len
    rw [List.length_map] at m5
    simp only [List.length_cons, List.length_append, List.length_nil, Nat.zero_add, Nat.add_assoc, Nat.reduceAdd, List.cons_append, List.append_assoc, List.nil_append] at c1 c2
    simp only [run0, run1, run2, run3, run4, run5, run6, run7, run8, run9, run10, run11, run12, run13, run14, run15, run16, run17, run18, run19, run20, run21, run22, reduceCtorEq, Nat.reduceEqDiff, Nat.reduceAdd, Nat.reduceSub, Nat.reduceLeDiff, indexAddrA, indexRefA, appendA, strA, Nat.reduceMul, Nat.zero_mul, Nat.reduceMod, Int.reduceEq, Int.reduceLT, Int.reduceLE, Nat.reduceLT, Nat.lt_irrefl, Nat.reduceBEq, tys0, tys1, tys2, tys3, tys4, tys5, tys6, tys7, tys8, tys9, tys10, tys11, tys12, tys13, tys14, tys15, tys16, tys17, tys18, tys19, tys20, tys21, tys22, tys23, Try.ntmps30, Try.results30, e1, e2, List.length_map, List.getElem?_append_right, Nat.le_refl, Nat.sub_self, Int.toNat_natCast, Int.natCast_nonneg]
    refine ⟨[0, 1, 2, 3, 5, 6, 7, 4, 8, 9, 10, 11, 12], by kernel_rfl, ?_⟩
    simp only [run0, run1, run2, run3, run4, run5, run6, run7, run8, run9, run10, run11, run12, run13, run14, run15, run16, run17, run18, run19, run20, run21, run22, reduceCtorEq, Nat.reduceEqDiff, Nat.reduceAdd, Nat.reduceSub, Nat.reduceLeDiff, indexAddrA, indexRefA, appendA, strA, Nat.reduceMul, Nat.zero_mul, Nat.reduceMod, Int.reduceEq, Int.reduceLT, Int.reduceLE, Nat.reduceLT, Nat.lt_irrefl, Nat.reduceBEq, tys0, tys1, tys2, tys3, tys4, tys5, tys6, tys7, tys8, tys9, tys10, tys11, tys12, tys13, tys14, tys15, tys16, tys17, tys18, tys19, tys20, tys21, tys22, tys23, Try.ntmps30, Try.results30]
    refine RunL.callc rfl rfl rfl ?_ ok_f74 rfl (.inr ⟨[.vec 3 1 p.1.length (ints (mvL g.length p.1))], by simp⟩) c1 ?_
    · rfl
    simp only [run0, run1, run2, run3, run4, run5, run6, run7, run8, run9, run10, run11, run12, run13, run14, run15, run16, run17, run18, run19, run20, run21, run22, reduceCtorEq, Nat.reduceEqDiff, Nat.reduceAdd, Nat.reduceSub, Nat.reduceLeDiff, indexAddrA, indexRefA, appendA, strA, Nat.reduceMul, Nat.zero_mul, Nat.reduceMod, Int.reduceEq, Int.reduceLT, Int.reduceLE, Nat.reduceLT, Nat.lt_irrefl, Nat.reduceBEq, tys0, tys1, tys2, tys3, tys4, tys5, tys6, tys7, tys8, tys9, tys10, tys11, tys12, tys13, tys14, tys15, tys16, tys17, tys18, tys19, tys20, tys21, tys22, tys23, Try.ntmps30, Try.results30]
    refine RunL.callc rfl rfl rfl ?_ ok_f74 rfl (.inr ⟨[.vec 3 1 p.2.length (ints (mvL g.length p.2))], by simp⟩) c2 ?_
    · rfl
    simp only [run0, run1, run2, run3, run4, run5, run6, run7, run8, run9, run10, run11, run12, run13, run14, run15, run16, run17, run18, run19, run20, run21, run22, reduceCtorEq, Nat.reduceEqDiff, Nat.reduceAdd, Nat.reduceSub, Nat.reduceLeDiff, indexAddrA, indexRefA, appendA, strA, Nat.reduceMul, Nat.zero_mul, Nat.reduceMod, Int.reduceEq, Int.reduceLT, Int.reduceLE, Nat.reduceLT, Nat.lt_irrefl, Nat.reduceBEq, tys0, tys1, tys2, tys3, tys4, tys5, tys6, tys7, tys8, tys9, tys10, tys11, tys12, tys13, tys14, tys15, tys16, tys17, tys18, tys19, tys20, tys21, tys22, tys23, Try.ntmps30, Try.results30, m3, m4, m5, e5]
    have hk : Kept S (.box 24 [.sl false (g.map posE)] :: .vec 70 2 (1 + d.length) es :: X) (.box 24 [.sl false (g.map posE)] :: .vec 70 2 (1 + (d ++ [p]).length) (es ++ [.agg [.ref (X.length + 3) [] p.1.length p.1.length, .ref (X.length + 4) [] p.2.length p.2.length]]) :: (X ++ [.box 70 [.sl false (ints p.1), .sl false (ints p.2)], .vec 3 1 p.1.length (ints (mvL g.length p.1)), .vec 3 1 p.2.length (ints (mvL g.length p.2))])) := fun id hi T z gg es' hq => by
      obtain ⟨j, rfl⟩ : ∃ j, id = j + 2 := ⟨id - 2, by have := hS id hi; omega⟩
      simp only [List.getElem?_cons_succ] at hq ⊢
      rw [List.getElem?_append_left (List.getElem?_eq_some_iff.1 hq).1]; exact hq
    refine ⟨⟨d ++ [p], r, es ++ [.agg [.ref (X.length + 3) [] p.1.length p.1.length, .ref (X.length + 4) [] p.2.length p.2.length]], _⟩, ⟨by simp [hd], ⟨S ++ ([X.length + 3] ++ [X.length + 4]), ?_, ?_⟩, ?_⟩, by simp, by simp only [List.length_append, List.length_cons, List.length_nil]; repeat constructor, by simp only [List.length_append, List.length_cons, List.length_nil]; rfl⟩
    · rw [List.map_append]
      refine hM.next hk (p := mvP g.length p) (.inr ⟨X.length + 3, p.1.length, by simp [mvP, mvL], ?_, rfl⟩) (.inr ⟨X.length + 4, p.2.length, by simp [mvP, mvL], ?_, rfl⟩)
      · simp [mvP]
      · simp [mvP]
    · intro i hi
      rcases List.mem_append.1 hi with hi | hi
      · exact hS i hi
      · simp at hi; omega
    · intro o ho
      rcases List.mem_append.1 ho with ho | ho
      · exact hX o ho
      · simp only [List.mem_cons, List.not_mem_nil, or_false] at ho
        rcases ho with rfl | rfl | rfl
        · exact .inr ⟨_, _, rfl, fun x hx => by
            simp only [List.mem_cons, List.not_mem_nil, or_false] at hx
            rcases hx with rfl | rfl <;> exact .of (show pureB (.sl false (ints _)) = true by simp only [pureB, ints_pure])⟩
        · exact .inl rfl
        · exact .inl rfl
  | nil =>
    rw [List.append_nil] at hd
    subst hd
    have e1 : ¬ ((N.length : Int) < 40) := by omega
    simp only [run0, run1, run2, run3, run4, run5, run6, run7, run8, run9, run10, run11, run12, run13, run14, run15, run16, run17, run18, run19, run20, run21, run22, reduceCtorEq, Nat.reduceEqDiff, Nat.reduceAdd, Nat.reduceSub, Nat.reduceLeDiff, indexAddrA, indexRefA, appendA, strA, Nat.reduceMul, Nat.zero_mul, Nat.reduceMod, Int.reduceEq, Int.reduceLT, Int.reduceLE, Nat.reduceLT, Nat.lt_irrefl, Nat.reduceBEq, tys0, tys1, tys2, tys3, tys4, tys5, tys6, tys7, tys8, tys9, tys10, tys11, tys12, tys13, tys14, tys15, tys16, tys17, tys18, tys19, tys20, tys21, tys22, tys23, Try.ntmps30, Try.results30, e1]
    have hall : ∀ o ∈ (.box 24 [.sl false (g.map posE)] :: .vec 70 2 (1 + N.length) es :: X : List AObj), plainO o := by
      intro o ho
      rcases List.mem_cons.1 ho with rfl | ho
      · exact .inr ⟨_, _, rfl, fun x hx => by
          simp only [List.mem_cons, List.not_mem_nil, or_false] at hx
          subst hx
          exact .of (show pureB (.sl false (g.map posE)) = true by simp only [pureB, pg])⟩
      rcases List.mem_cons.1 ho with rfl | ho
      · exact .inl rfl
      · exact hX o ho
    have h0 : (.box 24 [.sl false (g.map posE)] :: .vec 70 2 (1 + N.length) es :: X : List AObj)[0]? = some (.box 24 [.sl false (g.map posE)]) := rfl
    have h1' : (.box 24 [.sl false (g.map posE)] :: .vec 70 2 (1 + N.length) es :: X : List AObj)[1]? = some (.vec 70 2 (1 + N.length) es) := rfl
    have hSv : ∀ i ∈ S, i ∈ vecs (.box 24 [.sl false (g.map posE)] :: .vec 70 2 (1 + N.length) es :: X) := fun i hi => by
      obtain ⟨es', _, hO⟩ := hM
      exact vecs_mem.2 (hO.lt i hi)
    generalize (.box 24 [.sl false (g.map posE)] :: .vec 70 2 (1 + N.length) es :: X : List AObj) = L at *
    have h0v : 0 ∉ vecs L := fun h => by
      obtain ⟨_, _, _, _, h⟩ := vecs_mem.1 h
      rw [h0] at h; cases h
    have h1v : 1 ∈ vecs L := vecs_mem.2 ⟨_, _, _, _, h1'⟩
    refine AWp.freezeAll (t' := [.junk, .int .i64 a, .ptr 0 0, .junk, .junk, .junk, .sl false ((g ++ N.map (mvP g.length)).map posE), .junk, .junk, .junk, .junk, .junk, .junk, .junk, .junk, .junk, .junk, .junk, .junk, .junk, .junk, .junk, .junk, .junk, .junk, .junk, .junk, .junk, .junk, .junk, .junk, .junk, .junk, .junk, .junk, .junk, .junk, .junk, .junk, .junk, .junk, .junk, .junk, .junk, .junk, .junk, .junk, .junk, .junk, .junk, .junk, .junk, .junk]) ?_ hall ?_
    · repeat' first | exact FrL.nil | apply FrL.drop | apply FrL.cons
      · exact FrV.pur' rfl
      · exact FrV.ptr h0v h0
      · exact hM.frV hSv h1v h1' (by simp)
    have hK0 : (killS (vecs L) L)[0]? = some (.box 24 [.sl false (g.map posE)]) := by rw [killS_out h0v]; exact h0
    simp only
    generalize killS (vecs L) L = K at *
    generalize hG : g ++ N.map (mvP g.length) = G at *
    have hGl : G.length = g.length + 40 := by rw [← hG]; simp [hnl]
    refine W.sound hmix (E := []) ?_
    simp only [run0, run1, run2, run3, run4, run5, run6, run7, run8, run9, run10, run11, run12, run13, run14, run15, run16, run17, run18, run19, run20, run21, run22, reduceCtorEq, Nat.reduceEqDiff, Nat.reduceAdd, Nat.reduceSub, Nat.reduceLeDiff, indexAddrA, indexRefA, appendA, strA, Nat.reduceMul, Nat.zero_mul, Nat.reduceMod, Int.reduceEq, Int.reduceLT, Int.reduceLE, Nat.reduceLT, Nat.lt_irrefl, Nat.reduceBEq, tys0, tys1, tys2, tys3, tys4, tys5, tys6, tys7, tys8, tys9, tys10, tys11, tys12, tys13, tys14, tys15, tys16, tys17, tys18, tys19, tys20, tys21, tys22, tys23, Try.ntmps30, Try.results30]
    refine RunL.call rfl rfl rfl ok_f59 rfl (.inl rfl) (newJudge_ok G K) ?_
    simp only [run0, run1, run2, run3, run4, run5, run6, run7, run8, run9, run10, run11, run12, run13, run14, run15, run16, run17, run18, run19, run20, run21, run22, reduceCtorEq, Nat.reduceEqDiff, Nat.reduceAdd, Nat.reduceSub, Nat.reduceLeDiff, indexAddrA, indexRefA, appendA, strA, Nat.reduceMul, Nat.zero_mul, Nat.reduceMod, Int.reduceEq, Int.reduceLT, Int.reduceLE, Nat.reduceLT, Nat.lt_irrefl, Nat.reduceBEq, tys0, tys1, tys2, tys3, tys4, tys5, tys6, tys7, tys8, tys9, tys10, tys11, tys12, tys13, tys14, tys15, tys16, tys17, tys18, tys19, tys20, tys21, tys22, tys23, Try.ntmps30, Try.results30]
    have hJ : (K ++ [memO [], .box 126 [.sl false (G.map posE), .map K.length]])[K.length + 1]? = some (.box 126 [.sl false (G.map posE), .map K.length]) := getX1 _ _
    have hml : K.length < (K ++ [memO [], .box 126 [.sl false (G.map posE), .map K.length]]).length := by simp
    have hb0 : (K ++ [memO [], .box 126 [.sl false (G.map posE), .map K.length]])[0]? = some (.box 24 [.sl false (g.map posE)]) := by
      rw [List.getElem?_append_left (List.getElem?_eq_some_iff.1 hK0).1]; exact hK0
    have hj0 : K ++ [memO [], .box 126 [.sl false (G.map posE), .map K.length]] = jsL (K ++ [memO [], .box 126 [.sl false (G.map posE), .map K.length]]) K.length ([], []) := by
      unfold jsL
      rw [setX0]; simp
    have hKl := (List.getElem?_eq_some_iff.1 hK0).1
    refine AWp.loop_inv (ι := Nat × JS) (fun q => ⟨[.junk, .int .i64 a, .ptr 0 0, .junk, .junk, .junk, .junk, .junk, .junk, .junk, .ptr (K.length + 1) 0, .junk, .junk, .junk, .junk, .junk, .junk, .junk, .junk, .junk, .junk, .junk, .junk, .junk, .junk, .junk, .junk, .junk, .junk, .junk, .junk, .junk, .junk, .junk, .junk, .junk, .junk, .junk, .junk, .junk, .int .i64 q.1, .junk, .junk, .junk, .junk, .junk, .junk, .junk, .junk, .junk, .junk, .junk, .junk], jsL (K ++ [memO [], .box 126 [.sl false (G.map posE), .map K.length]]) K.length q.2⟩)
      (fun q => q.1 ≤ 40 ∧ MemOk G q.2.1 ∧ nimS (fun n => cmpG G a (g.length + n) == 0) (40 - q.1) q.1 = nimS (fun n => cmpG G a (g.length + n) == 0) 40 0) (fun q => 40 - q.1) (0, ([], [])) ⟨by simp, MemOk.nil G, rfl⟩ ⟨by simp only [Int.natCast_zero]; repeat constructor, hj0⟩ ?_
    rintro ⟨n, s⟩ ⟨hn, hm, hS2⟩
    refine W.sound hmix (E := []) ?_
    simp only at hn hm hS2
    by_cases hn4 : n < 40
    case neg =>
      obtain rfl : n = 40 := by omega
      have e1 : ¬ (((40 : Nat) : Int) < 40) := by omega
      simp only [run0, run1, run2, run3, run4, run5, run6, run7, run8, run9, run10, run11, run12, run13, run14, run15, run16, run17, run18, run19, run20, run21, run22, reduceCtorEq, Nat.reduceEqDiff, Nat.reduceAdd, Nat.reduceSub, Nat.reduceLeDiff, indexAddrA, indexRefA, appendA, strA, Nat.reduceMul, Nat.zero_mul, Nat.reduceMod, Int.reduceEq, Int.reduceLT, Int.reduceLE, Nat.reduceLT, Nat.lt_irrefl, Nat.reduceBEq, tys0, tys1, tys2, tys3, tys4, tys5, tys6, tys7, tys8, tys9, tys10, tys11, tys12, tys13, tys14, tys15, tys16, tys17, tys18, tys19, tys20, tys21, tys22, tys23, Try.ntmps30, Try.results30, e1]
      exact Fin.eq (by rw [← hS2]; rfl) rfl
    have k1 : (n : Int) < 40 := by omega
    have k5 : IntKind.i64.wrap ((n : Int) + 1) = ((n + 1 : Nat) : Int) := by rw [i64_id (by omega) (by omega)]; simp
    have k6 : IntKind.i64.wrap ((g.length : Int) + (n : Int)) = ((g.length + n : Nat) : Int) := by rw [i64_id (by omega) (by omega)]; simp
    have hSn : nimS (fun n => cmpG G a (g.length + n) == 0) (40 - n) n = if cmpG G a (g.length + n) == 0 then some n else nimS (fun n => cmpG G a (g.length + n) == 0) (40 - (n + 1)) (n + 1) := by
      rw [show 40 - n = (40 - (n + 1)) + 1 by omega]; rfl
    rw [hSn] at hS2
    have hbs : (jsL (K ++ [memO [], .box 126 [.sl false (G.map posE), .map K.length]]) K.length s)[0]? = some (.box 24 [.sl false (g.map posE)]) := jsL_old hb0 (by omega)
    have cc := compareJ_ok G hj (by omega) a (g.length + n) (by omega) (by omega) _ (K.length + 1) K.length s hJ hml (by omega) hm
    have hm2 := cmpJ_law hj (a := a) (b := g.length + n) (by omega) (by omega) hm
    simp only [run0, run1, run2, run3, run4, run5, run6, run7, run8, run9, run10, run11, run12, run13, run14, run15, run16, run17, run18, run19, run20, run21, run22, reduceCtorEq, Nat.reduceEqDiff, Nat.reduceAdd, Nat.reduceSub, Nat.reduceLeDiff, indexAddrA, indexRefA, appendA, strA, Nat.reduceMul, Nat.zero_mul, Nat.reduceMod, Int.reduceEq, Int.reduceLT, Int.reduceLE, Nat.reduceLT, Nat.lt_irrefl, Nat.reduceBEq, tys0, tys1, tys2, tys3, tys4, tys5, tys6, tys7, tys8, tys9, tys10, tys11, tys12, tys13, tys14, tys15, tys16, tys17, tys18, tys19, tys20, tys21, tys22, tys23, Try.ntmps30, Try.results30, k1, k6, hbs, List.length_map]
    refine RunL.call rfl rfl rfl ok_f67 rfl (.inl rfl) cc ?_
    cases hc : cmpG G a (g.length + n) == 0
    · rw [hc] at hS2
      simp only [run0, run1, run2, run3, run4, run5, run6, run7, run8, run9, run10, run11, run12, run13, run14, run15, run16, run17, run18, run19, run20, run21, run22, reduceCtorEq, Nat.reduceEqDiff, Nat.reduceAdd, Nat.reduceSub, Nat.reduceLeDiff, indexAddrA, indexRefA, appendA, strA, Nat.reduceMul, Nat.zero_mul, Nat.reduceMod, Int.reduceEq, Int.reduceLT, Int.reduceLE, Nat.reduceLT, Nat.lt_irrefl, Nat.reduceBEq, tys0, tys1, tys2, tys3, tys4, tys5, tys6, tys7, tys8, tys9, tys10, tys11, tys12, tys13, tys14, tys15, tys16, tys17, tys18, tys19, tys20, tys21, tys22, tys23, Try.ntmps30, Try.results30, hc, k5]
      exact ⟨(n + 1, cmpJ G s a (g.length + n)), ⟨by simp only; omega, hm2, hS2⟩, by simp only; omega, by repeat constructor, rfl⟩
    · rw [hc] at hS2
      simp only [run0, run1, run2, run3, run4, run5, run6, run7, run8, run9, run10, run11, run12, run13, run14, run15, run16, run17, run18, run19, run20, run21, run22, reduceCtorEq, Nat.reduceEqDiff, Nat.reduceAdd, Nat.reduceSub, Nat.reduceLeDiff, indexAddrA, indexRefA, appendA, strA, Nat.reduceMul, Nat.zero_mul, Nat.reduceMod, Int.reduceEq, Int.reduceLT, Int.reduceLE, Nat.reduceLT, Nat.lt_irrefl, Nat.reduceBEq, tys0, tys1, tys2, tys3, tys4, tys5, tys6, tys7, tys8, tys9, tys10, tys11, tys12, tys13, tys14, tys15, tys16, tys17, tys18, tys19, tys20, tys21, tys22, tys23, Try.ntmps30, Try.results30, hc, k5]
      exact Fin.eq (by rw [← hS2]; rfl) rfl

end Go.Proofs.Ytllcljajlemmaaa
/-
  Nimbers of games: the law.
-/
namespace Go.Proofs.Ytllcljajlemmaaa
open Go K
set_option linter.unusedSimpArgs false
set_option linter.unusedVariables false
set_option maxHeartbeats 1600000
set_option maxRecDepth 8000

def nimV (g : List GP) (a : Int) : Int × Bool :=
  if hasB g a then (match nimS (fun n => cmpG (joinG g (nimG 40)) a.toNat (g.length + n) == 0) 40 0 with | some n => ((n : Int), true) | none => (0, false)) else (0, false)
def nimT (g : List GP) (a : Int) : AV := .tup [.int .i64 (nimV g a).1, .bool (nimV g a).2]
theorem nimT_eq (g : List GP) (a : Int) : nimR g a = nimT g a := by
  unfold nimR nimT nimV
  cases hasB g a
  · rfl
  · rw [if_pos rfl, if_pos rfl]
    cases nimS (fun n => cmpG (joinG g (nimG 40)) a.toNat (g.length + n) == 0) 40 0 <;> rfl
theorem specNimT_ok (g : List GP) (a : Int) (hl : g.length ≤ 1048576) (hs : ∀ p ∈ g, smallP p) : Ct Try.prog 29 [.sl false (g.map posE), .int .i64 a] [] (nimT g a) [] := nimT_eq g a ▸ specNim_ok g a hl hs
theorem implNimT_ok (g : List GP) (a : Int) (hl : g.length ≤ 1048576) (hs : ∀ p ∈ g, smallP p) : Ct Try.prog 30 [.sl false (g.map posE), .int .i64 a] [] (nimT g a) [] := nimT_eq g a ▸ implNim_ok g a hl hs
theorem FnExactNimberOfGame_ok {a0 a1 : AV} (h0 : IsOf Try.prog 22 a0) (h1 : IsOf Try.prog 3 a1) : Ct Try.prog 8 [a0, a1] [] (.bool true) [] := by
  obtain ⟨g, rfl, hl, hf⟩ := laws_isPoS h0
  obtain ⟨x1, rfl⟩ := int_in h1
  have pg := posL_pure g
  refine Ct.by_ hmix [] Try.func8 rfl ?_
  simp only [run0, run1, run2, run3, run4, run5, run6, run7, run8, run9, run10, run11, run12, run13, run14, run15, run16, run17, run18, run19, run20, run21, run22, reduceCtorEq, Nat.reduceEqDiff, Nat.reduceAdd, Nat.reduceSub, Nat.reduceLeDiff, indexAddrA, indexRefA, appendA, strA, Nat.reduceMul, Nat.zero_mul, Nat.reduceMod, Int.reduceEq, Int.reduceLT, Int.reduceLE, Nat.reduceLT, Nat.lt_irrefl, Nat.reduceBEq, tys0, tys1, tys2, tys3, tys4, tys5, tys6, tys7, tys8, tys9, tys10, tys11, tys12, tys13, tys14, tys15, tys16, tys17, tys18, tys19, tys20, tys21, tys22, tys23, Try.ntmps8, Try.results8]
  refine RunL.callp rfl rfl ok_f13 (szPositionS_ok g 1048576 hl hf (by omega) (by omega)) (by simp only [pureL, pureB, pg, Bool.and_self]) rfl ?_
  rcases szN_spec (g.length + gsz g) 1048576 with ⟨g1, g2⟩ | ⟨g1, g2⟩
  case inr =>
    have e1 : szN (g.length + gsz g) 1048576 < 0 := by omega
    simp only [run0, run1, run2, run3, run4, run5, run6, run7, run8, run9, run10, run11, run12, run13, run14, run15, run16, run17, run18, run19, run20, run21, run22, reduceCtorEq, Nat.reduceEqDiff, Nat.reduceAdd, Nat.reduceSub, Nat.reduceLeDiff, indexAddrA, indexRefA, appendA, strA, Nat.reduceMul, Nat.zero_mul, Nat.reduceMod, Int.reduceEq, Int.reduceLT, Int.reduceLE, Nat.reduceLT, Nat.lt_irrefl, Nat.reduceBEq, tys0, tys1, tys2, tys3, tys4, tys5, tys6, tys7, tys8, tys9, tys10, tys11, tys12, tys13, tys14, tys15, tys16, tys17, tys18, tys19, tys20, tys21, tys22, tys23, Try.ntmps8, Try.results8, e1]
    exact Fin.eq rfl rfl
  have e1 : ¬ szN (g.length + gsz g) 1048576 < 0 := by omega
  have gl : g.length ≤ 1048576 := by omega
  have gs : ∀ p ∈ g, smallP p := fun p hp => by have := gsz_mem hp; unfold psz at this; exact ⟨by omega, by omega⟩
  simp only [run0, run1, run2, run3, run4, run5, run6, run7, run8, run9, run10, run11, run12, run13, run14, run15, run16, run17, run18, run19, run20, run21, run22, reduceCtorEq, Nat.reduceEqDiff, Nat.reduceAdd, Nat.reduceSub, Nat.reduceLeDiff, indexAddrA, indexRefA, appendA, strA, Nat.reduceMul, Nat.zero_mul, Nat.reduceMod, Int.reduceEq, Int.reduceLT, Int.reduceLE, Nat.reduceLT, Nat.lt_irrefl, Nat.reduceBEq, tys0, tys1, tys2, tys3, tys4, tys5, tys6, tys7, tys8, tys9, tys10, tys11, tys12, tys13, tys14, tys15, tys16, tys17, tys18, tys19, tys20, tys21, tys22, tys23, Try.ntmps8, Try.results8, e1]
  refine RunL.callp rfl rfl ok_f15 (toPositionS_ok g gl gs) (by simp only [pureL, pureB, pg, Bool.and_self]) rfl ?_
  simp only [run0, run1, run2, run3, run4, run5, run6, run7, run8, run9, run10, run11, run12, run13, run14, run15, run16, run17, run18, run19, run20, run21, run22, reduceCtorEq, Nat.reduceEqDiff, Nat.reduceAdd, Nat.reduceSub, Nat.reduceLeDiff, indexAddrA, indexRefA, appendA, strA, Nat.reduceMul, Nat.zero_mul, Nat.reduceMod, Int.reduceEq, Int.reduceLT, Int.reduceLE, Nat.reduceLT, Nat.lt_irrefl, Nat.reduceBEq, tys0, tys1, tys2, tys3, tys4, tys5, tys6, tys7, tys8, tys9, tys10, tys11, tys12, tys13, tys14, tys15, tys16, tys17, tys18, tys19, tys20, tys21, tys22, tys23, Try.ntmps8, Try.results8]
  refine RunL.callp rfl rfl ok_f29 (specNimT_ok g x1 gl gs) (by simp only [pureL, pureB, pg, Bool.and_self]) rfl ?_
  simp only [run0, run1, run2, run3, run4, run5, run6, run7, run8, run9, run10, run11, run12, run13, run14, run15, run16, run17, run18, run19, run20, run21, run22, reduceCtorEq, Nat.reduceEqDiff, Nat.reduceAdd, Nat.reduceSub, Nat.reduceLeDiff, indexAddrA, indexRefA, appendA, strA, Nat.reduceMul, Nat.zero_mul, Nat.reduceMod, Int.reduceEq, Int.reduceLT, Int.reduceLE, Nat.reduceLT, Nat.lt_irrefl, Nat.reduceBEq, tys0, tys1, tys2, tys3, tys4, tys5, tys6, tys7, tys8, tys9, tys10, tys11, tys12, tys13, tys14, tys15, tys16, tys17, tys18, tys19, tys20, tys21, tys22, tys23, Try.ntmps8, Try.results8, nimT]
  refine RunL.callp rfl rfl ok_f15 (toPositionS_ok g gl gs) (by simp only [pureL, pureB, pg, Bool.and_self]) rfl ?_
  simp only [run0, run1, run2, run3, run4, run5, run6, run7, run8, run9, run10, run11, run12, run13, run14, run15, run16, run17, run18, run19, run20, run21, run22, reduceCtorEq, Nat.reduceEqDiff, Nat.reduceAdd, Nat.reduceSub, Nat.reduceLeDiff, indexAddrA, indexRefA, appendA, strA, Nat.reduceMul, Nat.zero_mul, Nat.reduceMod, Int.reduceEq, Int.reduceLT, Int.reduceLE, Nat.reduceLT, Nat.lt_irrefl, Nat.reduceBEq, tys0, tys1, tys2, tys3, tys4, tys5, tys6, tys7, tys8, tys9, tys10, tys11, tys12, tys13, tys14, tys15, tys16, tys17, tys18, tys19, tys20, tys21, tys22, tys23, Try.ntmps8, Try.results8]
  refine RunL.callp rfl rfl ok_f30 (implNimT_ok g x1 gl gs) (by simp only [pureL, pureB, pg, Bool.and_self]) rfl ?_
  simp only [run0, run1, run2, run3, run4, run5, run6, run7, run8, run9, run10, run11, run12, run13, run14, run15, run16, run17, run18, run19, run20, run21, run22, reduceCtorEq, Nat.reduceEqDiff, Nat.reduceAdd, Nat.reduceSub, Nat.reduceLeDiff, indexAddrA, indexRefA, appendA, strA, Nat.reduceMul, Nat.zero_mul, Nat.reduceMod, Int.reduceEq, Int.reduceLT, Int.reduceLE, Nat.reduceLT, Nat.lt_irrefl, Nat.reduceBEq, tys0, tys1, tys2, tys3, tys4, tys5, tys6, tys7, tys8, tys9, tys10, tys11, tys12, tys13, tys14, tys15, tys16, tys17, tys18, tys19, tys20, tys21, tys22, tys23, Try.ntmps8, Try.results8, nimT, bne_self_eq_false]
  refine RunL.callp rfl rfl ok_f15 (toPositionS_ok g gl gs) (by simp only [pureL, pureB, pg, Bool.and_self]) rfl ?_
  simp only [run0, run1, run2, run3, run4, run5, run6, run7, run8, run9, run10, run11, run12, run13, run14, run15, run16, run17, run18, run19, run20, run21, run22, reduceCtorEq, Nat.reduceEqDiff, Nat.reduceAdd, Nat.reduceSub, Nat.reduceLeDiff, indexAddrA, indexRefA, appendA, strA, Nat.reduceMul, Nat.zero_mul, Nat.reduceMod, Int.reduceEq, Int.reduceLT, Int.reduceLE, Nat.reduceLT, Nat.lt_irrefl, Nat.reduceBEq, tys0, tys1, tys2, tys3, tys4, tys5, tys6, tys7, tys8, tys9, tys10, tys11, tys12, tys13, tys14, tys15, tys16, tys17, tys18, tys19, tys20, tys21, tys22, tys23, Try.ntmps8, Try.results8]
  refine RunL.callp rfl rfl ok_f17 (eqPositionS_ok g gl gs) (by simp only [pureL, pureB, pg, Bool.and_self]) rfl ?_
  simp only [run0, run1, run2, run3, run4, run5, run6, run7, run8, run9, run10, run11, run12, run13, run14, run15, run16, run17, run18, run19, run20, run21, run22, reduceCtorEq, Nat.reduceEqDiff, Nat.reduceAdd, Nat.reduceSub, Nat.reduceLeDiff, indexAddrA, indexRefA, appendA, strA, Nat.reduceMul, Nat.zero_mul, Nat.reduceMod, Int.reduceEq, Int.reduceLT, Int.reduceLE, Nat.reduceLT, Nat.lt_irrefl, Nat.reduceBEq, tys0, tys1, tys2, tys3, tys4, tys5, tys6, tys7, tys8, tys9, tys10, tys11, tys12, tys13, tys14, tys15, tys16, tys17, tys18, tys19, tys20, tys21, tys22, tys23, Try.ntmps8, Try.results8]
  exact Fin.eq rfl rfl


end Go.Proofs.Ytllcljajlemmaaa
