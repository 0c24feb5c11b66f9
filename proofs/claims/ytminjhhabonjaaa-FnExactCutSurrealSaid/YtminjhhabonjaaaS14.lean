/-
  Surreals: copies of the program's and of the reference's own.
-/
import Derived.Test.YtminjhhabonjaaaS3
import Derived.Test.YtminjhhabonjaaaS6
namespace Go.Proofs.Ytminjhhabonjaaa
open Go K Su
set_option linter.unusedSimpArgs false
set_option linter.unusedVariables false
set_option maxHeartbeats 400000

structure ClS where
  d : Su
  r : Su
  es : List AV
  X : List AObj
  S : List Nat

theorem cloneS_ok (a : Su) (hs : a.sz ≤ 1048576) : ∃ x M, Ct Try.prog 30 [av a] [] (.agg [x]) M ∧ Own M a x := by
  have hl := len_le a
  suffices h : ∃ r M, Ct Try.prog 30 [av a] [] r M ∧ (∃ x, r = .agg [x] ∧ Own M a x) by
    obtain ⟨r, M, h1, x, rfl, h2⟩ := h
    exact ⟨x, M, h1, h2⟩
  refine Ct.ex hmix [8000000, 2000000 + 30] Try.func30 rfl ?_
  simp only [run0, run1, run2, run3, run4, run5, run6, run7, run8, run9, run10, run11, run12, run13, run14, run15, run16, run17, run18, run19, run20, run21, run22, reduceCtorEq, Nat.reduceEqDiff, Nat.reduceAdd, Nat.reduceSub, Nat.reduceLeDiff, indexAddrA, indexRefA, appendA, strA, Nat.reduceMul, Nat.zero_mul, Nat.reduceMod, Int.reduceEq, Int.reduceLT, Int.reduceLE, Nat.reduceLT, Nat.lt_irrefl, Nat.reduceBEq, tys0, tys1, tys2, tys3, tys4, tys5, tys6, tys7, tys8, tys9, tys10, tys11, tys12, tys13, tys14, tys15, tys16, tys17, tys18, tys19, tys20, tys21, tys22, tys23, Try.ntmps30, Try.results30, av, elems_length]
  refine AWp.nilB_ex 2 0 62 3 rfl rfl ?_
  simp only [run0, run1, run2, run3, run4, run5, run6, run7, run8, run9, run10, run11, run12, run13, run14, run15, run16, run17, run18, run19, run20, run21, run22, reduceCtorEq, Nat.reduceEqDiff, Nat.reduceAdd, Nat.reduceSub, Nat.reduceLeDiff, indexAddrA, indexRefA, appendA, strA, Nat.reduceMul, Nat.zero_mul, Nat.reduceMod, Int.reduceEq, Int.reduceLT, Int.reduceLE, Nat.reduceLT, Nat.lt_irrefl, Nat.reduceBEq, tys0, tys1, tys2, tys3, tys4, tys5, tys6, tys7, tys8, tys9, tys10, tys11, tys12, tys13, tys14, tys15, tys16, tys17, tys18, tys19, tys20, tys21, tys22, tys23, Try.ntmps30, Try.results30]
  refine AWp.loop_exK (ι := ClS) (fun p => ⟨[.agg [.sl false (elems a)], .ptr 0 0, .ptr 1 0, .ptr 2 0, .junk, .junk, .junk, .junk, .sl false (elems a), .int .i64 a.len, .int .i64 p.d.len, .junk, .junk, .junk, .junk, .junk, .junk, .junk, .junk, .junk, .junk, .junk, .junk, .junk, .junk, .junk, .junk],
      .box 39 [.sl false (elems a)] :: .box 39 [.lit (.slice none 0 0)] :: .box 39 [.ref 3 [] p.d.len p.d.len] :: .vec 62 3 p.d.len p.es :: p.X⟩)
    (fun p => a = p.d.app p.r ∧ OwnE (.box 39 [.sl false (elems a)] :: .box 39 [.lit (.slice none 0 0)] :: .box 39 [.ref 3 [] p.d.len p.d.len] :: .vec 62 3 p.d.len p.es :: p.X) 62 3 p.d p.es p.S ∧ p.S.Nodup ∧ 3 ∉ p.S)
    (fun p => p.r.len) ⟨.nil, a, [], [], []⟩ ⟨rfl, ⟨rfl, rfl⟩, by simp, by simp⟩ ⟨by simp only [len, Int.natCast_zero]; repeat constructor, rfl⟩ ?_
  rintro ⟨d, r, es, X, S⟩ ⟨ha, ho, hn, h3⟩
  simp only at ha ho hn h3
  have hel := ho.length
  have hda : d.len + r.len = a.len := by rw [ha, len_app]
  cases r with
  | nil =>
    left
    obtain ⟨e1, e2⟩ := od_end ha
    subst e2
    refine ⟨.agg [.ref 3 [] a.len a.len], ?_⟩
    apply ex1
    · refine W.sound hmix (E := [8000000, 2000000 + 30]) ?_
      simp only [run0, run1, run2, run3, run4, run5, run6, run7, run8, run9, run10, run11, run12, run13, run14, run15, run16, run17, run18, run19, run20, run21, run22, reduceCtorEq, Nat.reduceEqDiff, Nat.reduceAdd, Nat.reduceSub, Nat.reduceLeDiff, indexAddrA, indexRefA, appendA, strA, Nat.reduceMul, Nat.zero_mul, Nat.reduceMod, Int.reduceEq, Int.reduceLT, Int.reduceLE, Nat.reduceLT, Nat.lt_irrefl, Nat.reduceBEq, tys0, tys1, tys2, tys3, tys4, tys5, tys6, tys7, tys8, tys9, tys10, tys11, tys12, tys13, tys14, tys15, tys16, tys17, tys18, tys19, tys20, tys21, tys22, tys23, Try.ntmps30, Try.results30, elems_length, e1]
      exact Fin.keep (3 :: S) rfl rfl
    · refine ⟨_, rfl, 3 :: S, OwnR.keep (.inr ⟨3, a.len, es, S, by rw [hel], rfl, rfl, ?_⟩) fun _ h => h, List.nodup_cons.2 ⟨h3, hn⟩, keepS_okSO _ _⟩
      refine ho.mono fun id hid g es1 hL => ?_
      rcases id with _ | _ | _ | _ | id
      · cases hL
      · cases hL
      · cases hL
      · exact absurd hid h3
      · exact hL
  | cons e c r =>
    right
    obtain ⟨e1, e2, e5, hlt, hnx, _⟩ := od_step ha hs
    simp only [len] at hda
    obtain ⟨x, M, hc, S1, hx, hn1, hM⟩ := cloneS_ok e (by omega)
    have f1 : (es.length + 1) ≤ 137438953472 := by omega
    have f2 : (d.len : Nat) + 1 ≤ 137438953472 := by omega
    have f3 := ho.form.2.1
    have hdl : (d.app (cons e c nil)).len = d.len + 1 := by rw [len_app]; rfl
    have hlt0 := ho.lt
    simp only [List.length_cons] at hlt0
    -- what the call leaves, by its shape
    have fin : ∀ x', x' = shA (X.length + 5) x → ∀ (t : List AV), 
        OwnE (.box 39 [.sl false (elems a)] :: .box 39 [.lit (.slice none 0 0)] :: .box 39 [.ref 3 [] (d.len + 1) (d.len + 1)] :: .vec 62 3 (d.len + 1) (es ++ [.agg [x', .int .i64 c.1, .int .i64 c.2]]) :: (X ++ (.box 62 [.sl false (elems e), .int .i64 c.1, .int .i64 c.2] :: M.map (shO (X.length + 5))))) 62 3 (d.app (cons e c nil)) (es ++ [.agg [x', .int .i64 c.1, .int .i64 c.2]]) (S ++ S1.map (· + (X.length + 5))) ∧
        (S ++ S1.map (· + (X.length + 5))).Nodup ∧ 3 ∉ (S ++ S1.map (· + (X.length + 5))) := by
      rintro x' rfl t
      refine ⟨OwnE.app (OwnE.one (OwnR.sh (fun id => ?_) hx) c) (ho.mono fun id hid g es1 hL => ?_), List.nodup_append.2 ⟨hn, nodup_add _ hn1, fun u hu v hv => ?_⟩, ?_⟩
      · rw [show id + (X.length + 5) = (id + X.length + 1) + 4 by omega]
        simp only [List.getElem?_cons_succ]
        rw [List.getElem?_append_right (by omega), show id + X.length + 1 - X.length = id + 1 by omega, List.getElem?_cons_succ, List.getElem?_map]
      · rcases id with _ | _ | _ | _ | id
        · cases hL
        · cases hL
        · cases hL
        · exact absurd hid h3
        · simp only [List.getElem?_cons_succ] at hL ⊢
          rw [List.getElem?_append_left (List.getElem?_eq_some_iff.1 hL).1]; exact hL
      · have := hlt0 u hu
        simp only [List.mem_map] at hv
        obtain ⟨q, _, rfl⟩ := hv
        omega
      · simp only [List.mem_append, not_or, List.mem_map]
        exact ⟨h3, fun ⟨q, _, hq⟩ => by omega⟩
    rcases hx.shape with rfl | ⟨id, g, n, rfl⟩
    · obtain ⟨q1, q2, q3⟩ := fin nilV rfl []
      refine ⟨⟨d.app (cons e c nil), r, es ++ [.agg [nilV, .int .i64 c.1, .int .i64 c.2]], X ++ (.box 62 [.sl false (elems e), .int .i64 c.1, .int .i64 c.2] :: M.map (shO (X.length + 5))), S ++ S1.map (· + (X.length + 5))⟩, ⟨hnx.symm, by rw [hdl]; exact q1, q2, q3⟩, by simp [len], ?_⟩
      refine W.sound hmix (E := [8000000, 2000000 + 30]) ?_
      simp only [run0, run1, run2, run3, run4, run5, run6, run7, run8, run9, run10, run11, run12, run13, run14, run15, run16, run17, run18, run19, run20, run21, run22, reduceCtorEq, Nat.reduceEqDiff, Nat.reduceAdd, Nat.reduceSub, Nat.reduceLeDiff, indexAddrA, indexRefA, appendA, strA, Nat.reduceMul, Nat.zero_mul, Nat.reduceMod, Int.reduceEq, Int.reduceLT, Int.reduceLE, Nat.reduceLT, Nat.lt_irrefl, Nat.reduceBEq, tys0, tys1, tys2, tys3, tys4, tys5, tys6, tys7, tys8, tys9, tys10, tys11, tys12, tys13, tys14, tys15, tys16, tys17, tys18, tys19, tys20, tys21, tys22, tys23, Try.ntmps30, Try.results30, elems_length, e1, e2, Int.toNat_natCast, Int.natCast_nonneg]
      refine ⟨[0,1,2,3,5,6,4,7,8,9,10,11], by kernel_rfl, ?_⟩
      simp only [run0, run1, run2, run3, run4, run5, run6, run7, run8, run9, run10, run11, run12, run13, run14, run15, run16, run17, run18, run19, run20, run21, run22, reduceCtorEq, Nat.reduceEqDiff, Nat.reduceAdd, Nat.reduceSub, Nat.reduceLeDiff, indexAddrA, indexRefA, appendA, strA, Nat.reduceMul, Nat.zero_mul, Nat.reduceMod, Int.reduceEq, Int.reduceLT, Int.reduceLE, Nat.reduceLT, Nat.lt_irrefl, Nat.reduceBEq, tys0, tys1, tys2, tys3, tys4, tys5, tys6, tys7, tys8, tys9, tys10, tys11, tys12, tys13, tys14, tys15, tys16, tys17, tys18, tys19, tys20, tys21, tys22, tys23, Try.ntmps30, Try.results30]
      refine RunL.callgp rfl rfl ok_f30 rfl hc (by simp only [pureL, pureB, av_pure, Bool.and_self]) rfl ?_
      simp only [run0, run1, run2, run3, run4, run5, run6, run7, run8, run9, run10, run11, run12, run13, run14, run15, run16, run17, run18, run19, run20, run21, run22, reduceCtorEq, Nat.reduceEqDiff, Nat.reduceAdd, Nat.reduceSub, Nat.reduceLeDiff, indexAddrA, indexRefA, appendA, strA, Nat.reduceMul, Nat.zero_mul, Nat.reduceMod, Int.reduceEq, Int.reduceLT, Int.reduceLE, Nat.reduceLT, Nat.lt_irrefl, Nat.reduceBEq, tys0, tys1, tys2, tys3, tys4, tys5, tys6, tys7, tys8, tys9, tys10, tys11, tys12, tys13, tys14, tys15, tys16, tys17, tys18, tys19, tys20, tys21, tys22, tys23, Try.ntmps30, Try.results30, nilV, shA, shL, hel, f2, f3, e5, hdl, eq_self]
      repeat constructor
    · obtain ⟨q1, q2, q3⟩ := fin (.ref (id + (X.length + 5)) [] g n) (by simp [shA]) []
      refine ⟨⟨d.app (cons e c nil), r, es ++ [.agg [.ref (id + (X.length + 5)) [] g n, .int .i64 c.1, .int .i64 c.2]], X ++ (.box 62 [.sl false (elems e), .int .i64 c.1, .int .i64 c.2] :: M.map (shO (X.length + 5))), S ++ S1.map (· + (X.length + 5))⟩, ⟨hnx.symm, by rw [hdl]; exact q1, q2, q3⟩, by simp [len], ?_⟩
      refine W.sound hmix (E := [8000000, 2000000 + 30]) ?_
      simp only [run0, run1, run2, run3, run4, run5, run6, run7, run8, run9, run10, run11, run12, run13, run14, run15, run16, run17, run18, run19, run20, run21, run22, reduceCtorEq, Nat.reduceEqDiff, Nat.reduceAdd, Nat.reduceSub, Nat.reduceLeDiff, indexAddrA, indexRefA, appendA, strA, Nat.reduceMul, Nat.zero_mul, Nat.reduceMod, Int.reduceEq, Int.reduceLT, Int.reduceLE, Nat.reduceLT, Nat.lt_irrefl, Nat.reduceBEq, tys0, tys1, tys2, tys3, tys4, tys5, tys6, tys7, tys8, tys9, tys10, tys11, tys12, tys13, tys14, tys15, tys16, tys17, tys18, tys19, tys20, tys21, tys22, tys23, Try.ntmps30, Try.results30, elems_length, e1, e2, Int.toNat_natCast, Int.natCast_nonneg]
      refine ⟨[0,1,2,3,5,6,4,7,8,9,10,11], by kernel_rfl, ?_⟩
      simp only [run0, run1, run2, run3, run4, run5, run6, run7, run8, run9, run10, run11, run12, run13, run14, run15, run16, run17, run18, run19, run20, run21, run22, reduceCtorEq, Nat.reduceEqDiff, Nat.reduceAdd, Nat.reduceSub, Nat.reduceLeDiff, indexAddrA, indexRefA, appendA, strA, Nat.reduceMul, Nat.zero_mul, Nat.reduceMod, Int.reduceEq, Int.reduceLT, Int.reduceLE, Nat.reduceLT, Nat.lt_irrefl, Nat.reduceBEq, tys0, tys1, tys2, tys3, tys4, tys5, tys6, tys7, tys8, tys9, tys10, tys11, tys12, tys13, tys14, tys15, tys16, tys17, tys18, tys19, tys20, tys21, tys22, tys23, Try.ntmps30, Try.results30]
      refine RunL.callgp rfl rfl ok_f30 rfl hc (by simp only [pureL, pureB, av_pure, Bool.and_self]) rfl ?_
      simp only [run0, run1, run2, run3, run4, run5, run6, run7, run8, run9, run10, run11, run12, run13, run14, run15, run16, run17, run18, run19, run20, run21, run22, reduceCtorEq, Nat.reduceEqDiff, Nat.reduceAdd, Nat.reduceSub, Nat.reduceLeDiff, indexAddrA, indexRefA, appendA, strA, Nat.reduceMul, Nat.zero_mul, Nat.reduceMod, Int.reduceEq, Int.reduceLT, Int.reduceLE, Nat.reduceLT, Nat.lt_irrefl, Nat.reduceBEq, tys0, tys1, tys2, tys3, tys4, tys5, tys6, tys7, tys8, tys9, tys10, tys11, tys12, tys13, tys14, tys15, tys16, tys17, tys18, tys19, tys20, tys21, tys22, tys23, Try.ntmps30, Try.results30, nilV, shA, shL, hel, f2, f3, e5, hdl, eq_self]
      repeat constructor
termination_by a.sz

structure ClS2 where
  d : Su
  r : Su
  es : List AV
  X : List AObj
  S : List Nat

theorem ownS_ok (a : Su) (hs : a.sz ≤ 1048576) : ∃ x M, Ct Try.prog 26 [av a] [] (.agg [x]) M ∧ Own M a x := by
  have hl := len_le a
  suffices h : ∃ r M, Ct Try.prog 26 [av a] [] r M ∧ (∃ x, r = .agg [x] ∧ Own M a x) by
    obtain ⟨r, M, h1, x, rfl, h2⟩ := h
    exact ⟨x, M, h1, h2⟩
  refine Ct.ex hmix [8000000, 2000000 + 26] Try.func26 rfl ?_
  simp only [run0, run1, run2, run3, run4, run5, run6, run7, run8, run9, run10, run11, run12, run13, run14, run15, run16, run17, run18, run19, run20, run21, run22, reduceCtorEq, Nat.reduceEqDiff, Nat.reduceAdd, Nat.reduceSub, Nat.reduceLeDiff, indexAddrA, indexRefA, appendA, strA, Nat.reduceMul, Nat.zero_mul, Nat.reduceMod, Int.reduceEq, Int.reduceLT, Int.reduceLE, Nat.reduceLT, Nat.lt_irrefl, Nat.reduceBEq, tys0, tys1, tys2, tys3, tys4, tys5, tys6, tys7, tys8, tys9, tys10, tys11, tys12, tys13, tys14, tys15, tys16, tys17, tys18, tys19, tys20, tys21, tys22, tys23, Try.ntmps26, Try.results26, av, elems_length]
  refine AWp.nilB_ex 2 0 62 3 rfl rfl ?_
  simp only [run0, run1, run2, run3, run4, run5, run6, run7, run8, run9, run10, run11, run12, run13, run14, run15, run16, run17, run18, run19, run20, run21, run22, reduceCtorEq, Nat.reduceEqDiff, Nat.reduceAdd, Nat.reduceSub, Nat.reduceLeDiff, indexAddrA, indexRefA, appendA, strA, Nat.reduceMul, Nat.zero_mul, Nat.reduceMod, Int.reduceEq, Int.reduceLT, Int.reduceLE, Nat.reduceLT, Nat.lt_irrefl, Nat.reduceBEq, tys0, tys1, tys2, tys3, tys4, tys5, tys6, tys7, tys8, tys9, tys10, tys11, tys12, tys13, tys14, tys15, tys16, tys17, tys18, tys19, tys20, tys21, tys22, tys23, Try.ntmps26, Try.results26]
  refine AWp.loop_exK (ι := ClS2) (fun p => ⟨[.agg [.sl false (elems a)], .ptr 0 0, .ptr 1 0, .ptr 2 0, .junk, .junk, .junk, .junk, .sl false (elems a), .int .i64 a.len, .int .i64 p.d.len, .junk, .junk, .junk, .junk, .junk, .junk, .junk, .junk, .junk, .junk, .junk, .junk, .junk, .junk, .junk, .junk],
      .box 39 [.sl false (elems a)] :: .box 39 [.lit (.slice none 0 0)] :: .box 39 [.ref 3 [] p.d.len p.d.len] :: .vec 62 3 p.d.len p.es :: p.X⟩)
    (fun p => a = p.d.app p.r ∧ OwnE (.box 39 [.sl false (elems a)] :: .box 39 [.lit (.slice none 0 0)] :: .box 39 [.ref 3 [] p.d.len p.d.len] :: .vec 62 3 p.d.len p.es :: p.X) 62 3 p.d p.es p.S ∧ p.S.Nodup ∧ 3 ∉ p.S)
    (fun p => p.r.len) ⟨.nil, a, [], [], []⟩ ⟨rfl, ⟨rfl, rfl⟩, by simp, by simp⟩ ⟨by simp only [len, Int.natCast_zero]; repeat constructor, rfl⟩ ?_
  rintro ⟨d, r, es, X, S⟩ ⟨ha, ho, hn, h3⟩
  simp only at ha ho hn h3
  have hel := ho.length
  have hda : d.len + r.len = a.len := by rw [ha, len_app]
  cases r with
  | nil =>
    left
    obtain ⟨e1, e2⟩ := od_end ha
    subst e2
    refine ⟨.agg [.ref 3 [] a.len a.len], ?_⟩
    apply ex1
    · refine W.sound hmix (E := [8000000, 2000000 + 26]) ?_
      simp only [run0, run1, run2, run3, run4, run5, run6, run7, run8, run9, run10, run11, run12, run13, run14, run15, run16, run17, run18, run19, run20, run21, run22, reduceCtorEq, Nat.reduceEqDiff, Nat.reduceAdd, Nat.reduceSub, Nat.reduceLeDiff, indexAddrA, indexRefA, appendA, strA, Nat.reduceMul, Nat.zero_mul, Nat.reduceMod, Int.reduceEq, Int.reduceLT, Int.reduceLE, Nat.reduceLT, Nat.lt_irrefl, Nat.reduceBEq, tys0, tys1, tys2, tys3, tys4, tys5, tys6, tys7, tys8, tys9, tys10, tys11, tys12, tys13, tys14, tys15, tys16, tys17, tys18, tys19, tys20, tys21, tys22, tys23, Try.ntmps26, Try.results26, elems_length, e1]
      exact Fin.keep (3 :: S) rfl rfl
    · refine ⟨_, rfl, 3 :: S, OwnR.keep (.inr ⟨3, a.len, es, S, by rw [hel], rfl, rfl, ?_⟩) fun _ h => h, List.nodup_cons.2 ⟨h3, hn⟩, keepS_okSO _ _⟩
      refine ho.mono fun id hid g es1 hL => ?_
      rcases id with _ | _ | _ | _ | id
      · cases hL
      · cases hL
      · cases hL
      · exact absurd hid h3
      · exact hL
  | cons e c r =>
    right
    obtain ⟨e1, e2, e5, hlt, hnx, _⟩ := od_step ha hs
    simp only [len] at hda
    obtain ⟨x, M, hc, S1, hx, hn1, hM⟩ := ownS_ok e (by omega)
    have f1 : (es.length + 1) ≤ 137438953472 := by omega
    have f2 : (d.len : Nat) + 1 ≤ 137438953472 := by omega
    have f3 := ho.form.2.1
    have hdl : (d.app (cons e c nil)).len = d.len + 1 := by rw [len_app]; rfl
    have hlt0 := ho.lt
    simp only [List.length_cons] at hlt0
    -- what the call leaves, by its shape
    have fin : ∀ x', x' = shA (X.length + 5) x → ∀ (t : List AV), 
        OwnE (.box 39 [.sl false (elems a)] :: .box 39 [.lit (.slice none 0 0)] :: .box 39 [.ref 3 [] (d.len + 1) (d.len + 1)] :: .vec 62 3 (d.len + 1) (es ++ [.agg [x', .int .i64 c.1, .int .i64 c.2]]) :: (X ++ (.box 62 [.sl false (elems e), .int .i64 c.1, .int .i64 c.2] :: M.map (shO (X.length + 5))))) 62 3 (d.app (cons e c nil)) (es ++ [.agg [x', .int .i64 c.1, .int .i64 c.2]]) (S ++ S1.map (· + (X.length + 5))) ∧
        (S ++ S1.map (· + (X.length + 5))).Nodup ∧ 3 ∉ (S ++ S1.map (· + (X.length + 5))) := by
      rintro x' rfl t
      refine ⟨OwnE.app (OwnE.one (OwnR.sh (fun id => ?_) hx) c) (ho.mono fun id hid g es1 hL => ?_), List.nodup_append.2 ⟨hn, nodup_add _ hn1, fun u hu v hv => ?_⟩, ?_⟩
      · rw [show id + (X.length + 5) = (id + X.length + 1) + 4 by omega]
        simp only [List.getElem?_cons_succ]
        rw [List.getElem?_append_right (by omega), show id + X.length + 1 - X.length = id + 1 by omega, List.getElem?_cons_succ, List.getElem?_map]
      · rcases id with _ | _ | _ | _ | id
        · cases hL
        · cases hL
        · cases hL
        · exact absurd hid h3
        · simp only [List.getElem?_cons_succ] at hL ⊢
          rw [List.getElem?_append_left (List.getElem?_eq_some_iff.1 hL).1]; exact hL
      · have := hlt0 u hu
        simp only [List.mem_map] at hv
        obtain ⟨q, _, rfl⟩ := hv
        omega
      · simp only [List.mem_append, not_or, List.mem_map]
        exact ⟨h3, fun ⟨q, _, hq⟩ => by omega⟩
    rcases hx.shape with rfl | ⟨id, g, n, rfl⟩
    · obtain ⟨q1, q2, q3⟩ := fin nilV rfl []
      refine ⟨⟨d.app (cons e c nil), r, es ++ [.agg [nilV, .int .i64 c.1, .int .i64 c.2]], X ++ (.box 62 [.sl false (elems e), .int .i64 c.1, .int .i64 c.2] :: M.map (shO (X.length + 5))), S ++ S1.map (· + (X.length + 5))⟩, ⟨hnx.symm, by rw [hdl]; exact q1, q2, q3⟩, by simp [len], ?_⟩
      refine W.sound hmix (E := [8000000, 2000000 + 26]) ?_
      simp only [run0, run1, run2, run3, run4, run5, run6, run7, run8, run9, run10, run11, run12, run13, run14, run15, run16, run17, run18, run19, run20, run21, run22, reduceCtorEq, Nat.reduceEqDiff, Nat.reduceAdd, Nat.reduceSub, Nat.reduceLeDiff, indexAddrA, indexRefA, appendA, strA, Nat.reduceMul, Nat.zero_mul, Nat.reduceMod, Int.reduceEq, Int.reduceLT, Int.reduceLE, Nat.reduceLT, Nat.lt_irrefl, Nat.reduceBEq, tys0, tys1, tys2, tys3, tys4, tys5, tys6, tys7, tys8, tys9, tys10, tys11, tys12, tys13, tys14, tys15, tys16, tys17, tys18, tys19, tys20, tys21, tys22, tys23, Try.ntmps26, Try.results26, elems_length, e1, e2, Int.toNat_natCast, Int.natCast_nonneg]
      refine ⟨[0,1,2,3,5,6,4,7,8,9,10,11], by kernel_rfl, ?_⟩
      simp only [run0, run1, run2, run3, run4, run5, run6, run7, run8, run9, run10, run11, run12, run13, run14, run15, run16, run17, run18, run19, run20, run21, run22, reduceCtorEq, Nat.reduceEqDiff, Nat.reduceAdd, Nat.reduceSub, Nat.reduceLeDiff, indexAddrA, indexRefA, appendA, strA, Nat.reduceMul, Nat.zero_mul, Nat.reduceMod, Int.reduceEq, Int.reduceLT, Int.reduceLE, Nat.reduceLT, Nat.lt_irrefl, Nat.reduceBEq, tys0, tys1, tys2, tys3, tys4, tys5, tys6, tys7, tys8, tys9, tys10, tys11, tys12, tys13, tys14, tys15, tys16, tys17, tys18, tys19, tys20, tys21, tys22, tys23, Try.ntmps26, Try.results26]
      refine RunL.callgp rfl rfl ok_f26 rfl hc (by simp only [pureL, pureB, av_pure, Bool.and_self]) rfl ?_
      simp only [run0, run1, run2, run3, run4, run5, run6, run7, run8, run9, run10, run11, run12, run13, run14, run15, run16, run17, run18, run19, run20, run21, run22, reduceCtorEq, Nat.reduceEqDiff, Nat.reduceAdd, Nat.reduceSub, Nat.reduceLeDiff, indexAddrA, indexRefA, appendA, strA, Nat.reduceMul, Nat.zero_mul, Nat.reduceMod, Int.reduceEq, Int.reduceLT, Int.reduceLE, Nat.reduceLT, Nat.lt_irrefl, Nat.reduceBEq, tys0, tys1, tys2, tys3, tys4, tys5, tys6, tys7, tys8, tys9, tys10, tys11, tys12, tys13, tys14, tys15, tys16, tys17, tys18, tys19, tys20, tys21, tys22, tys23, Try.ntmps26, Try.results26, nilV, shA, shL, hel, f2, f3, e5, hdl, eq_self]
      repeat constructor
    · obtain ⟨q1, q2, q3⟩ := fin (.ref (id + (X.length + 5)) [] g n) (by simp [shA]) []
      refine ⟨⟨d.app (cons e c nil), r, es ++ [.agg [.ref (id + (X.length + 5)) [] g n, .int .i64 c.1, .int .i64 c.2]], X ++ (.box 62 [.sl false (elems e), .int .i64 c.1, .int .i64 c.2] :: M.map (shO (X.length + 5))), S ++ S1.map (· + (X.length + 5))⟩, ⟨hnx.symm, by rw [hdl]; exact q1, q2, q3⟩, by simp [len], ?_⟩
      refine W.sound hmix (E := [8000000, 2000000 + 26]) ?_
      simp only [run0, run1, run2, run3, run4, run5, run6, run7, run8, run9, run10, run11, run12, run13, run14, run15, run16, run17, run18, run19, run20, run21, run22, reduceCtorEq, Nat.reduceEqDiff, Nat.reduceAdd, Nat.reduceSub, Nat.reduceLeDiff, indexAddrA, indexRefA, appendA, strA, Nat.reduceMul, Nat.zero_mul, Nat.reduceMod, Int.reduceEq, Int.reduceLT, Int.reduceLE, Nat.reduceLT, Nat.lt_irrefl, Nat.reduceBEq, tys0, tys1, tys2, tys3, tys4, tys5, tys6, tys7, tys8, tys9, tys10, tys11, tys12, tys13, tys14, tys15, tys16, tys17, tys18, tys19, tys20, tys21, tys22, tys23, Try.ntmps26, Try.results26, elems_length, e1, e2, Int.toNat_natCast, Int.natCast_nonneg]
      refine ⟨[0,1,2,3,5,6,4,7,8,9,10,11], by kernel_rfl, ?_⟩
      simp only [run0, run1, run2, run3, run4, run5, run6, run7, run8, run9, run10, run11, run12, run13, run14, run15, run16, run17, run18, run19, run20, run21, run22, reduceCtorEq, Nat.reduceEqDiff, Nat.reduceAdd, Nat.reduceSub, Nat.reduceLeDiff, indexAddrA, indexRefA, appendA, strA, Nat.reduceMul, Nat.zero_mul, Nat.reduceMod, Int.reduceEq, Int.reduceLT, Int.reduceLE, Nat.reduceLT, Nat.lt_irrefl, Nat.reduceBEq, tys0, tys1, tys2, tys3, tys4, tys5, tys6, tys7, tys8, tys9, tys10, tys11, tys12, tys13, tys14, tys15, tys16, tys17, tys18, tys19, tys20, tys21, tys22, tys23, Try.ntmps26, Try.results26]
      refine RunL.callgp rfl rfl ok_f26 rfl hc (by simp only [pureL, pureB, av_pure, Bool.and_self]) rfl ?_
      simp only [run0, run1, run2, run3, run4, run5, run6, run7, run8, run9, run10, run11, run12, run13, run14, run15, run16, run17, run18, run19, run20, run21, run22, reduceCtorEq, Nat.reduceEqDiff, Nat.reduceAdd, Nat.reduceSub, Nat.reduceLeDiff, indexAddrA, indexRefA, appendA, strA, Nat.reduceMul, Nat.zero_mul, Nat.reduceMod, Int.reduceEq, Int.reduceLT, Int.reduceLE, Nat.reduceLT, Nat.lt_irrefl, Nat.reduceBEq, tys0, tys1, tys2, tys3, tys4, tys5, tys6, tys7, tys8, tys9, tys10, tys11, tys12, tys13, tys14, tys15, tys16, tys17, tys18, tys19, tys20, tys21, tys22, tys23, Try.ntmps26, Try.results26, nilV, shA, shL, hel, f2, f3, e5, hdl, eq_self]
      repeat constructor
termination_by a.sz

end Go.Proofs.Ytminjhhabonjaaa
