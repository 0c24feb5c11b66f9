/-
  Texts joined in one: LBD.
-/
import Derived.Test.YtllcljajlemmaaaMAddGamE
/-
  Sums of games: the law.
-/
namespace Go.Proofs.Ytllcljajlemmaaa
open Go K
set_option linter.unusedSimpArgs false
set_option linter.unusedVariables false
set_option maxHeartbeats 3200000
set_option maxRecDepth 8000

theorem nodup_addk {S : List Nat} (k : Nat) (h : S.Nodup) : (S.map (· + k)).Nodup := by
  unfold List.Nodup at *
  rw [List.pairwise_map]
  exact h.imp fun h1 h2 => h1 (by omega)
theorem sumG_small (g h : List GP) : (sumG g h).length ≤ 1000 ∧ ∀ p ∈ sumG g h, psz p ≤ 1000 := by
  unfold sumG
  split
  · rename_i hB
    simp only [addB, Bool.and_eq_true, decide_eq_true_eq] at hB
    obtain ⟨⟨h1, h2⟩, h3⟩ := hB
    refine ⟨by rw [addL_len]; omega, ?_⟩
    have key : ∀ n, n ≤ g.length → ∀ p ∈ addL g h n, psz p ≤ 1000 := by
      intro n
      induction n with
      | zero => intro _ p hp; cases hp
      | succ n ih =>
        intro hn p hp
        rcases List.mem_append.1 hp with hp | hp
        · exact ih (by omega) p hp
        · obtain ⟨k, hk, rfl⟩ := List.mem_map.1 hp
          have hk := List.mem_range.1 hk
          have G := (gameB_ok h1).2.2.2
          have H := (gameB_ok h2).2.2.2
          have mg : g.getD n ([], []) ∈ g := by rw [List.getD_eq_getElem?_getD, List.getElem?_eq_getElem (by omega)]; exact List.getElem_mem _
          have mh : h.getD k ([], []) ∈ h := by rw [List.getD_eq_getElem?_getD, List.getElem?_eq_getElem hk]; exact List.getElem_mem _
          have a := G _ mg
          have b := H _ mh
          have c1 := putAll_len (sumL (lefts g n) (lefts h k) n k h.length) []
          have c2 := putAll_len (sumL (rights g n) (rights h k) n k h.length) []
          simp only [sumL, List.length_append, List.length_map, List.length_nil, lefts, rights] at c1 c2
          show (putAll [] _).length + (putAll [] _).length ≤ 1000
          simp only [sumL, lefts, rights] at c1 c2 ⊢
          omega
    exact key _ (Nat.le_refl _)
  · exact ⟨by simp, fun p hp => by cases hp⟩
theorem Kept.trans {S : List Nat} {A B C : List AObj} (h : Kept S A B) (k : Kept S B C) : Kept S A C := fun j hj _ _ _ _ hq => k j hj _ _ _ _ (h j hj _ _ _ _ hq)
theorem FnExactAddGames_ok {a0 a1 : AV} (h0 : IsOf Try.prog 22 a0) (h1 : IsOf Try.prog 22 a1) : Ct Try.prog 3 [a0, a1] [] (.bool true) [] := by
  obtain ⟨g, rfl, hl, hf⟩ := laws_isPoS h0
  obtain ⟨h, rfl, hl', hf'⟩ := laws_isPoS h1
  have pg := posL_pure g
  have ph := posL_pure h
  refine Ct.by_ hmix [] Try.func3 rfl ?_
  simp only [run0, run1, run2, run3, run4, run5, run6, run7, run8, run9, run10, run11, run12, run13, run14, run15, run16, run17, run18, run19, run20, run21, run22, reduceCtorEq, Nat.reduceEqDiff, Nat.reduceAdd, Nat.reduceSub, Nat.reduceLeDiff, indexAddrA, indexRefA, appendA, strA, Nat.reduceMul, Nat.zero_mul, Nat.reduceMod, Int.reduceEq, Int.reduceLT, Int.reduceLE, Nat.reduceLT, Nat.lt_irrefl, Nat.reduceBEq, tys0, tys1, tys2, tys3, tys4, tys5, tys6, tys7, tys8, tys9, tys10, tys11, tys12, tys13, tys14, tys15, tys16, tys17, tys18, tys19, tys20, tys21, tys22, tys23, Try.ntmps3, Try.results3]
  refine RunL.callp rfl rfl ok_f13 (szPositionS_ok g 1048576 hl hf (by omega) (by omega)) (by simp only [pureL, pureB, pg, Bool.and_self]) rfl ?_
  rcases szN_spec (g.length + gsz g) 1048576 with ⟨g1, g2⟩ | ⟨g1, g2⟩
  case inr =>
    have e1 : szN (g.length + gsz g) 1048576 < 0 := by omega
    simp only [run0, run1, run2, run3, run4, run5, run6, run7, run8, run9, run10, run11, run12, run13, run14, run15, run16, run17, run18, run19, run20, run21, run22, reduceCtorEq, Nat.reduceEqDiff, Nat.reduceAdd, Nat.reduceSub, Nat.reduceLeDiff, indexAddrA, indexRefA, appendA, strA, Nat.reduceMul, Nat.zero_mul, Nat.reduceMod, Int.reduceEq, Int.reduceLT, Int.reduceLE, Nat.reduceLT, Nat.lt_irrefl, Nat.reduceBEq, tys0, tys1, tys2, tys3, tys4, tys5, tys6, tys7, tys8, tys9, tys10, tys11, tys12, tys13, tys14, tys15, tys16, tys17, tys18, tys19, tys20, tys21, tys22, tys23, Try.ntmps3, Try.results3, e1]
    exact Fin.eq rfl rfl
  have e1 : ¬ szN (g.length + gsz g) 1048576 < 0 := by omega
  have gl : g.length ≤ 100000 ∨ True := .inr trivial
  have gs : ∀ p ∈ g, smallP p := fun p hp => by have := gsz_mem hp; unfold psz at this; exact ⟨by omega, by omega⟩
  simp only [run0, run1, run2, run3, run4, run5, run6, run7, run8, run9, run10, run11, run12, run13, run14, run15, run16, run17, run18, run19, run20, run21, run22, reduceCtorEq, Nat.reduceEqDiff, Nat.reduceAdd, Nat.reduceSub, Nat.reduceLeDiff, indexAddrA, indexRefA, appendA, strA, Nat.reduceMul, Nat.zero_mul, Nat.reduceMod, Int.reduceEq, Int.reduceLT, Int.reduceLE, Nat.reduceLT, Nat.lt_irrefl, Nat.reduceBEq, tys0, tys1, tys2, tys3, tys4, tys5, tys6, tys7, tys8, tys9, tys10, tys11, tys12, tys13, tys14, tys15, tys16, tys17, tys18, tys19, tys20, tys21, tys22, tys23, Try.ntmps3, Try.results3, e1]
  refine RunL.callp rfl rfl ok_f13 (szPositionS_ok h (szN (g.length + gsz g) 1048576) hl' hf' (by omega) (by omega)) (by simp only [pureL, pureB, ph, Bool.and_self]) rfl ?_
  rcases szN_spec (h.length + gsz h) (szN (g.length + gsz g) 1048576) with ⟨k1, k2⟩ | ⟨k1, k2⟩
  case inr =>
    have e2 : szN (h.length + gsz h) (szN (g.length + gsz g) 1048576) < 0 := by omega
    simp only [run0, run1, run2, run3, run4, run5, run6, run7, run8, run9, run10, run11, run12, run13, run14, run15, run16, run17, run18, run19, run20, run21, run22, reduceCtorEq, Nat.reduceEqDiff, Nat.reduceAdd, Nat.reduceSub, Nat.reduceLeDiff, indexAddrA, indexRefA, appendA, strA, Nat.reduceMul, Nat.zero_mul, Nat.reduceMod, Int.reduceEq, Int.reduceLT, Int.reduceLE, Nat.reduceLT, Nat.lt_irrefl, Nat.reduceBEq, tys0, tys1, tys2, tys3, tys4, tys5, tys6, tys7, tys8, tys9, tys10, tys11, tys12, tys13, tys14, tys15, tys16, tys17, tys18, tys19, tys20, tys21, tys22, tys23, Try.ntmps3, Try.results3, e2]
    exact Fin.eq rfl rfl
  have e2 : ¬ szN (h.length + gsz h) (szN (g.length + gsz g) 1048576) < 0 := by omega
  have hsm : ∀ p ∈ h, smallP p := fun p hp => by have := gsz_mem hp; unfold psz at this; exact ⟨by omega, by omega⟩
  have lg : g.length ≤ 1048576 := by omega
  have lh : h.length ≤ 1048576 := by omega
  have hsp := specSumG_ok g h lg lh gs hsm
  obtain ⟨x, M, hi, S, ho, hN, hM⟩ := implSumG_ok g h lg lh gs hsm
  obtain ⟨hlen, hps⟩ := sumG_small g h
  have pR := posL_pure (sumG g h)
  generalize sumG g h = R at *
  generalize addB g h = ok at *
  have rsm : ∀ p ∈ R, smallP p := fun p hp => by have := hps p hp; unfold psz at this; exact ⟨by omega, by omega⟩
  obtain ⟨S1, o1, n1⟩ := toPositionS_ownP g
  obtain ⟨S2, o2, n2⟩ := toPositionS_ownP h
  have c1 := toPositionS_own g lg gs
  have c2 := toPositionS_own h lh hsm
  generalize AObj.vec 70 2 0 (toEs g 0) :: toMs g 0 = M1 at *
  generalize AObj.vec 70 2 0 (toEs h 0) :: toMs h 0 = M2 at *
  generalize AV.ref 0 [] 0 g.length = x1 at *
  generalize AV.ref 0 [] 0 h.length = x2 at *
  have q1 : OwnP (M1.map (shO 0)) g (shA 0 x1) (S1.map (· + 0)) := OwnP.sh (fun id => by simp) o1
  have w1 : (S1.map (· + 0)).Nodup := nodup_addk 0 n1
  generalize hN1 : M1.map (shO 0) = N1 at *
  generalize hy1 : shA 0 x1 = y1 at *
  generalize S1.map (· + 0) = T1 at *
  have q2 : OwnP (N1 ++ M2.map (shO N1.length)) h (shA N1.length x2) (S2.map (· + N1.length)) := OwnP.sh (fun id => by
    rw [List.getElem?_append_right (by omega), List.getElem?_map]; congr 2; omega) o2
  have w2 : (S2.map (· + N1.length)).Nodup := nodup_addk _ n2
  have v1 : ∀ i ∈ T1, i < N1.length := fun i hi => by obtain ⟨_, _, _, _, e⟩ := q1.lt i hi; exact (List.getElem?_eq_some_iff.1 e).1
  have v2 : ∀ i ∈ S2.map (· + N1.length), N1.length ≤ i := fun i hi => by obtain ⟨j, _, rfl⟩ := List.mem_map.1 hi; omega
  have q1' := q1.mono (Kept.more T1 N1 (M2.map (shO N1.length)))
  generalize hN2 : N1 ++ M2.map (shO N1.length) = N2 at *
  generalize hy2 : shA N1.length x2 = y2 at *
  generalize S2.map (· + N1.length) = T2 at *
  have v2' : ∀ i ∈ T2, i < N2.length := fun i hi => by obtain ⟨_, _, _, _, e⟩ := q2.lt i hi; exact (List.getElem?_eq_some_iff.1 e).1
  have v1' : ∀ i ∈ T1, i < N2.length := fun i hi => by obtain ⟨_, _, _, _, e⟩ := q1'.lt i hi; exact (List.getElem?_eq_some_iff.1 e).1
  have q3 : OwnP (N2 ++ M.map (shO N2.length)) R (shA N2.length x) (S.map (· + N2.length)) := OwnP.sh (fun id => by
    rw [List.getElem?_append_right (by omega), List.getElem?_map]; congr 2; omega) ho
  have w3 : (S.map (· + N2.length)).Nodup := nodup_addk _ hN
  have v3 : ∀ i ∈ S.map (· + N2.length), N2.length ≤ i := fun i hi => by obtain ⟨j, _, rfl⟩ := List.mem_map.1 hi; omega
  have r1 := q1'.mono (Kept.more T1 N2 (M.map (shO N2.length)))
  have r2 := q2.mono (Kept.more T2 N2 (M.map (shO N2.length)))
  have hxS : okS (.tup [x, .bool ok]) = true := by simp only [okS, okSL, okT_okS ho.okT, Bool.and_self]
  generalize hN3 : N2 ++ M.map (shO N2.length) = N3 at *
  generalize hy3 : shA N2.length x = y3 at *
  generalize S.map (· + N2.length) = T3 at *
  have gg : gsz g ≤ 1048576 := by omega
  have gh : gsz h ≤ 1048576 := by omega
  obtain ⟨N4, m4, _, f4, l4⟩ := markPositionS_big g y1 T1 N3 1 r1 w1 lg gg (by omega) (by omega)
  have s2 := r2.mono (L' := N4) (fun i hi _ _ _ _ e => by rw [f4 i (fun hc => by have := v1 i hc; have := v2 i hi; omega)]; exact e)
  have s3 := q3.mono (L' := N4) (fun i hi _ _ _ _ e => by rw [f4 i (fun hc => by have := v1' i hc; have := v3 i hi; omega)]; exact e)
  obtain ⟨N5, m5, _, f5, l5⟩ := markPositionS_big h y2 T2 N4 (1 + gsz g) s2 w2 lh gh (by omega) (by omega)
  have t3 := s3.mono (L' := N5) (fun i hi _ _ _ _ e => by rw [f5 i (fun hc => by have := v2' i hc; have := v3 i hi; omega)]; exact e)
  have e3 : ¬ (1 + (gsz g : Int) + (gsz h : Int) < 0) := by omega
  have e4 : ¬ (1 + (gsz R : Int) < 0) := by omega
  obtain ⟨N6, m6, u3, f6, l6⟩ := markPositionS_ok R y3 T3 N5 1 t3 w3 hlen hps (by omega) (by omega)
  have eR := eqPositionS_ok R (by omega) rsm
  simp only [run0, run1, run2, run3, run4, run5, run6, run7, run8, run9, run10, run11, run12, run13, run14, run15, run16, run17, run18, run19, run20, run21, run22, reduceCtorEq, Nat.reduceEqDiff, Nat.reduceAdd, Nat.reduceSub, Nat.reduceLeDiff, indexAddrA, indexRefA, appendA, strA, Nat.reduceMul, Nat.zero_mul, Nat.reduceMod, Int.reduceEq, Int.reduceLT, Int.reduceLE, Nat.reduceLT, Nat.lt_irrefl, Nat.reduceBEq, tys0, tys1, tys2, tys3, tys4, tys5, tys6, tys7, tys8, tys9, tys10, tys11, tys12, tys13, tys14, tys15, tys16, tys17, tys18, tys19, tys20, tys21, tys22, tys23, Try.ntmps3, Try.results3, e2]
  refine RunL.callp rfl rfl ok_f15 (toPositionS_ok g lg gs) (by simp only [pureL, pureB, pg, Bool.and_self]) rfl ?_
  simp only [run0, run1, run2, run3, run4, run5, run6, run7, run8, run9, run10, run11, run12, run13, run14, run15, run16, run17, run18, run19, run20, run21, run22, reduceCtorEq, Nat.reduceEqDiff, Nat.reduceAdd, Nat.reduceSub, Nat.reduceLeDiff, indexAddrA, indexRefA, appendA, strA, Nat.reduceMul, Nat.zero_mul, Nat.reduceMod, Int.reduceEq, Int.reduceLT, Int.reduceLE, Nat.reduceLT, Nat.lt_irrefl, Nat.reduceBEq, tys0, tys1, tys2, tys3, tys4, tys5, tys6, tys7, tys8, tys9, tys10, tys11, tys12, tys13, tys14, tys15, tys16, tys17, tys18, tys19, tys20, tys21, tys22, tys23, Try.ntmps3, Try.results3]
  refine RunL.callp rfl rfl ok_f15 (toPositionS_ok h lh hsm) (by simp only [pureL, pureB, ph, Bool.and_self]) rfl ?_
  simp only [run0, run1, run2, run3, run4, run5, run6, run7, run8, run9, run10, run11, run12, run13, run14, run15, run16, run17, run18, run19, run20, run21, run22, reduceCtorEq, Nat.reduceEqDiff, Nat.reduceAdd, Nat.reduceSub, Nat.reduceLeDiff, indexAddrA, indexRefA, appendA, strA, Nat.reduceMul, Nat.zero_mul, Nat.reduceMod, Int.reduceEq, Int.reduceLT, Int.reduceLE, Nat.reduceLT, Nat.lt_irrefl, Nat.reduceBEq, tys0, tys1, tys2, tys3, tys4, tys5, tys6, tys7, tys8, tys9, tys10, tys11, tys12, tys13, tys14, tys15, tys16, tys17, tys18, tys19, tys20, tys21, tys22, tys23, Try.ntmps3, Try.results3]
  refine RunL.callp rfl rfl ok_f14 hsp (by simp only [pureL, pureB, pg, ph, Bool.and_self]) rfl ?_
  simp only [run0, run1, run2, run3, run4, run5, run6, run7, run8, run9, run10, run11, run12, run13, run14, run15, run16, run17, run18, run19, run20, run21, run22, reduceCtorEq, Nat.reduceEqDiff, Nat.reduceAdd, Nat.reduceSub, Nat.reduceLeDiff, indexAddrA, indexRefA, appendA, strA, Nat.reduceMul, Nat.zero_mul, Nat.reduceMod, Int.reduceEq, Int.reduceLT, Int.reduceLE, Nat.reduceLT, Nat.lt_irrefl, Nat.reduceBEq, tys0, tys1, tys2, tys3, tys4, tys5, tys6, tys7, tys8, tys9, tys10, tys11, tys12, tys13, tys14, tys15, tys16, tys17, tys18, tys19, tys20, tys21, tys22, tys23, Try.ntmps3, Try.results3]
  refine RunL.callgp rfl rfl ok_f15 rfl c1 (by simp only [pureL, pureB, pg, Bool.and_self]) rfl ?_
  simp only [run0, run1, run2, run3, run4, run5, run6, run7, run8, run9, run10, run11, run12, run13, run14, run15, run16, run17, run18, run19, run20, run21, run22, reduceCtorEq, Nat.reduceEqDiff, Nat.reduceAdd, Nat.reduceSub, Nat.reduceLeDiff, indexAddrA, indexRefA, appendA, strA, Nat.reduceMul, Nat.zero_mul, Nat.reduceMod, Int.reduceEq, Int.reduceLT, Int.reduceLE, Nat.reduceLT, Nat.lt_irrefl, Nat.reduceBEq, tys0, tys1, tys2, tys3, tys4, tys5, tys6, tys7, tys8, tys9, tys10, tys11, tys12, tys13, tys14, tys15, tys16, tys17, tys18, tys19, tys20, tys21, tys22, tys23, Try.ntmps3, Try.results3, hN1, hy1]
  refine RunL.callgp rfl rfl ok_f15 rfl c2 (by simp only [pureL, pureB, ph, Bool.and_self]) rfl ?_
  simp only [run0, run1, run2, run3, run4, run5, run6, run7, run8, run9, run10, run11, run12, run13, run14, run15, run16, run17, run18, run19, run20, run21, run22, reduceCtorEq, Nat.reduceEqDiff, Nat.reduceAdd, Nat.reduceSub, Nat.reduceLeDiff, indexAddrA, indexRefA, appendA, strA, Nat.reduceMul, Nat.zero_mul, Nat.reduceMod, Int.reduceEq, Int.reduceLT, Int.reduceLE, Nat.reduceLT, Nat.lt_irrefl, Nat.reduceBEq, tys0, tys1, tys2, tys3, tys4, tys5, tys6, tys7, tys8, tys9, tys10, tys11, tys12, tys13, tys14, tys15, tys16, tys17, tys18, tys19, tys20, tys21, tys22, tys23, Try.ntmps3, Try.results3, hN2, hy2]
  refine RunL.lendGV rfl rfl ok_f16 rfl hi (.cons q1'.view (.cons q2.view .nil)) hxS hM rfl ?_
  simp only [run0, run1, run2, run3, run4, run5, run6, run7, run8, run9, run10, run11, run12, run13, run14, run15, run16, run17, run18, run19, run20, run21, run22, reduceCtorEq, Nat.reduceEqDiff, Nat.reduceAdd, Nat.reduceSub, Nat.reduceLeDiff, indexAddrA, indexRefA, appendA, strA, Nat.reduceMul, Nat.zero_mul, Nat.reduceMod, Int.reduceEq, Int.reduceLT, Int.reduceLE, Nat.reduceLT, Nat.lt_irrefl, Nat.reduceBEq, tys0, tys1, tys2, tys3, tys4, tys5, tys6, tys7, tys8, tys9, tys10, tys11, tys12, tys13, tys14, tys15, tys16, tys17, tys18, tys19, tys20, tys21, tys22, tys23, Try.ntmps3, Try.results3, shA, shL, hN3, hy3]
  refine RunL.lendV rfl rfl ok_f17 rfl eR (.cons q3.view (.cons (.pur (.of (by simp only [pureB, pR]))) .nil)) rfl rfl ?_
  simp only [run0, run1, run2, run3, run4, run5, run6, run7, run8, run9, run10, run11, run12, run13, run14, run15, run16, run17, run18, run19, run20, run21, run22, reduceCtorEq, Nat.reduceEqDiff, Nat.reduceAdd, Nat.reduceSub, Nat.reduceLeDiff, indexAddrA, indexRefA, appendA, strA, Nat.reduceMul, Nat.zero_mul, Nat.reduceMod, Int.reduceEq, Int.reduceLT, Int.reduceLE, Nat.reduceLT, Nat.lt_irrefl, Nat.reduceBEq, tys0, tys1, tys2, tys3, tys4, tys5, tys6, tys7, tys8, tys9, tys10, tys11, tys12, tys13, tys14, tys15, tys16, tys17, tys18, tys19, tys20, tys21, tys22, tys23, Try.ntmps3, Try.results3, bne_self_eq_false]
  refine RunL.callp rfl rfl ok_f15 (toPositionS_ok g lg gs) (by simp only [pureL, pureB, pg, Bool.and_self]) rfl ?_
  simp only [run0, run1, run2, run3, run4, run5, run6, run7, run8, run9, run10, run11, run12, run13, run14, run15, run16, run17, run18, run19, run20, run21, run22, reduceCtorEq, Nat.reduceEqDiff, Nat.reduceAdd, Nat.reduceSub, Nat.reduceLeDiff, indexAddrA, indexRefA, appendA, strA, Nat.reduceMul, Nat.zero_mul, Nat.reduceMod, Int.reduceEq, Int.reduceLT, Int.reduceLE, Nat.reduceLT, Nat.lt_irrefl, Nat.reduceBEq, tys0, tys1, tys2, tys3, tys4, tys5, tys6, tys7, tys8, tys9, tys10, tys11, tys12, tys13, tys14, tys15, tys16, tys17, tys18, tys19, tys20, tys21, tys22, tys23, Try.ntmps3, Try.results3]
  refine RunL.lendV rfl rfl ok_f17 rfl (eqPositionS_ok g lg gs) (.cons r1.view (.cons (.pur (.of (by simp only [pureB, pg]))) .nil)) rfl rfl ?_
  simp only [run0, run1, run2, run3, run4, run5, run6, run7, run8, run9, run10, run11, run12, run13, run14, run15, run16, run17, run18, run19, run20, run21, run22, reduceCtorEq, Nat.reduceEqDiff, Nat.reduceAdd, Nat.reduceSub, Nat.reduceLeDiff, indexAddrA, indexRefA, appendA, strA, Nat.reduceMul, Nat.zero_mul, Nat.reduceMod, Int.reduceEq, Int.reduceLT, Int.reduceLE, Nat.reduceLT, Nat.lt_irrefl, Nat.reduceBEq, tys0, tys1, tys2, tys3, tys4, tys5, tys6, tys7, tys8, tys9, tys10, tys11, tys12, tys13, tys14, tys15, tys16, tys17, tys18, tys19, tys20, tys21, tys22, tys23, Try.ntmps3, Try.results3]
  refine RunL.callp rfl rfl ok_f15 (toPositionS_ok h lh hsm) (by simp only [pureL, pureB, ph, Bool.and_self]) rfl ?_
  simp only [run0, run1, run2, run3, run4, run5, run6, run7, run8, run9, run10, run11, run12, run13, run14, run15, run16, run17, run18, run19, run20, run21, run22, reduceCtorEq, Nat.reduceEqDiff, Nat.reduceAdd, Nat.reduceSub, Nat.reduceLeDiff, indexAddrA, indexRefA, appendA, strA, Nat.reduceMul, Nat.zero_mul, Nat.reduceMod, Int.reduceEq, Int.reduceLT, Int.reduceLE, Nat.reduceLT, Nat.lt_irrefl, Nat.reduceBEq, tys0, tys1, tys2, tys3, tys4, tys5, tys6, tys7, tys8, tys9, tys10, tys11, tys12, tys13, tys14, tys15, tys16, tys17, tys18, tys19, tys20, tys21, tys22, tys23, Try.ntmps3, Try.results3]
  refine RunL.lendV rfl rfl ok_f17 rfl (eqPositionS_ok h lh hsm) (.cons r2.view (.cons (.pur (.of (by simp only [pureB, ph]))) .nil)) rfl rfl ?_
  simp only [run0, run1, run2, run3, run4, run5, run6, run7, run8, run9, run10, run11, run12, run13, run14, run15, run16, run17, run18, run19, run20, run21, run22, reduceCtorEq, Nat.reduceEqDiff, Nat.reduceAdd, Nat.reduceSub, Nat.reduceLeDiff, indexAddrA, indexRefA, appendA, strA, Nat.reduceMul, Nat.zero_mul, Nat.reduceMod, Int.reduceEq, Int.reduceLT, Int.reduceLE, Nat.reduceLT, Nat.lt_irrefl, Nat.reduceBEq, tys0, tys1, tys2, tys3, tys4, tys5, tys6, tys7, tys8, tys9, tys10, tys11, tys12, tys13, tys14, tys15, tys16, tys17, tys18, tys19, tys20, tys21, tys22, tys23, Try.ntmps3, Try.results3]
  refine RunL.callM rfl rfl ok_f18 rfl rfl m4 rfl ?_
  simp only [run0, run1, run2, run3, run4, run5, run6, run7, run8, run9, run10, run11, run12, run13, run14, run15, run16, run17, run18, run19, run20, run21, run22, reduceCtorEq, Nat.reduceEqDiff, Nat.reduceAdd, Nat.reduceSub, Nat.reduceLeDiff, indexAddrA, indexRefA, appendA, strA, Nat.reduceMul, Nat.zero_mul, Nat.reduceMod, Int.reduceEq, Int.reduceLT, Int.reduceLE, Nat.reduceLT, Nat.lt_irrefl, Nat.reduceBEq, tys0, tys1, tys2, tys3, tys4, tys5, tys6, tys7, tys8, tys9, tys10, tys11, tys12, tys13, tys14, tys15, tys16, tys17, tys18, tys19, tys20, tys21, tys22, tys23, Try.ntmps3, Try.results3]
  refine RunL.callM rfl rfl ok_f18 rfl rfl m5 rfl ?_
  simp only [run0, run1, run2, run3, run4, run5, run6, run7, run8, run9, run10, run11, run12, run13, run14, run15, run16, run17, run18, run19, run20, run21, run22, reduceCtorEq, Nat.reduceEqDiff, Nat.reduceAdd, Nat.reduceSub, Nat.reduceLeDiff, indexAddrA, indexRefA, appendA, strA, Nat.reduceMul, Nat.zero_mul, Nat.reduceMod, Int.reduceEq, Int.reduceLT, Int.reduceLE, Nat.reduceLT, Nat.lt_irrefl, Nat.reduceBEq, tys0, tys1, tys2, tys3, tys4, tys5, tys6, tys7, tys8, tys9, tys10, tys11, tys12, tys13, tys14, tys15, tys16, tys17, tys18, tys19, tys20, tys21, tys22, tys23, Try.ntmps3, Try.results3, e3]
  refine RunL.lendV rfl rfl ok_f17 rfl eR (.cons t3.view (.cons (.pur (.of (by simp only [pureB, pR]))) .nil)) rfl rfl ?_
  simp only [run0, run1, run2, run3, run4, run5, run6, run7, run8, run9, run10, run11, run12, run13, run14, run15, run16, run17, run18, run19, run20, run21, run22, reduceCtorEq, Nat.reduceEqDiff, Nat.reduceAdd, Nat.reduceSub, Nat.reduceLeDiff, indexAddrA, indexRefA, appendA, strA, Nat.reduceMul, Nat.zero_mul, Nat.reduceMod, Int.reduceEq, Int.reduceLT, Int.reduceLE, Nat.reduceLT, Nat.lt_irrefl, Nat.reduceBEq, tys0, tys1, tys2, tys3, tys4, tys5, tys6, tys7, tys8, tys9, tys10, tys11, tys12, tys13, tys14, tys15, tys16, tys17, tys18, tys19, tys20, tys21, tys22, tys23, Try.ntmps3, Try.results3, bne_self_eq_false]
  refine RunL.callM rfl rfl ok_f18 rfl rfl m6 rfl ?_
  simp only [run0, run1, run2, run3, run4, run5, run6, run7, run8, run9, run10, run11, run12, run13, run14, run15, run16, run17, run18, run19, run20, run21, run22, reduceCtorEq, Nat.reduceEqDiff, Nat.reduceAdd, Nat.reduceSub, Nat.reduceLeDiff, indexAddrA, indexRefA, appendA, strA, Nat.reduceMul, Nat.zero_mul, Nat.reduceMod, Int.reduceEq, Int.reduceLT, Int.reduceLE, Nat.reduceLT, Nat.lt_irrefl, Nat.reduceBEq, tys0, tys1, tys2, tys3, tys4, tys5, tys6, tys7, tys8, tys9, tys10, tys11, tys12, tys13, tys14, tys15, tys16, tys17, tys18, tys19, tys20, tys21, tys22, tys23, Try.ntmps3, Try.results3]
  refine RunL.lendV rfl rfl ok_f19 rfl (heldPositionS_ok R 1 hlen hps (by omega) (by omega)) (.cons u3.view (.cons (.pur (.int _ _)) .nil)) rfl rfl ?_
  simp only [run0, run1, run2, run3, run4, run5, run6, run7, run8, run9, run10, run11, run12, run13, run14, run15, run16, run17, run18, run19, run20, run21, run22, reduceCtorEq, Nat.reduceEqDiff, Nat.reduceAdd, Nat.reduceSub, Nat.reduceLeDiff, indexAddrA, indexRefA, appendA, strA, Nat.reduceMul, Nat.zero_mul, Nat.reduceMod, Int.reduceEq, Int.reduceLT, Int.reduceLE, Nat.reduceLT, Nat.lt_irrefl, Nat.reduceBEq, tys0, tys1, tys2, tys3, tys4, tys5, tys6, tys7, tys8, tys9, tys10, tys11, tys12, tys13, tys14, tys15, tys16, tys17, tys18, tys19, tys20, tys21, tys22, tys23, Try.ntmps3, Try.results3, e4, bne_self_eq_false]
  refine RunL.callp rfl rfl ok_f15 (toPositionS_ok g lg gs) (by simp only [pureL, pureB, pg, Bool.and_self]) rfl ?_
  simp only [run0, run1, run2, run3, run4, run5, run6, run7, run8, run9, run10, run11, run12, run13, run14, run15, run16, run17, run18, run19, run20, run21, run22, reduceCtorEq, Nat.reduceEqDiff, Nat.reduceAdd, Nat.reduceSub, Nat.reduceLeDiff, indexAddrA, indexRefA, appendA, strA, Nat.reduceMul, Nat.zero_mul, Nat.reduceMod, Int.reduceEq, Int.reduceLT, Int.reduceLE, Nat.reduceLT, Nat.lt_irrefl, Nat.reduceBEq, tys0, tys1, tys2, tys3, tys4, tys5, tys6, tys7, tys8, tys9, tys10, tys11, tys12, tys13, tys14, tys15, tys16, tys17, tys18, tys19, tys20, tys21, tys22, tys23, Try.ntmps3, Try.results3]
  refine RunL.callp rfl rfl ok_f15 (toPositionS_ok h lh hsm) (by simp only [pureL, pureB, ph, Bool.and_self]) rfl ?_
  simp only [run0, run1, run2, run3, run4, run5, run6, run7, run8, run9, run10, run11, run12, run13, run14, run15, run16, run17, run18, run19, run20, run21, run22, reduceCtorEq, Nat.reduceEqDiff, Nat.reduceAdd, Nat.reduceSub, Nat.reduceLeDiff, indexAddrA, indexRefA, appendA, strA, Nat.reduceMul, Nat.zero_mul, Nat.reduceMod, Int.reduceEq, Int.reduceLT, Int.reduceLE, Nat.reduceLT, Nat.lt_irrefl, Nat.reduceBEq, tys0, tys1, tys2, tys3, tys4, tys5, tys6, tys7, tys8, tys9, tys10, tys11, tys12, tys13, tys14, tys15, tys16, tys17, tys18, tys19, tys20, tys21, tys22, tys23, Try.ntmps3, Try.results3]
  refine RunL.callgp rfl rfl ok_f16 rfl hi (by simp only [pureL, pureB, pg, ph, Bool.and_self]) rfl ?_
  simp only [run0, run1, run2, run3, run4, run5, run6, run7, run8, run9, run10, run11, run12, run13, run14, run15, run16, run17, run18, run19, run20, run21, run22, reduceCtorEq, Nat.reduceEqDiff, Nat.reduceAdd, Nat.reduceSub, Nat.reduceLeDiff, indexAddrA, indexRefA, appendA, strA, Nat.reduceMul, Nat.zero_mul, Nat.reduceMod, Int.reduceEq, Int.reduceLT, Int.reduceLE, Nat.reduceLT, Nat.lt_irrefl, Nat.reduceBEq, tys0, tys1, tys2, tys3, tys4, tys5, tys6, tys7, tys8, tys9, tys10, tys11, tys12, tys13, tys14, tys15, tys16, tys17, tys18, tys19, tys20, tys21, tys22, tys23, Try.ntmps3, Try.results3, shA, shL]
  have q7 : OwnP (N6 ++ M.map (shO N6.length)) R (shA N6.length x) (S.map (· + N6.length)) := OwnP.sh (fun id => by
    rw [List.getElem?_append_right (by omega), List.getElem?_map]; congr 2; omega) ho
  refine RunL.lendV rfl rfl ok_f17 rfl eR (.cons q7.view (.cons (.pur (.of (by simp only [pureB, pR]))) .nil)) rfl rfl ?_
  simp only [run0, run1, run2, run3, run4, run5, run6, run7, run8, run9, run10, run11, run12, run13, run14, run15, run16, run17, run18, run19, run20, run21, run22, reduceCtorEq, Nat.reduceEqDiff, Nat.reduceAdd, Nat.reduceSub, Nat.reduceLeDiff, indexAddrA, indexRefA, appendA, strA, Nat.reduceMul, Nat.zero_mul, Nat.reduceMod, Int.reduceEq, Int.reduceLT, Int.reduceLE, Nat.reduceLT, Nat.lt_irrefl, Nat.reduceBEq, tys0, tys1, tys2, tys3, tys4, tys5, tys6, tys7, tys8, tys9, tys10, tys11, tys12, tys13, tys14, tys15, tys16, tys17, tys18, tys19, tys20, tys21, tys22, tys23, Try.ntmps3, Try.results3, bne_self_eq_false]
  refine RunL.lendV rfl rfl ok_f19 rfl (heldPositionS_ok R 1 hlen hps (by omega) (by omega)) (.cons (u3.mono (Kept.more _ _ _)).view (.cons (.pur (.int _ _)) .nil)) rfl rfl ?_
  simp only [run0, run1, run2, run3, run4, run5, run6, run7, run8, run9, run10, run11, run12, run13, run14, run15, run16, run17, run18, run19, run20, run21, run22, reduceCtorEq, Nat.reduceEqDiff, Nat.reduceAdd, Nat.reduceSub, Nat.reduceLeDiff, indexAddrA, indexRefA, appendA, strA, Nat.reduceMul, Nat.zero_mul, Nat.reduceMod, Int.reduceEq, Int.reduceLT, Int.reduceLE, Nat.reduceLT, Nat.lt_irrefl, Nat.reduceBEq, tys0, tys1, tys2, tys3, tys4, tys5, tys6, tys7, tys8, tys9, tys10, tys11, tys12, tys13, tys14, tys15, tys16, tys17, tys18, tys19, tys20, tys21, tys22, tys23, Try.ntmps3, Try.results3, e4, bne_self_eq_false]
  exact Fin.eq rfl rfl

end Go.Proofs.Ytllcljajlemmaaa
