/-
  Short numbers: options: the law.
-/
import Derived.Test.YtolfjeedgedblaaF21
namespace Go.Proofs.Ytolfjeedgedblaa
open Go K
set_option linter.unusedSimpArgs false
set_option linter.unusedVariables false
set_option maxHeartbeats 1600000

/-- The nearest numbers on both sides after 'k' letters. -/
def optL (s : ByteArray) : Nat → List Fr × List Fr
  | 0 => ([], [])
  | k + 1 => if isPlus s k then ([frU (atWk s k).x], (optL s k).2) else ((optL s k).1, [frU (atWk s k).x])
def lastL (l : List Int) : List Fr := (l.getLast?.map frU).toList
theorem optL_at (s : ByteArray) : ∀ k, (optL s k).1 = lastL (atWk s k).low ∧ (optL s k).2 = lastL (atWk s k).high
  | 0 => ⟨rfl, rfl⟩
  | k + 1 => by
    obtain ⟨h1, h2⟩ := optL_at s k
    simp only [optL, atWk]
    split
    · exact ⟨by simp [lastL, stepP], h2⟩
    · exact ⟨h1, by simp [lastL, stepM]⟩
theorem ints_pure : ∀ l : List Int, pureL (ints l) = true
  | [] => rfl
  | x :: r => by
    have := ints_pure r
    simp only [ints, List.map_cons, pureL, pureB, Bool.true_and] at this ⊢
    exact this
theorem atWk_lists (s : ByteArray) : ∀ k, k ≤ 20 → (atWk s k).low.length ≤ k ∧ (atWk s k).high.length ≤ k ∧ (∀ y ∈ (atWk s k).low, y.natAbs ≤ 50000000) ∧ (∀ y ∈ (atWk s k).high, y.natAbs ≤ 50000000)
  | 0, _ => ⟨Nat.le_refl _, Nat.le_refl _, fun y h => by simp [atWk, wk0] at h, fun y h => by simp [atWk, wk0] at h⟩
  | k + 1, h => by
    obtain ⟨h1, h2, h3, h4⟩ := atWk_lists s k (by omega)
    have hx := atWk_small s k (by omega)
    unfold atWk
    split
    · refine ⟨by simp [stepP]; omega, by simp only [stepP]; omega, fun y hy => ?_, fun y hy => h4 y hy⟩
      simp only [stepP, List.mem_append, List.mem_singleton] at hy
      rcases hy with hy | rfl
      · exact h3 y hy
      · exact hx
    · refine ⟨by simp only [stepM]; omega, by simp [stepM]; omega, fun y hy => h3 y hy, fun y hy => ?_⟩
      simp only [stepM, List.mem_append, List.mem_singleton] at hy
      rcases hy with hy | rfl
      · exact h4 y hy
      · exact hx

theorem lastOf_ok (l : List Int) (hl : l.length ≤ 1000) (hb : ∀ y ∈ l, y.natAbs ≤ 50000000) : ∃ x M, Ct Try.prog 69 [.sl false (ints l)] [] x M ∧ ∃ S, OwnF M (lastL l) x S ∧ M.all okSO = true := by
  rcases List.eq_nil_or_concat l with rfl | ⟨q, y, rfl⟩
  · refine ⟨nilV, ?_⟩
    apply ex1
    · apply Ct.by_ hmix [1000013] Try.func69 rfl
      simp only [run0, run1, run2, run3, run4, run5, run6, run7, run8, run9, run10, run11, run12, run13, run14, run15, run16, run17, run18, run19, run20, run21, run22, reduceCtorEq, Nat.reduceEqDiff, Nat.reduceAdd, Nat.reduceSub, Nat.reduceLeDiff, indexAddrA, indexRefA, appendA, strA, Nat.reduceMul, Nat.zero_mul, Nat.reduceMod, Int.reduceEq, Int.reduceLT, Int.reduceLE, Nat.reduceLT, Nat.lt_irrefl, Nat.reduceBEq, tys0, tys1, tys2, tys3, tys4, tys5, tys6, tys7, tys8, tys9, tys10, tys11, Try.ntmps69, Try.results69, nat0]
      exact Fin.keep [] rfl rfl
    · exact ⟨[], .inl ⟨rfl, rfl, rfl⟩, keepS_okSO _ _⟩
  · rw [List.concat_eq_append] at *
    have h1 : q.length ≤ 1000 := by simp at hl; omega
    have h2 := last_wrap h1
    have h3 := nat1 q.length
    refine ⟨.ref 0 [] 0 1, ?_⟩
    apply ex1
    · apply Ct.by_ hmix [1000013] Try.func69 rfl
      simp only [run0, run1, run2, run3, run4, run5, run6, run7, run8, run9, run10, run11, run12, run13, run14, run15, run16, run17, run18, run19, run20, run21, run22, reduceCtorEq, Nat.reduceEqDiff, Nat.reduceAdd, Nat.reduceSub, Nat.reduceLeDiff, indexAddrA, indexRefA, appendA, strA, Nat.reduceMul, Nat.zero_mul, Nat.reduceMod, Int.reduceEq, Int.reduceLT, Int.reduceLE, Nat.reduceLT, Nat.lt_irrefl, Nat.reduceBEq, tys0, tys1, tys2, tys3, tys4, tys5, tys6, tys7, tys8, tys9, tys10, tys11, Try.ntmps69, Try.results69, h2, h3, Int.natCast_nonneg, Int.toNat_natCast, ints_at]
      refine RunL.callp rfl rfl ok_f68 (fromUnits_ok y (hb y (by simp))) (by first | rfl | simp only [pureL, pureB, Bool.and_self, Bool.and_true, Bool.true_and]) rfl ?_
      simp only [run0, run1, run2, run3, run4, run5, run6, run7, run8, run9, run10, run11, run12, run13, run14, run15, run16, run17, run18, run19, run20, run21, run22, reduceCtorEq, Nat.reduceEqDiff, Nat.reduceAdd, Nat.reduceSub, Nat.reduceLeDiff, indexAddrA, indexRefA, appendA, strA, Nat.reduceMul, Nat.zero_mul, Nat.reduceMod, Int.reduceEq, Int.reduceLT, Int.reduceLE, Nat.reduceLT, Nat.lt_irrefl, Nat.reduceBEq, tys0, tys1, tys2, tys3, tys4, tys5, tys6, tys7, tys8, tys9, tys10, tys11, Try.ntmps69, Try.results69, fr]
      exact Fin.keep [0] rfl rfl
    · refine ⟨[0], OwnF.keep (.inr ⟨0, 0, by simp [lastL], ?_, rfl⟩) (fun _ h => h), keepS_okSO _ _⟩
      simp [lastL, frU, frE]

def optF (n d : Int) : List Fr × List Fr := if shortB n d then optL (gWk n d).word (gWk n d).word.size else ([], [])
theorem lastL_len (l : List Int) : (lastL l).length ≤ 1 := by unfold lastL; cases l.getLast? <;> simp
theorem optF_len (n d : Int) : (optF n d).1.length ≤ 1 ∧ (optF n d).2.length ≤ 1 := by
  unfold optF; split
  · obtain ⟨h1, h2⟩ := optL_at (gWk n d).word (gWk n d).word.size
    rw [h1, h2]; exact ⟨lastL_len _, lastL_len _⟩
  · exact ⟨by simp, by simp⟩
theorem OwnF.okT_sh {L : List AObj} {l : List Fr} {x : AV} {S : List Nat} {k : Nat} (h : OwnF L l x S) : K.okT (shA k x) = true := by
  rcases h with ⟨_, rfl, _⟩ | ⟨id, g, rfl, h2, rfl⟩ <;> rfl
theorem lt_app {L X : List AObj} {i : Nat} (h : i < L.length) : (L ++ X)[i]? = L[i]? := List.getElem?_append_left h

theorem implOpt_ok (n d : Int) : ∃ x y M, Ct Try.prog 45 [fr n d] [] (.tup [x, y, .bool (shortB n d)]) M ∧ ∃ S T, OwnF M (optF n d).1 x S ∧ OwnF M (optF n d).2 y T ∧ (∀ id ∈ S, id ∉ T) ∧ M.all okSO = true := by
  have hw := wk_size n d
  cases h : shortB n d
  · refine ⟨nilV, nilV, ?_⟩
    apply ex1
    · apply Ct.by_ hmix [] Try.func45 rfl
      simp only [run0, run1, run2, run3, run4, run5, run6, run7, run8, run9, run10, run11, run12, run13, run14, run15, run16, run17, run18, run19, run20, run21, run22, reduceCtorEq, Nat.reduceEqDiff, Nat.reduceAdd, Nat.reduceSub, Nat.reduceLeDiff, indexAddrA, indexRefA, appendA, strA, Nat.reduceMul, Nat.zero_mul, Nat.reduceMod, Int.reduceEq, Int.reduceLT, Int.reduceLE, Nat.reduceLT, Nat.lt_irrefl, Nat.reduceBEq, tys0, tys1, tys2, tys3, tys4, tys5, tys6, tys7, tys8, tys9, tys10, tys11, Try.ntmps45, Try.results45, fr]
      refine RunL.callp rfl rfl ok_f61 (wordOf_ok n d) (by first | rfl | simp only [pureL, pureB, Bool.and_self, Bool.and_true, Bool.true_and]) rfl ?_
      simp only [run0, run1, run2, run3, run4, run5, run6, run7, run8, run9, run10, run11, run12, run13, run14, run15, run16, run17, run18, run19, run20, run21, run22, reduceCtorEq, Nat.reduceEqDiff, Nat.reduceAdd, Nat.reduceSub, Nat.reduceLeDiff, indexAddrA, indexRefA, appendA, strA, Nat.reduceMul, Nat.zero_mul, Nat.reduceMod, Int.reduceEq, Int.reduceLT, Int.reduceLE, Nat.reduceLT, Nat.lt_irrefl, Nat.reduceBEq, tys0, tys1, tys2, tys3, tys4, tys5, tys6, tys7, tys8, tys9, tys10, tys11, Try.ntmps45, Try.results45, h]
      exact Fin.keep [] rfl rfl
    · exact ⟨[], [], .inl ⟨by simp [optF, h], rfl, rfl⟩, .inl ⟨by simp [optF, h], rfl, rfl⟩, by simp, keepS_okSO _ _⟩
  · obtain ⟨k1, k2, k3, k4⟩ := atWk_lists (gWk n d).word (gWk n d).word.size hw
    obtain ⟨m1, m2⟩ := optL_at (gWk n d).word (gWk n d).word.size
    have hwo := wordOf_ok n d
    rw [h] at hwo
    have ho : optF n d = optL (gWk n d).word (gWk n d).word.size := by simp [optF, h]
    have e1 := congrArg Wk.low (wk_own h)
    have e2 := congrArg Wk.high (wk_own h)
    simp only at e1 e2
    rw [ho, m1, m2]
    rw [← e1] at k1 k3 ⊢
    rw [← e2] at k2 k4 ⊢
    generalize gWk n d = W at *
    obtain ⟨nums, word, low, high, x0⟩ := W
    simp only at *
    obtain ⟨x, M1, hc1, S, oS, aS⟩ := lastOf_ok low (by omega) k3
    obtain ⟨y, M2, hc2, T, oT, aT⟩ := lastOf_ok high (by omega) k4
    generalize hN1 : M1.map (shO 1) = N1
    have hlen : N1.length = M1.length := by rw [← hN1]; simp
    refine ⟨shA 1 x, shA (N1.length + 1) y, ?_⟩
    generalize hX : shA 1 x = X0
    generalize hY : shA (N1.length + 1) y = Y0
    have okx : K.okT X0 = true := by rw [← hX]; exact oS.okT_sh
    have oky : K.okT Y0 = true := by rw [← hY]; exact oT.okT_sh
    generalize hN2 : M2.map (shO (N1.length + 1)) = N2
    apply ex1
    · apply Ct.by_ hmix [] Try.func45 rfl
      simp only [run0, run1, run2, run3, run4, run5, run6, run7, run8, run9, run10, run11, run12, run13, run14, run15, run16, run17, run18, run19, run20, run21, run22, reduceCtorEq, Nat.reduceEqDiff, Nat.reduceAdd, Nat.reduceSub, Nat.reduceLeDiff, indexAddrA, indexRefA, appendA, strA, Nat.reduceMul, Nat.zero_mul, Nat.reduceMod, Int.reduceEq, Int.reduceLT, Int.reduceLE, Nat.reduceLT, Nat.lt_irrefl, Nat.reduceBEq, tys0, tys1, tys2, tys3, tys4, tys5, tys6, tys7, tys8, tys9, tys10, tys11, Try.ntmps45, Try.results45, fr]
      refine RunL.callp rfl rfl ok_f61 (hwo) (by first | rfl | simp only [pureL, pureB, Bool.and_self, Bool.and_true, Bool.true_and]) rfl ?_
      simp only [run0, run1, run2, run3, run4, run5, run6, run7, run8, run9, run10, run11, run12, run13, run14, run15, run16, run17, run18, run19, run20, run21, run22, reduceCtorEq, Nat.reduceEqDiff, Nat.reduceAdd, Nat.reduceSub, Nat.reduceLeDiff, indexAddrA, indexRefA, appendA, strA, Nat.reduceMul, Nat.zero_mul, Nat.reduceMod, Int.reduceEq, Int.reduceLT, Int.reduceLE, Nat.reduceLT, Nat.lt_irrefl, Nat.reduceBEq, tys0, tys1, tys2, tys3, tys4, tys5, tys6, tys7, tys8, tys9, tys10, tys11, Try.ntmps45, Try.results45]
      refine RunL.callgp rfl rfl ok_f69 rfl hc1 (by simp only [pureL, pureB, ints_pure, Bool.and_self]) rfl ?_
      simp only [run0, run1, run2, run3, run4, run5, run6, run7, run8, run9, run10, run11, run12, run13, run14, run15, run16, run17, run18, run19, run20, run21, run22, reduceCtorEq, Nat.reduceEqDiff, Nat.reduceAdd, Nat.reduceSub, Nat.reduceLeDiff, indexAddrA, indexRefA, appendA, strA, Nat.reduceMul, Nat.zero_mul, Nat.reduceMod, Int.reduceEq, Int.reduceLT, Int.reduceLE, Nat.reduceLT, Nat.lt_irrefl, Nat.reduceBEq, tys0, tys1, tys2, tys3, tys4, tys5, tys6, tys7, tys8, tys9, tys10, tys11, Try.ntmps45, Try.results45, shA, shL, hX, hN1]
      refine RunL.callgp rfl rfl ok_f69 rfl hc2 (by simp only [pureL, pureB, ints_pure, Bool.and_self]) rfl ?_
      simp only [run0, run1, run2, run3, run4, run5, run6, run7, run8, run9, run10, run11, run12, run13, run14, run15, run16, run17, run18, run19, run20, run21, run22, reduceCtorEq, Nat.reduceEqDiff, Nat.reduceAdd, Nat.reduceSub, Nat.reduceLeDiff, indexAddrA, indexRefA, appendA, strA, Nat.reduceMul, Nat.zero_mul, Nat.reduceMod, Int.reduceEq, Int.reduceLT, Int.reduceLE, Nat.reduceLT, Nat.lt_irrefl, Nat.reduceBEq, tys0, tys1, tys2, tys3, tys4, tys5, tys6, tys7, tys8, tys9, tys10, tys11, Try.ntmps45, Try.results45, shA, shL, hY, hN2]
      exact Fin.keep (S.map (· + 1) ++ T.map (· + (N1.length + 1))) (by simp [okT, okTL, okx, oky]) rfl
    · refine ⟨S.map (· + 1), T.map (· + (N1.length + 1)), ?_, ?_, fun id h1 h2 => ?_, keepS_okSO _ _⟩
      · rw [← hX]
        have hh : ∀ B : AObj, OwnF (B :: (N1 ++ N2)) (lastL low) (shA 1 x) (S.map (· + 1)) := fun B => by
          have : OwnF (B :: N1) (lastL low) (shA 1 x) (S.map (· + 1)) := OwnF.sh (fun id => by simp [← hN1]) oS
          exact this.more N2
        exact (hh _).keep fun _ h => List.mem_append_left _ h
      · rw [← hY]
        have hh : ∀ B : AObj, OwnF (B :: (N1 ++ N2)) (lastL high) (shA (N1.length + 1) y) (T.map (· + (N1.length + 1))) := fun B => OwnF.sh (fun id => by
          rw [show id + (N1.length + 1) = (N1.length + id) + 1 by omega]
          simp only [List.getElem?_cons_succ]
          rw [List.getElem?_append_right (by omega), ← hN2, List.getElem?_map]
          congr 2; omega) oT
        exact (hh _).keep fun _ h => List.mem_append_right _ h
      · have hlt := oS.lt
        simp only [List.mem_map] at h1 h2
        obtain ⟨p, hp, rfl⟩ := h1
        obtain ⟨q, hq, e⟩ := h2
        have := hlt p hp
        omega

/-- A row that is only read, or none. -/
def rowV : List Fr → AV
  | [] => nilV
  | e :: r => .sl false ((e :: r).map frE)
theorem rowV_vw {L : List AObj} (l : List Fr) : Vw L (rowV l) (.sl false (l.map frE)) := by
  cases l with
  | nil => exact Vw.nil false
  | cons e r =>
    have hp := frs_pure (e :: r)
    show Vw L (.sl false ((e :: r).map frE)) (.sl false ((e :: r).map frE))
    exact .pur (.of (by simp only [pureB, hp]))
theorem specOpt_ok (n d : Int) : Ct Try.prog 44 [fr n d] [] (.tup [.sl false ((optF n d).1.map frE), .sl false ((optF n d).2.map frE), .bool (shortB n d)]) [] := by
  have hw := wk_size n d
  refine Ct.by_ hmix [] Try.func44 rfl ?_
  simp only [run0, run1, run2, run3, run4, run5, run6, run7, run8, run9, run10, run11, run12, run13, run14, run15, run16, run17, run18, run19, run20, run21, run22, reduceCtorEq, Nat.reduceEqDiff, Nat.reduceAdd, Nat.reduceSub, Nat.reduceLeDiff, indexAddrA, indexRefA, appendA, strA, Nat.reduceMul, Nat.zero_mul, Nat.reduceMod, Int.reduceEq, Int.reduceLT, Int.reduceLE, Nat.reduceLT, Nat.lt_irrefl, Nat.reduceBEq, tys0, tys1, tys2, tys3, tys4, tys5, tys6, tys7, tys8, tys9, tys10, tys11, Try.ntmps44, Try.results44, fr]
  refine RunL.callp rfl rfl ok_f29 (specWordS_ok _ _) (by first | rfl | simp only [pureL, pureB, Bool.and_self, Bool.and_true, Bool.true_and]) rfl ?_
  cases h : shortB n d
  · rw [show optF n d = ([], []) by simp [optF, h]]
    simp only [run0, run1, run2, run3, run4, run5, run6, run7, run8, run9, run10, run11, run12, run13, run14, run15, run16, run17, run18, run19, run20, run21, run22, reduceCtorEq, Nat.reduceEqDiff, Nat.reduceAdd, Nat.reduceSub, Nat.reduceLeDiff, indexAddrA, indexRefA, appendA, strA, Nat.reduceMul, Nat.zero_mul, Nat.reduceMod, Int.reduceEq, Int.reduceLT, Int.reduceLE, Nat.reduceLT, Nat.lt_irrefl, Nat.reduceBEq, tys0, tys1, tys2, tys3, tys4, tys5, tys6, tys7, tys8, tys9, tys10, tys11, Try.ntmps44, Try.results44, h]
    exact Fin.value (Vw.tup (.cons (Vw.nil false) (.cons (Vw.nil false) (.cons (Vw.pur (Pur.bool _)) .nil))))
  · have hs : wordS n d = (gWk n d).word := by simp [wordS, h]
    rw [show optF n d = optL (gWk n d).word (gWk n d).word.size by simp [optF, h], hs]
    have hc := shAncestors_ok (gWk n d).word hw (fun k hk => wk_ok h k hk)
    have hp := frs_pure (rowK (gWk n d).word ((gWk n d).word.size + 1))
    generalize (gWk n d).word = s at *
    have hrl : ((rowK s (s.size + 1)).map frE).length = s.size + 1 := by simp [rowK_len]
    simp only [run0, run1, run2, run3, run4, run5, run6, run7, run8, run9, run10, run11, run12, run13, run14, run15, run16, run17, run18, run19, run20, run21, run22, reduceCtorEq, Nat.reduceEqDiff, Nat.reduceAdd, Nat.reduceSub, Nat.reduceLeDiff, indexAddrA, indexRefA, appendA, strA, Nat.reduceMul, Nat.zero_mul, Nat.reduceMod, Int.reduceEq, Int.reduceLT, Int.reduceLE, Nat.reduceLT, Nat.lt_irrefl, Nat.reduceBEq, tys0, tys1, tys2, tys3, tys4, tys5, tys6, tys7, tys8, tys9, tys10, tys11, Try.ntmps44, Try.results44, h]
    refine RunL.callp rfl rfl ok_f67 (hc) (by first | rfl | simp only [pureL, pureB, Bool.and_self, Bool.and_true, Bool.true_and]) rfl ?_
    simp only [run0, run1, run2, run3, run4, run5, run6, run7, run8, run9, run10, run11, run12, run13, run14, run15, run16, run17, run18, run19, run20, run21, run22, reduceCtorEq, Nat.reduceEqDiff, Nat.reduceAdd, Nat.reduceSub, Nat.reduceLeDiff, indexAddrA, indexRefA, appendA, strA, Nat.reduceMul, Nat.zero_mul, Nat.reduceMod, Int.reduceEq, Int.reduceLT, Int.reduceLE, Nat.reduceLT, Nat.lt_irrefl, Nat.reduceBEq, tys0, tys1, tys2, tys3, tys4, tys5, tys6, tys7, tys8, tys9, tys10, tys11, Try.ntmps44, Try.results44, hrl]
    refine AWp.loop_inv (ι := Nat × List AObj) (fun p => ⟨[.agg [.int .i64 n, .int .i64 d], .ptr 0 0, nilV, nilV, .bool false, .str s, .junk, rowV (optL s p.1).1, rowV (optL s p.1).2, .junk, .junk, .junk, .junk, .junk, .junk, .junk, .junk, .junk, .junk, .sl false ((rowK s (s.size + 1)).map frE), .int .i64 ((s.size + 1 : Nat) : Int), .int .i64 p.1, .junk, .junk, .junk, .junk, .junk, .junk, .junk, .junk, .junk, .junk, .junk, .junk, .junk, .junk, .junk, .junk, .junk, .junk, .junk], .box 26 [.int .i64 n, .int .i64 d] :: p.2⟩)
      (fun p => p.1 ≤ s.size) (fun p => s.size + 1 - p.1) (0, []) (Nat.zero_le _) ⟨by simp only [Int.natCast_zero, optL, rowV]; repeat constructor, rfl⟩ ?_
    rintro ⟨k, X⟩ hk
    refine W.sound hmix (E := []) ?_
    simp only at hk
    have e1 : (k : Int) < ((s.size + 1 : Nat) : Int) := by omega
    have e2 : ((rowK s (s.size + 1)).map frE)[k]? = some (.agg [.int .i64 (frN (atWk s k).x), .int .i64 (frD (atWk s k).x)]) := by
      simp [rowK, frE, frU, show k < s.size + 1 by omega]
    have e5 : IntKind.i64.wrap ((k : Int) + 1) = ((k + 1 : Nat) : Int) := by
      have := w64_id (x := (k : Int) + 1) (by omega) (by omega)
      simp only [w64] at this
      rw [this]; simp
    by_cases hend : k = s.size
    · have e3 : ((k : Int) == (s.size : Int)) = true := by simp [hend]
      simp only [run0, run1, run2, run3, run4, run5, run6, run7, run8, run9, run10, run11, run12, run13, run14, run15, run16, run17, run18, run19, run20, run21, run22, reduceCtorEq, Nat.reduceEqDiff, Nat.reduceAdd, Nat.reduceSub, Nat.reduceLeDiff, indexAddrA, indexRefA, appendA, strA, Nat.reduceMul, Nat.zero_mul, Nat.reduceMod, Int.reduceEq, Int.reduceLT, Int.reduceLE, Nat.reduceLT, Nat.lt_irrefl, Nat.reduceBEq, tys0, tys1, tys2, tys3, tys4, tys5, tys6, tys7, tys8, tys9, tys10, tys11, Try.ntmps44, Try.results44, e1, e2, e3, hrl, Int.toNat_natCast, Int.natCast_nonneg]
      subst hend
      exact Fin.value (Vw.tup (.cons (rowV_vw _) (.cons (rowV_vw _) (.cons (Vw.pur (Pur.bool _)) .nil))))
    · have e3 : ((k : Int) == (s.size : Int)) = false := by simp; omega
      have e4 := index_str (s := s) (k := k) (by omega)
      have e6 : (((s.data.getD k 0).toNat : Int) == 43) = isPlus s k := by
        unfold isPlus
        rw [Bool.eq_iff_iff]; simp only [beq_iff_eq]
        constructor
        · intro he; exact UInt8.toNat_inj.1 (by simpa using (show (s.data.getD k 0).toNat = 43 by omega))
        · intro he; rw [he]; rfl
      cases hp2 : isPlus s k
      · rw [hp2] at e6
        simp only [run0, run1, run2, run3, run4, run5, run6, run7, run8, run9, run10, run11, run12, run13, run14, run15, run16, run17, run18, run19, run20, run21, run22, reduceCtorEq, Nat.reduceEqDiff, Nat.reduceAdd, Nat.reduceSub, Nat.reduceLeDiff, indexAddrA, indexRefA, appendA, strA, Nat.reduceMul, Nat.zero_mul, Nat.reduceMod, Int.reduceEq, Int.reduceLT, Int.reduceLE, Nat.reduceLT, Nat.lt_irrefl, Nat.reduceBEq, tys0, tys1, tys2, tys3, tys4, tys5, tys6, tys7, tys8, tys9, tys10, tys11, Try.ntmps44, Try.results44, e1, e2, e3, e4, e5, e6, hrl, Int.toNat_natCast, Int.natCast_nonneg]
        exact ⟨(k + 1, _), by simp only; omega, by simp only; omega, by simp only [optL, hp2, rowV, frE, frU, List.map_cons, List.map_nil, Bool.false_eq_true, if_false]; repeat constructor, rfl⟩
      · rw [hp2] at e6
        simp only [run0, run1, run2, run3, run4, run5, run6, run7, run8, run9, run10, run11, run12, run13, run14, run15, run16, run17, run18, run19, run20, run21, run22, reduceCtorEq, Nat.reduceEqDiff, Nat.reduceAdd, Nat.reduceSub, Nat.reduceLeDiff, indexAddrA, indexRefA, appendA, strA, Nat.reduceMul, Nat.zero_mul, Nat.reduceMod, Int.reduceEq, Int.reduceLT, Int.reduceLE, Nat.reduceLT, Nat.lt_irrefl, Nat.reduceBEq, tys0, tys1, tys2, tys3, tys4, tys5, tys6, tys7, tys8, tys9, tys10, tys11, Try.ntmps44, Try.results44, e1, e2, e3, e4, e5, e6, hrl, Int.toNat_natCast, Int.natCast_nonneg]
        exact ⟨(k + 1, _), by simp only; omega, by simp only; omega, by simp only [optL, hp2, rowV, frE, frU, List.map_cons, List.map_nil, if_true]; repeat constructor, rfl⟩

theorem okS_resLL {x y : AV} {b : Bool} (h : okT x = true) (k : okT y = true) : okS (.tup [x, y, .bool b]) = true := by
  have := okT_okS h
  have := okT_okS k
  simp [okS, okSL, *]
theorem FnExactOptionsOf_ok {a0 : AV} (h0 : IsOf Try.prog 23 a0) : Ct Try.prog 14 [a0] [] (.bool true) [] := by
  obtain ⟨n, d, rfl, _, _⟩ := laws_isFr h0
  have hsp := specOpt_ok n d
  obtain ⟨g, h, M1, hi, S1, U1, ho1, ho2, hdis, hM1⟩ := implOpt_ok n d
  obtain ⟨hlR, hlQ⟩ := optF_len n d
  have hp := frs_pure (optF n d).1
  have hq := frs_pure (optF n d).2
  generalize (optF n d).1 = R at *
  generalize (optF n d).2 = Q at *
  generalize shortB n d = ok at *
  have hlen : R.length ≤ 1048576 := by omega
  have hlen2 : Q.length ≤ 1048576 := by omega
  simp only [fr] at hsp hi
  generalize hM1' : M1.map (shO 1) = N1 at *
  have og : OwnF (.box 23 [.int .i64 n, .int .i64 d] :: N1) R (shA 1 g) (S1.map (· + 1)) :=
    OwnF.sh (fun id => by simp [← hM1']) ho1
  have oh : OwnF (.box 23 [.int .i64 n, .int .i64 d] :: N1) Q (shA 1 h) (U1.map (· + 1)) :=
    OwnF.sh (fun id => by simp [← hM1']) ho2
  have dis : ∀ id ∈ S1.map (· + 1), id ∉ U1.map (· + 1) := fun id h1 h2 => by
    simp only [List.mem_map] at h1 h2
    obtain ⟨p, hp, rfl⟩ := h1
    obtain ⟨q, hq, e⟩ := h2
    have e' : q = p := by omega
    subst e'
    exact hdis q hp hq
  generalize hG : shA 1 g = G0 at *
  generalize hH : shA 1 h = H0 at *
  generalize hS1 : S1.map (· + 1) = T1 at *
  generalize hU1 : U1.map (· + 1) = V1 at *
  obtain ⟨L2, hc2, og2, hf2, hl2⟩ := markFractionS_ok R G0 T1 (.box 23 [.int .i64 n, .int .i64 d] :: N1) 1 og hlen (by omega) (by omega)
  have q0 : L2[0]? = some (.box 23 [.int .i64 n, .int .i64 d]) := by rw [hf2 0 (og.nobox (T := 23) rfl)]; rfl
  have oh2 : OwnF L2 Q H0 V1 := oh.mono fun id hid g1 es1 hh => by rw [hf2 id (fun h2 => dis id h2 hid)]; exact hh
  obtain ⟨L3, hc3, oh3, hf3, hl3⟩ := markFractionS_ok Q H0 V1 L2 (1 + 2 * R.length) oh2 hlen2 (by omega) (by omega)
  have p0 : L3[0]? = some (.box 23 [.int .i64 n, .int .i64 d]) := by rw [hf3 0 (oh2.nobox q0)]; exact q0
  have og3 : OwnF L3 (mkF R 1) G0 T1 := og2.mono fun id hid g1 es1 hh => by rw [hf3 id (dis id hid)]; exact hh
  have sh3 : ∀ id, (L3 ++ M1.map (shO L3.length))[id + L3.length]? = (M1[id]?).map (shO L3.length) := fun id => by
    rw [List.getElem?_append_right (by omega), List.getElem?_map]; congr 2; omega
  have ogh : OwnF (L3 ++ M1.map (shO L3.length)) R (shA L3.length g) (S1.map (· + L3.length)) := OwnF.sh sh3 ho1
  have ohh : OwnF (L3 ++ M1.map (shO L3.length)) Q (shA L3.length h) (U1.map (· + L3.length)) := OwnF.sh sh3 ho2
  have e4 : ¬ (1 + 2 * (R.length : Int) < 0) := by omega
  have e5 : ¬ (1 + 2 * (R.length : Int) + 2 * (Q.length : Int) < 0) := by omega
  refine Ct.by_ hmix [] Try.func14 rfl ?_
  simp only [run0, run1, run2, run3, run4, run5, run6, run7, run8, run9, run10, run11, run12, run13, run14, run15, run16, run17, run18, run19, run20, run21, run22, reduceCtorEq, Nat.reduceEqDiff, Nat.reduceAdd, Nat.reduceSub, Nat.reduceLeDiff, indexAddrA, indexRefA, appendA, strA, Nat.reduceMul, Nat.zero_mul, Nat.reduceMod, Int.reduceEq, Int.reduceLT, Int.reduceLE, Nat.reduceLT, Nat.lt_irrefl, Nat.reduceBEq, tys0, tys1, tys2, tys3, tys4, tys5, tys6, tys7, tys8, tys9, tys10, tys11, Try.ntmps14, Try.results14, fr]
  refine RunL.callp rfl rfl ok_f16 (toFraction_ok _ _) (by first | rfl | simp only [pureL, pureB, Bool.and_self, Bool.and_true, Bool.true_and]) rfl ?_
  simp only [run0, run1, run2, run3, run4, run5, run6, run7, run8, run9, run10, run11, run12, run13, run14, run15, run16, run17, run18, run19, run20, run21, run22, reduceCtorEq, Nat.reduceEqDiff, Nat.reduceAdd, Nat.reduceSub, Nat.reduceLeDiff, indexAddrA, indexRefA, appendA, strA, Nat.reduceMul, Nat.zero_mul, Nat.reduceMod, Int.reduceEq, Int.reduceLT, Int.reduceLE, Nat.reduceLT, Nat.lt_irrefl, Nat.reduceBEq, tys0, tys1, tys2, tys3, tys4, tys5, tys6, tys7, tys8, tys9, tys10, tys11, Try.ntmps14, Try.results14, fr]
  refine RunL.callp rfl rfl ok_f44 hsp (by rfl) rfl ?_
  simp only [run0, run1, run2, run3, run4, run5, run6, run7, run8, run9, run10, run11, run12, run13, run14, run15, run16, run17, run18, run19, run20, run21, run22, reduceCtorEq, Nat.reduceEqDiff, Nat.reduceAdd, Nat.reduceSub, Nat.reduceLeDiff, indexAddrA, indexRefA, appendA, strA, Nat.reduceMul, Nat.zero_mul, Nat.reduceMod, Int.reduceEq, Int.reduceLT, Int.reduceLE, Nat.reduceLT, Nat.lt_irrefl, Nat.reduceBEq, tys0, tys1, tys2, tys3, tys4, tys5, tys6, tys7, tys8, tys9, tys10, tys11, Try.ntmps14, Try.results14, fr]
  refine RunL.callp rfl rfl ok_f16 (toFraction_ok _ _) (by first | rfl | simp only [pureL, pureB, Bool.and_self, Bool.and_true, Bool.true_and]) rfl ?_
  simp only [run0, run1, run2, run3, run4, run5, run6, run7, run8, run9, run10, run11, run12, run13, run14, run15, run16, run17, run18, run19, run20, run21, run22, reduceCtorEq, Nat.reduceEqDiff, Nat.reduceAdd, Nat.reduceSub, Nat.reduceLeDiff, indexAddrA, indexRefA, appendA, strA, Nat.reduceMul, Nat.zero_mul, Nat.reduceMod, Int.reduceEq, Int.reduceLT, Int.reduceLE, Nat.reduceLT, Nat.lt_irrefl, Nat.reduceBEq, tys0, tys1, tys2, tys3, tys4, tys5, tys6, tys7, tys8, tys9, tys10, tys11, Try.ntmps14, Try.results14, fr]
  refine RunL.callgp rfl rfl ok_f45 rfl hi (by rfl) rfl ?_
  simp only [run0, run1, run2, run3, run4, run5, run6, run7, run8, run9, run10, run11, run12, run13, run14, run15, run16, run17, run18, run19, run20, run21, run22, reduceCtorEq, Nat.reduceEqDiff, Nat.reduceAdd, Nat.reduceSub, Nat.reduceLeDiff, indexAddrA, indexRefA, appendA, strA, Nat.reduceMul, Nat.zero_mul, Nat.reduceMod, Int.reduceEq, Int.reduceLT, Int.reduceLE, Nat.reduceLT, Nat.lt_irrefl, Nat.reduceBEq, tys0, tys1, tys2, tys3, tys4, tys5, tys6, tys7, tys8, tys9, tys10, tys11, Try.ntmps14, Try.results14, shA, shL, hM1', hG, hH]
  refine RunL.lendV rfl rfl ok_f41 rfl (eqFractionS_ok R hlen) (.cons og.view (.cons (.pur (.of (by simp only [pureB, hp]))) .nil)) rfl rfl ?_
  simp only [run0, run1, run2, run3, run4, run5, run6, run7, run8, run9, run10, run11, run12, run13, run14, run15, run16, run17, run18, run19, run20, run21, run22, reduceCtorEq, Nat.reduceEqDiff, Nat.reduceAdd, Nat.reduceSub, Nat.reduceLeDiff, indexAddrA, indexRefA, appendA, strA, Nat.reduceMul, Nat.zero_mul, Nat.reduceMod, Int.reduceEq, Int.reduceLT, Int.reduceLE, Nat.reduceLT, Nat.lt_irrefl, Nat.reduceBEq, tys0, tys1, tys2, tys3, tys4, tys5, tys6, tys7, tys8, tys9, tys10, tys11, Try.ntmps14, Try.results14, bne_self_eq_false]
  refine RunL.lendV rfl rfl ok_f41 rfl (eqFractionS_ok Q hlen2) (.cons oh.view (.cons (.pur (.of (by simp only [pureB, hq]))) .nil)) rfl rfl ?_
  simp only [run0, run1, run2, run3, run4, run5, run6, run7, run8, run9, run10, run11, run12, run13, run14, run15, run16, run17, run18, run19, run20, run21, run22, reduceCtorEq, Nat.reduceEqDiff, Nat.reduceAdd, Nat.reduceSub, Nat.reduceLeDiff, indexAddrA, indexRefA, appendA, strA, Nat.reduceMul, Nat.zero_mul, Nat.reduceMod, Int.reduceEq, Int.reduceLT, Int.reduceLE, Nat.reduceLT, Nat.lt_irrefl, Nat.reduceBEq, tys0, tys1, tys2, tys3, tys4, tys5, tys6, tys7, tys8, tys9, tys10, tys11, Try.ntmps14, Try.results14, bne_self_eq_false]
  refine RunL.callM rfl rfl ok_f42 rfl rfl hc2 rfl ?_
  simp only [run0, run1, run2, run3, run4, run5, run6, run7, run8, run9, run10, run11, run12, run13, run14, run15, run16, run17, run18, run19, run20, run21, run22, reduceCtorEq, Nat.reduceEqDiff, Nat.reduceAdd, Nat.reduceSub, Nat.reduceLeDiff, indexAddrA, indexRefA, appendA, strA, Nat.reduceMul, Nat.zero_mul, Nat.reduceMod, Int.reduceEq, Int.reduceLT, Int.reduceLE, Nat.reduceLT, Nat.lt_irrefl, Nat.reduceBEq, tys0, tys1, tys2, tys3, tys4, tys5, tys6, tys7, tys8, tys9, tys10, tys11, Try.ntmps14, Try.results14, q0]
  refine RunL.callM rfl rfl ok_f42 rfl rfl hc3 rfl ?_
  simp only [run0, run1, run2, run3, run4, run5, run6, run7, run8, run9, run10, run11, run12, run13, run14, run15, run16, run17, run18, run19, run20, run21, run22, reduceCtorEq, Nat.reduceEqDiff, Nat.reduceAdd, Nat.reduceSub, Nat.reduceLeDiff, indexAddrA, indexRefA, appendA, strA, Nat.reduceMul, Nat.zero_mul, Nat.reduceMod, Int.reduceEq, Int.reduceLT, Int.reduceLE, Nat.reduceLT, Nat.lt_irrefl, Nat.reduceBEq, tys0, tys1, tys2, tys3, tys4, tys5, tys6, tys7, tys8, tys9, tys10, tys11, Try.ntmps14, Try.results14, p0]
  refine RunL.lendV rfl rfl ok_f43 rfl (heldFractionS_ok R 1 hlen (by omega) (by omega)) (.cons og3.view (.cons (.pur (.int _ _)) .nil)) rfl rfl ?_
  simp only [run0, run1, run2, run3, run4, run5, run6, run7, run8, run9, run10, run11, run12, run13, run14, run15, run16, run17, run18, run19, run20, run21, run22, reduceCtorEq, Nat.reduceEqDiff, Nat.reduceAdd, Nat.reduceSub, Nat.reduceLeDiff, indexAddrA, indexRefA, appendA, strA, Nat.reduceMul, Nat.zero_mul, Nat.reduceMod, Int.reduceEq, Int.reduceLT, Int.reduceLE, Nat.reduceLT, Nat.lt_irrefl, Nat.reduceBEq, tys0, tys1, tys2, tys3, tys4, tys5, tys6, tys7, tys8, tys9, tys10, tys11, Try.ntmps14, Try.results14, e4, p0, bne_self_eq_false]
  refine RunL.lendV rfl rfl ok_f43 rfl (heldFractionS_ok Q (1 + 2 * R.length) hlen2 (by omega) (by omega)) (.cons oh3.view (.cons (.pur (.int _ _)) .nil)) rfl rfl ?_
  simp only [run0, run1, run2, run3, run4, run5, run6, run7, run8, run9, run10, run11, run12, run13, run14, run15, run16, run17, run18, run19, run20, run21, run22, reduceCtorEq, Nat.reduceEqDiff, Nat.reduceAdd, Nat.reduceSub, Nat.reduceLeDiff, indexAddrA, indexRefA, appendA, strA, Nat.reduceMul, Nat.zero_mul, Nat.reduceMod, Int.reduceEq, Int.reduceLT, Int.reduceLE, Nat.reduceLT, Nat.lt_irrefl, Nat.reduceBEq, tys0, tys1, tys2, tys3, tys4, tys5, tys6, tys7, tys8, tys9, tys10, tys11, Try.ntmps14, Try.results14, e5, p0, bne_self_eq_false]
  refine RunL.callp rfl rfl ok_f16 (toFraction_ok _ _) (by first | rfl | simp only [pureL, pureB, Bool.and_self, Bool.and_true, Bool.true_and]) rfl ?_
  simp only [run0, run1, run2, run3, run4, run5, run6, run7, run8, run9, run10, run11, run12, run13, run14, run15, run16, run17, run18, run19, run20, run21, run22, reduceCtorEq, Nat.reduceEqDiff, Nat.reduceAdd, Nat.reduceSub, Nat.reduceLeDiff, indexAddrA, indexRefA, appendA, strA, Nat.reduceMul, Nat.zero_mul, Nat.reduceMod, Int.reduceEq, Int.reduceLT, Int.reduceLE, Nat.reduceLT, Nat.lt_irrefl, Nat.reduceBEq, tys0, tys1, tys2, tys3, tys4, tys5, tys6, tys7, tys8, tys9, tys10, tys11, Try.ntmps14, Try.results14, fr]
  refine RunL.callgp rfl rfl ok_f45 rfl hi (by rfl) rfl ?_
  simp only [run0, run1, run2, run3, run4, run5, run6, run7, run8, run9, run10, run11, run12, run13, run14, run15, run16, run17, run18, run19, run20, run21, run22, reduceCtorEq, Nat.reduceEqDiff, Nat.reduceAdd, Nat.reduceSub, Nat.reduceLeDiff, indexAddrA, indexRefA, appendA, strA, Nat.reduceMul, Nat.zero_mul, Nat.reduceMod, Int.reduceEq, Int.reduceLT, Int.reduceLE, Nat.reduceLT, Nat.lt_irrefl, Nat.reduceBEq, tys0, tys1, tys2, tys3, tys4, tys5, tys6, tys7, tys8, tys9, tys10, tys11, Try.ntmps14, Try.results14, shA, shL]
  refine RunL.lendV rfl rfl ok_f41 rfl (eqFractionS_ok R hlen) (.cons ogh.view (.cons (.pur (.of (by simp only [pureB, hp]))) .nil)) rfl rfl ?_
  simp only [run0, run1, run2, run3, run4, run5, run6, run7, run8, run9, run10, run11, run12, run13, run14, run15, run16, run17, run18, run19, run20, run21, run22, reduceCtorEq, Nat.reduceEqDiff, Nat.reduceAdd, Nat.reduceSub, Nat.reduceLeDiff, indexAddrA, indexRefA, appendA, strA, Nat.reduceMul, Nat.zero_mul, Nat.reduceMod, Int.reduceEq, Int.reduceLT, Int.reduceLE, Nat.reduceLT, Nat.lt_irrefl, Nat.reduceBEq, tys0, tys1, tys2, tys3, tys4, tys5, tys6, tys7, tys8, tys9, tys10, tys11, Try.ntmps14, Try.results14, bne_self_eq_false]
  refine RunL.lendV rfl rfl ok_f41 rfl (eqFractionS_ok Q hlen2) (.cons ohh.view (.cons (.pur (.of (by simp only [pureB, hq]))) .nil)) rfl rfl ?_
  simp only [run0, run1, run2, run3, run4, run5, run6, run7, run8, run9, run10, run11, run12, run13, run14, run15, run16, run17, run18, run19, run20, run21, run22, reduceCtorEq, Nat.reduceEqDiff, Nat.reduceAdd, Nat.reduceSub, Nat.reduceLeDiff, indexAddrA, indexRefA, appendA, strA, Nat.reduceMul, Nat.zero_mul, Nat.reduceMod, Int.reduceEq, Int.reduceLT, Int.reduceLE, Nat.reduceLT, Nat.lt_irrefl, Nat.reduceBEq, tys0, tys1, tys2, tys3, tys4, tys5, tys6, tys7, tys8, tys9, tys10, tys11, Try.ntmps14, Try.results14, bne_self_eq_false]
  refine RunL.lendV rfl rfl ok_f43 rfl (heldFractionS_ok R 1 hlen (by omega) (by omega)) (.cons (og3.more _).view (.cons (.pur (.int _ _)) .nil)) rfl rfl ?_
  simp only [run0, run1, run2, run3, run4, run5, run6, run7, run8, run9, run10, run11, run12, run13, run14, run15, run16, run17, run18, run19, run20, run21, run22, reduceCtorEq, Nat.reduceEqDiff, Nat.reduceAdd, Nat.reduceSub, Nat.reduceLeDiff, indexAddrA, indexRefA, appendA, strA, Nat.reduceMul, Nat.zero_mul, Nat.reduceMod, Int.reduceEq, Int.reduceLT, Int.reduceLE, Nat.reduceLT, Nat.lt_irrefl, Nat.reduceBEq, tys0, tys1, tys2, tys3, tys4, tys5, tys6, tys7, tys8, tys9, tys10, tys11, Try.ntmps14, Try.results14, e4, bne_self_eq_false]
  refine RunL.lendV rfl rfl ok_f43 rfl (heldFractionS_ok Q (1 + 2 * R.length) hlen2 (by omega) (by omega)) (.cons (oh3.more _).view (.cons (.pur (.int _ _)) .nil)) rfl rfl ?_
  simp only [run0, run1, run2, run3, run4, run5, run6, run7, run8, run9, run10, run11, run12, run13, run14, run15, run16, run17, run18, run19, run20, run21, run22, reduceCtorEq, Nat.reduceEqDiff, Nat.reduceAdd, Nat.reduceSub, Nat.reduceLeDiff, indexAddrA, indexRefA, appendA, strA, Nat.reduceMul, Nat.zero_mul, Nat.reduceMod, Int.reduceEq, Int.reduceLT, Int.reduceLE, Nat.reduceLT, Nat.lt_irrefl, Nat.reduceBEq, tys0, tys1, tys2, tys3, tys4, tys5, tys6, tys7, tys8, tys9, tys10, tys11, Try.ntmps14, Try.results14, e5, bne_self_eq_false]
  exact Fin.eq rfl rfl

end Go.Proofs.Ytolfjeedgedblaa
