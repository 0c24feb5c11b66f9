/-
  Surreals: negatives: their law.
-/
import Derived.Test.YtfblibmibaiagaaS16
namespace Go.Proofs.Ytfblibmibaiagaa
open Go K Su
set_option linter.unusedSimpArgs false
set_option linter.unusedVariables false
set_option maxHeartbeats 800000

theorem elems_mem : ∀ (a : Su) (x : AV), x ∈ elems a → ∃ (e : Su) (c : Int × Int), x = .agg [.sl false (elems e), .int .i64 c.1, .int .i64 c.2]
  | .nil, x, h => by simp [elems] at h
  | .cons e c r, x, h => by
    simp only [elems, List.mem_cons] at h
    rcases h with rfl | h
    · exact ⟨e, c, rfl⟩
    · exact elems_mem r x h
theorem Vw_elems {L : List AObj} {id g n : Nat} {T : TypeId} {a : Su} {es : List AV} (hL : L[id]? = some (.vec T 3 g es)) (he : es = elems a) (hn : n = a.len) : Vw L (.ref id [] g n) (.sl false (elems a)) := by
  subst he hn
  have := Vw.refPur (o := false) hL (n := a.len) (by rw [elems_length]; exact Nat.le_refl _) (fun e he c hc => by
    obtain ⟨e', c', rfl⟩ := elems_mem a e he
    simp only [AV.cells, List.mem_cons, List.not_mem_nil, or_false] at hc
    rcases hc with rfl | rfl | rfl
    · exact ⟨.of (by simp only [pureB, elems_pure]), fun xs h => by cases h⟩
    · exact ⟨.int _ _, fun xs h => by cases h⟩
    · exact ⟨.int _ _, fun xs h => by cases h⟩)
  rwa [take_all] at this

def negC (c : Int × Int) : Int × Int := (IntKind.i64.wrap (0 - c.1), c.2)
def negT : Su → Su
  | .nil => .nil
  | .cons e c r => .cons e (negC c) (negT r)
theorem negT_len : ∀ a : Su, (negT a).len = a.len
  | .nil => rfl
  | .cons e c r => by simp [negT, len, negT_len r]
theorem negT_sz : ∀ a : Su, (negT a).sz = a.sz
  | .nil => rfl
  | .cons e c r => by simp [negT, sz, negT_sz r]
theorem negT_app : ∀ d r : Su, negT (d.app r) = (negT d).app (negT r)
  | .nil, r => rfl
  | .cons e c d, r => by simp [negT, app, negT_app d r]
theorem negC_ok {c : Int × Int} (h : okC c = true) : okC (negC c) = true := by
  obtain ⟨h1, h2⟩ := okC_good h
  have r := good_range h1
  obtain ⟨n, d⟩ := c
  simp only at h1 h2 r
  have hw : IntKind.i64.wrap (0 - n) = -n := by rw [wr_id (by omega) (by omega)]; omega
  have g : gcdI n d = 1 := by simp only [goodB, Bool.and_eq_true, beq_iff_eq] at h1; exact h1.2
  have g' : gcdI (-n) d = gcdI n d := by
    rw [gcdI_gcd (by omega) (by omega) (by omega), gcdI_gcd (by omega) (by omega) (by omega), Int.natAbs_neg]
  simp only [okC, negC, hw, goodB, inB, g', g, beq_self_eq_true, Bool.and_true, Bool.and_eq_true, decide_eq_true_eq, Bool.not_eq_true', beq_eq_false_iff_ne, ne_eq]
  omega
theorem formG_neg : ∀ {a : Su} {n : Nat} {p : Option Su}, formG a n p = true → formG (negT a) n p = true
  | .nil, _, _, _ => rfl
  | .cons e c r, n, p, h => by
    rw [formG_cons] at h
    show formG (.cons e (negC c) (negT r)) n p = true
    rw [formG_cons]
    simp only [Bool.and_eq_true] at h ⊢
    exact ⟨⟨⟨negC_ok h.1.1.1, h.1.1.2⟩, h.1.2⟩, formG_neg h.2⟩
theorem goodT_neg {a : Su} (h : goodT a = true) : goodT (negT a) = true := by
  simp only [goodT, Bool.and_eq_true, decide_eq_true_eq, negT_sz] at h ⊢
  exact ⟨h.1, formG_neg h.2⟩

theorem shNeg_ok (c : Int × Int) : Ct Try.prog 94 [fr c.1 c.2] [] (fr (negC c).1 (negC c).2) [] := by
  refine Ct.by_ hmix [] Try.func94 rfl ?_
  simp only [run0, run1, run2, run3, run4, run5, run6, run7, run8, run9, run10, run11, run12, run13, run14, run15, run16, run17, run18, run19, run20, run21, run22, reduceCtorEq, Nat.reduceEqDiff, Nat.reduceAdd, Nat.reduceSub, Nat.reduceLeDiff, indexAddrA, indexRefA, appendA, strA, Nat.reduceMul, Nat.zero_mul, Nat.reduceMod, Int.reduceEq, Int.reduceLT, Int.reduceLE, Nat.reduceLT, Nat.lt_irrefl, Nat.reduceBEq, tys0, tys1, tys2, tys3, tys4, tys5, tys6, tys7, tys8, tys9, tys10, tys11, tys12, tys13, tys14, tys15, tys16, tys17, Try.ntmps94, Try.results94, fr]
  exact Fin.eq rfl rfl

theorem negative_ok (a : Su) (ha : a.sz ≤ 1048576) : Ct Try.prog 69 [av a] [] (av (negT a)) [] := by
  have hla := len_le a
  refine Ct.by_ hmix [] Try.func69 rfl ?_
  simp only [run0, run1, run2, run3, run4, run5, run6, run7, run8, run9, run10, run11, run12, run13, run14, run15, run16, run17, run18, run19, run20, run21, run22, reduceCtorEq, Nat.reduceEqDiff, Nat.reduceAdd, Nat.reduceSub, Nat.reduceLeDiff, indexAddrA, indexRefA, appendA, strA, Nat.reduceMul, Nat.zero_mul, Nat.reduceMod, Int.reduceEq, Int.reduceLT, Int.reduceLE, Nat.reduceLT, Nat.lt_irrefl, Nat.reduceBEq, tys0, tys1, tys2, tys3, tys4, tys5, tys6, tys7, tys8, tys9, tys10, tys11, tys12, tys13, tys14, tys15, tys16, tys17, Try.ntmps69, Try.results69, av, elems_length]
  refine AWp.nilB 2 0 76 3 rfl rfl ?_
  simp only [run0, run1, run2, run3, run4, run5, run6, run7, run8, run9, run10, run11, run12, run13, run14, run15, run16, run17, run18, run19, run20, run21, run22, reduceCtorEq, Nat.reduceEqDiff, Nat.reduceAdd, Nat.reduceSub, Nat.reduceLeDiff, indexAddrA, indexRefA, appendA, strA, Nat.reduceMul, Nat.zero_mul, Nat.reduceMod, Int.reduceEq, Int.reduceLT, Int.reduceLE, Nat.reduceLT, Nat.lt_irrefl, Nat.reduceBEq, tys0, tys1, tys2, tys3, tys4, tys5, tys6, tys7, tys8, tys9, tys10, tys11, tys12, tys13, tys14, tys15, tys16, tys17, Try.ntmps69, Try.results69]
  refine AWp.loop_inv (ι := Su × Su × List AObj) (fun p => ⟨[.agg [.sl false (elems a)], .ptr 0 0, .ptr 1 0, .ptr 2 0, .junk, .junk, .junk, .junk, .sl false (elems a), .int .i64 a.len, .int .i64 p.1.len, .junk, .junk, .junk, .junk, .junk, .junk, .junk, .junk, .junk, .junk, .junk, .junk, .junk, .junk, .junk, .junk, .junk, .junk, .junk, .junk, .junk],
      .box 26 [.sl false (elems a)] :: .box 26 [nilV] :: .box 26 [.ref 3 [] p.1.len p.1.len] :: .vec 76 3 p.1.len (elems (negT p.1)) :: p.2.2⟩)
    (fun p => a = p.1.app p.2.1) (fun p => p.2.1.len) (.nil, a, []) rfl ⟨by simp only [len, Int.natCast_zero]; repeat constructor, rfl⟩ ?_
  rintro ⟨d, r, X⟩ h1
  simp only at h1
  refine W.sound hmix (E := []) ?_
  have hdl : d.len ≤ a.len := by rw [h1, len_app]; omega
  have f3 : d.len + 1 ≤ 137438953472 := by omega
  have f4 := elems_noOwn (negT d)
  cases r with
  | nil =>
    obtain ⟨e1, rfl⟩ := od_end h1
    simp only [run0, run1, run2, run3, run4, run5, run6, run7, run8, run9, run10, run11, run12, run13, run14, run15, run16, run17, run18, run19, run20, run21, run22, reduceCtorEq, Nat.reduceEqDiff, Nat.reduceAdd, Nat.reduceSub, Nat.reduceLeDiff, indexAddrA, indexRefA, appendA, strA, Nat.reduceMul, Nat.zero_mul, Nat.reduceMod, Int.reduceEq, Int.reduceLT, Int.reduceLE, Nat.reduceLT, Nat.lt_irrefl, Nat.reduceBEq, tys0, tys1, tys2, tys3, tys4, tys5, tys6, tys7, tys8, tys9, tys10, tys11, tys12, tys13, tys14, tys15, tys16, tys17, Try.ntmps69, Try.results69, elems_length, e1]
    exact Fin.value (Vw.agg (.cons (Vw_elems (T := 76) rfl rfl (negT_len a).symm) .nil))
  | cons e c r =>
    obtain ⟨e1, e2, e5, hlt, hn, _⟩ := od_step h1 ha
    have hd1 : (d.app (cons e c nil)).len = d.len + 1 := by rw [len_app]; rfl
    have hs1 : elems (negT (d.app (cons e c nil))) = elems (negT d) ++ [.agg [.sl false (elems e), .int .i64 (IntKind.i64.wrap (0 - c.1)), .int .i64 c.2]] := by rw [negT_app, elems_app]; rfl
    simp only [run0, run1, run2, run3, run4, run5, run6, run7, run8, run9, run10, run11, run12, run13, run14, run15, run16, run17, run18, run19, run20, run21, run22, reduceCtorEq, Nat.reduceEqDiff, Nat.reduceAdd, Nat.reduceSub, Nat.reduceLeDiff, indexAddrA, indexRefA, appendA, strA, Nat.reduceMul, Nat.zero_mul, Nat.reduceMod, Int.reduceEq, Int.reduceLT, Int.reduceLE, Nat.reduceLT, Nat.lt_irrefl, Nat.reduceBEq, tys0, tys1, tys2, tys3, tys4, tys5, tys6, tys7, tys8, tys9, tys10, tys11, tys12, tys13, tys14, tys15, tys16, tys17, Try.ntmps69, Try.results69, elems_length, e1, e2, Int.toNat_natCast, Int.natCast_nonneg, negT_len, f3, f4, e5]
    exact ⟨(d.app (cons e c nil), r, X ++ [.box 76 [.sl false (elems e), .int .i64 c.1, .int .i64 c.2]]), hn.symm, by simp [len], by simp only [hd1]; repeat constructor, by simp only [hd1, hs1, List.cons_append]⟩

theorem suNeg_ok (a : Su) (ha : a.sz ≤ 1048576) : Ct Try.prog 68 [av a] [] (av (negT a)) [] := by
  have hla := len_le a
  refine Ct.by_ hmix [] Try.func68 rfl ?_
  simp only [run0, run1, run2, run3, run4, run5, run6, run7, run8, run9, run10, run11, run12, run13, run14, run15, run16, run17, run18, run19, run20, run21, run22, reduceCtorEq, Nat.reduceEqDiff, Nat.reduceAdd, Nat.reduceSub, Nat.reduceLeDiff, indexAddrA, indexRefA, appendA, strA, Nat.reduceMul, Nat.zero_mul, Nat.reduceMod, Int.reduceEq, Int.reduceLT, Int.reduceLE, Nat.reduceLT, Nat.lt_irrefl, Nat.reduceBEq, tys0, tys1, tys2, tys3, tys4, tys5, tys6, tys7, tys8, tys9, tys10, tys11, tys12, tys13, tys14, tys15, tys16, tys17, Try.ntmps68, Try.results68, av, elems_length]
  refine AWp.nilB 2 0 76 3 rfl rfl ?_
  simp only [run0, run1, run2, run3, run4, run5, run6, run7, run8, run9, run10, run11, run12, run13, run14, run15, run16, run17, run18, run19, run20, run21, run22, reduceCtorEq, Nat.reduceEqDiff, Nat.reduceAdd, Nat.reduceSub, Nat.reduceLeDiff, indexAddrA, indexRefA, appendA, strA, Nat.reduceMul, Nat.zero_mul, Nat.reduceMod, Int.reduceEq, Int.reduceLT, Int.reduceLE, Nat.reduceLT, Nat.lt_irrefl, Nat.reduceBEq, tys0, tys1, tys2, tys3, tys4, tys5, tys6, tys7, tys8, tys9, tys10, tys11, tys12, tys13, tys14, tys15, tys16, tys17, Try.ntmps68, Try.results68]
  refine AWp.loop_inv (ι := Su × Su × List AObj) (fun p => ⟨[.agg [.sl false (elems a)], .ptr 0 0, .ptr 1 0, .ptr 2 0, .junk, .junk, .junk, .junk, .sl false (elems a), .int .i64 a.len, .int .i64 p.1.len, .junk, .junk, .junk, .junk, .junk, .junk, .junk, .junk, .junk, .junk, .junk, .junk, .junk, .junk, .junk, .junk],
      .box 26 [.sl false (elems a)] :: .box 26 [nilV] :: .box 26 [.ref 3 [] p.1.len p.1.len] :: .vec 76 3 p.1.len (elems (negT p.1)) :: p.2.2⟩)
    (fun p => a = p.1.app p.2.1) (fun p => p.2.1.len) (.nil, a, []) rfl ⟨by simp only [len, Int.natCast_zero]; repeat constructor, rfl⟩ ?_
  rintro ⟨d, r, X⟩ h1
  simp only at h1
  refine W.sound hmix (E := []) ?_
  have hdl : d.len ≤ a.len := by rw [h1, len_app]; omega
  have f3 : d.len + 1 ≤ 137438953472 := by omega
  have f4 := elems_noOwn (negT d)
  cases r with
  | nil =>
    obtain ⟨e1, rfl⟩ := od_end h1
    simp only [run0, run1, run2, run3, run4, run5, run6, run7, run8, run9, run10, run11, run12, run13, run14, run15, run16, run17, run18, run19, run20, run21, run22, reduceCtorEq, Nat.reduceEqDiff, Nat.reduceAdd, Nat.reduceSub, Nat.reduceLeDiff, indexAddrA, indexRefA, appendA, strA, Nat.reduceMul, Nat.zero_mul, Nat.reduceMod, Int.reduceEq, Int.reduceLT, Int.reduceLE, Nat.reduceLT, Nat.lt_irrefl, Nat.reduceBEq, tys0, tys1, tys2, tys3, tys4, tys5, tys6, tys7, tys8, tys9, tys10, tys11, tys12, tys13, tys14, tys15, tys16, tys17, Try.ntmps68, Try.results68, elems_length, e1]
    exact Fin.value (Vw.agg (.cons (Vw_elems (T := 76) rfl rfl (negT_len a).symm) .nil))
  | cons e c r =>
    obtain ⟨e1, e2, e5, hlt, hn, _⟩ := od_step h1 ha
    have hd1 : (d.app (cons e c nil)).len = d.len + 1 := by rw [len_app]; rfl
    have hs1 : elems (negT (d.app (cons e c nil))) = elems (negT d) ++ [.agg [.sl false (elems e), .int .i64 (negC c).1, .int .i64 (negC c).2]] := by rw [negT_app, elems_app]; rfl
    simp only [run0, run1, run2, run3, run4, run5, run6, run7, run8, run9, run10, run11, run12, run13, run14, run15, run16, run17, run18, run19, run20, run21, run22, reduceCtorEq, Nat.reduceEqDiff, Nat.reduceAdd, Nat.reduceSub, Nat.reduceLeDiff, indexAddrA, indexRefA, appendA, strA, Nat.reduceMul, Nat.zero_mul, Nat.reduceMod, Int.reduceEq, Int.reduceLT, Int.reduceLE, Nat.reduceLT, Nat.lt_irrefl, Nat.reduceBEq, tys0, tys1, tys2, tys3, tys4, tys5, tys6, tys7, tys8, tys9, tys10, tys11, tys12, tys13, tys14, tys15, tys16, tys17, Try.ntmps68, Try.results68, elems_length, e1, e2, Int.toNat_natCast, Int.natCast_nonneg]
    refine ⟨by kernel_rfl, ?_⟩
    refine RunL.callp rfl rfl ok_f94 (shNeg_ok c) (by first | rfl | simp only [pureL, pureB, Bool.and_self, Bool.and_true, Bool.true_and, Su.elems_pure, Su.pay_pure, Su.av_pure]) rfl ?_
    simp only [run0, run1, run2, run3, run4, run5, run6, run7, run8, run9, run10, run11, run12, run13, run14, run15, run16, run17, run18, run19, run20, run21, run22, reduceCtorEq, Nat.reduceEqDiff, Nat.reduceAdd, Nat.reduceSub, Nat.reduceLeDiff, indexAddrA, indexRefA, appendA, strA, Nat.reduceMul, Nat.zero_mul, Nat.reduceMod, Int.reduceEq, Int.reduceLT, Int.reduceLE, Nat.reduceLT, Nat.lt_irrefl, Nat.reduceBEq, tys0, tys1, tys2, tys3, tys4, tys5, tys6, tys7, tys8, tys9, tys10, tys11, tys12, tys13, tys14, tys15, tys16, tys17, Try.ntmps68, Try.results68, fr, elems_length, negT_len, f3, f4, e5]
    exact ⟨(d.app (cons e c nil), r, X ++ [.box 76 [.sl false (elems e), .int .i64 c.1, .int .i64 c.2]]), hn.symm, by simp [len], by simp only [hd1]; repeat constructor, by simp only [hd1, hs1, List.cons_append]⟩

def negR (a : Su) : Su := if goodT a then negT a else .nil
theorem negR_sz (a : Su) (h : a.sz ≤ 1048576) : (negR a).sz ≤ 1048576 := by
  unfold negR
  split
  · rw [negT_sz]; exact h
  · simp [sz]
theorem implNeg_ok (a : Su) (hs : a.sz ≤ 1048576) : ∃ x M, Ct Try.prog 36 [av a] [] (.tup [.agg [x], .bool (goodT a)]) M ∧ Own M (negR a) x := by
  obtain ⟨x, M, ht, S, ho, hn, hM⟩ := told_ok (negT a) (goodT a) (by rw [negT_sz]; exact hs)
  have e1 : (goodT a && goodT (negT a)) = goodT a := by
    cases h : goodT a
    · rfl
    · rw [goodT_neg h]; rfl
  have e2 : (if (goodT a && goodT (negT a)) = true then negT a else .nil) = negR a := by rw [e1]; rfl
  rw [e1] at ht
  rw [e2] at ho
  refine ⟨shA 2 x, ?_⟩
  apply ex1
  · apply Ct.by_ hmix [2000000 + 48] Try.func36 rfl
    simp only [run0, run1, run2, run3, run4, run5, run6, run7, run8, run9, run10, run11, run12, run13, run14, run15, run16, run17, run18, run19, run20, run21, run22, reduceCtorEq, Nat.reduceEqDiff, Nat.reduceAdd, Nat.reduceSub, Nat.reduceLeDiff, indexAddrA, indexRefA, appendA, strA, Nat.reduceMul, Nat.zero_mul, Nat.reduceMod, Int.reduceEq, Int.reduceLT, Int.reduceLE, Nat.reduceLT, Nat.lt_irrefl, Nat.reduceBEq, tys0, tys1, tys2, tys3, tys4, tys5, tys6, tys7, tys8, tys9, tys10, tys11, tys12, tys13, tys14, tys15, tys16, tys17, Try.ntmps36, Try.results36, av]
    refine ⟨by kernel_rfl, ?_⟩
    refine RunL.callp rfl rfl ok_f69 (negative_ok a hs) (by first | rfl | simp only [pureL, pureB, Bool.and_self, Bool.and_true, Bool.true_and, Su.elems_pure, Su.pay_pure, Su.av_pure]) rfl ?_
    simp only [run0, run1, run2, run3, run4, run5, run6, run7, run8, run9, run10, run11, run12, run13, run14, run15, run16, run17, run18, run19, run20, run21, run22, reduceCtorEq, Nat.reduceEqDiff, Nat.reduceAdd, Nat.reduceSub, Nat.reduceLeDiff, indexAddrA, indexRefA, appendA, strA, Nat.reduceMul, Nat.zero_mul, Nat.reduceMod, Int.reduceEq, Int.reduceLT, Int.reduceLE, Nat.reduceLT, Nat.lt_irrefl, Nat.reduceBEq, tys0, tys1, tys2, tys3, tys4, tys5, tys6, tys7, tys8, tys9, tys10, tys11, tys12, tys13, tys14, tys15, tys16, tys17, Try.ntmps36, Try.results36, av]
    refine RunL.callp rfl rfl ok_f23 (IsSurreal_ok a hs) (by first | rfl | simp only [pureL, pureB, Bool.and_self, Bool.and_true, Bool.true_and, Su.elems_pure, Su.pay_pure, Su.av_pure]) rfl ?_
    simp only [run0, run1, run2, run3, run4, run5, run6, run7, run8, run9, run10, run11, run12, run13, run14, run15, run16, run17, run18, run19, run20, run21, run22, reduceCtorEq, Nat.reduceEqDiff, Nat.reduceAdd, Nat.reduceSub, Nat.reduceLeDiff, indexAddrA, indexRefA, appendA, strA, Nat.reduceMul, Nat.zero_mul, Nat.reduceMod, Int.reduceEq, Int.reduceLT, Int.reduceLE, Nat.reduceLT, Nat.lt_irrefl, Nat.reduceBEq, tys0, tys1, tys2, tys3, tys4, tys5, tys6, tys7, tys8, tys9, tys10, tys11, tys12, tys13, tys14, tys15, tys16, tys17, Try.ntmps36, Try.results36, av]
    refine RunL.callgp rfl rfl ok_f48 rfl ht (by simp only [pureL, pureB, av_pure, Bool.and_self]) rfl ?_
    simp only [run0, run1, run2, run3, run4, run5, run6, run7, run8, run9, run10, run11, run12, run13, run14, run15, run16, run17, run18, run19, run20, run21, run22, reduceCtorEq, Nat.reduceEqDiff, Nat.reduceAdd, Nat.reduceSub, Nat.reduceLeDiff, indexAddrA, indexRefA, appendA, strA, Nat.reduceMul, Nat.zero_mul, Nat.reduceMod, Int.reduceEq, Int.reduceLT, Int.reduceLE, Nat.reduceLT, Nat.lt_irrefl, Nat.reduceBEq, tys0, tys1, tys2, tys3, tys4, tys5, tys6, tys7, tys8, tys9, tys10, tys11, tys12, tys13, tys14, tys15, tys16, tys17, Try.ntmps36, Try.results36, shA, shL]
    exact Fin.keep (S.map (· + 2)) (by simp [okT, okTL, okT_sh ho]) rfl
  · exact Own.end (k := 2) (fun id => by simp) ho hn
theorem specNeg_ok (a : Su) (hs : a.sz ≤ 1048576) : Ct Try.prog 35 [av a] [] (.tup [av (negR a), .bool (goodT a)]) [] := by
  refine Ct.by_ hmix [] Try.func35 rfl ?_
  simp only [run0, run1, run2, run3, run4, run5, run6, run7, run8, run9, run10, run11, run12, run13, run14, run15, run16, run17, run18, run19, run20, run21, run22, reduceCtorEq, Nat.reduceEqDiff, Nat.reduceAdd, Nat.reduceSub, Nat.reduceLeDiff, indexAddrA, indexRefA, appendA, strA, Nat.reduceMul, Nat.zero_mul, Nat.reduceMod, Int.reduceEq, Int.reduceLT, Int.reduceLE, Nat.reduceLT, Nat.lt_irrefl, Nat.reduceBEq, tys0, tys1, tys2, tys3, tys4, tys5, tys6, tys7, tys8, tys9, tys10, tys11, tys12, tys13, tys14, tys15, tys16, tys17, Try.ntmps35, Try.results35, av]
  refine RunL.callp rfl rfl ok_f55 (odGood_ok a hs) (by first | rfl | simp only [pureL, pureB, Bool.and_self, Bool.and_true, Bool.true_and, Su.elems_pure, Su.pay_pure, Su.av_pure]) rfl ?_
  cases h1 : goodT a
  · rw [show negR a = .nil by simp [negR, h1]]
    simp only [run0, run1, run2, run3, run4, run5, run6, run7, run8, run9, run10, run11, run12, run13, run14, run15, run16, run17, run18, run19, run20, run21, run22, reduceCtorEq, Nat.reduceEqDiff, Nat.reduceAdd, Nat.reduceSub, Nat.reduceLeDiff, indexAddrA, indexRefA, appendA, strA, Nat.reduceMul, Nat.zero_mul, Nat.reduceMod, Int.reduceEq, Int.reduceLT, Int.reduceLE, Nat.reduceLT, Nat.lt_irrefl, Nat.reduceBEq, tys0, tys1, tys2, tys3, tys4, tys5, tys6, tys7, tys8, tys9, tys10, tys11, tys12, tys13, tys14, tys15, tys16, tys17, Try.ntmps35, Try.results35, h1]
    exact Fin.value (Vw.tup (.cons (Vw.agg (.cons (Vw.nil false) .nil)) (.cons (Vw.pur (Pur.bool _)) .nil)))
  · rw [show negR a = negT a by simp [negR, h1]]
    simp only [run0, run1, run2, run3, run4, run5, run6, run7, run8, run9, run10, run11, run12, run13, run14, run15, run16, run17, run18, run19, run20, run21, run22, reduceCtorEq, Nat.reduceEqDiff, Nat.reduceAdd, Nat.reduceSub, Nat.reduceLeDiff, indexAddrA, indexRefA, appendA, strA, Nat.reduceMul, Nat.zero_mul, Nat.reduceMod, Int.reduceEq, Int.reduceLT, Int.reduceLE, Nat.reduceLT, Nat.lt_irrefl, Nat.reduceBEq, tys0, tys1, tys2, tys3, tys4, tys5, tys6, tys7, tys8, tys9, tys10, tys11, tys12, tys13, tys14, tys15, tys16, tys17, Try.ntmps35, Try.results35, h1]
    refine RunL.callp rfl rfl ok_f68 (suNeg_ok a hs) (by first | rfl | simp only [pureL, pureB, Bool.and_self, Bool.and_true, Bool.true_and, Su.elems_pure, Su.pay_pure, Su.av_pure]) rfl ?_
    simp only [run0, run1, run2, run3, run4, run5, run6, run7, run8, run9, run10, run11, run12, run13, run14, run15, run16, run17, run18, run19, run20, run21, run22, reduceCtorEq, Nat.reduceEqDiff, Nat.reduceAdd, Nat.reduceSub, Nat.reduceLeDiff, indexAddrA, indexRefA, appendA, strA, Nat.reduceMul, Nat.zero_mul, Nat.reduceMod, Int.reduceEq, Int.reduceLT, Int.reduceLE, Nat.reduceLT, Nat.lt_irrefl, Nat.reduceBEq, tys0, tys1, tys2, tys3, tys4, tys5, tys6, tys7, tys8, tys9, tys10, tys11, tys12, tys13, tys14, tys15, tys16, tys17, Try.ntmps35, Try.results35, av]
    refine RunL.callp rfl rfl ok_f66 (own_v (negT a) (by rw [negT_sz]; exact hs)) (by first | rfl | simp only [pureL, pureB, Bool.and_self, Bool.and_true, Bool.true_and, Su.elems_pure, Su.pay_pure, Su.av_pure]) rfl ?_
    simp only [run0, run1, run2, run3, run4, run5, run6, run7, run8, run9, run10, run11, run12, run13, run14, run15, run16, run17, run18, run19, run20, run21, run22, reduceCtorEq, Nat.reduceEqDiff, Nat.reduceAdd, Nat.reduceSub, Nat.reduceLeDiff, indexAddrA, indexRefA, appendA, strA, Nat.reduceMul, Nat.zero_mul, Nat.reduceMod, Int.reduceEq, Int.reduceLT, Int.reduceLE, Nat.reduceLT, Nat.lt_irrefl, Nat.reduceBEq, tys0, tys1, tys2, tys3, tys4, tys5, tys6, tys7, tys8, tys9, tys10, tys11, tys12, tys13, tys14, tys15, tys16, tys17, Try.ntmps35, Try.results35, av]
    exact Fin.eq rfl (by simp only [pureB, pureL, elems_pure, Bool.and_self])

theorem FnExactNegateSurreal_ok {a0 : AV} (h0 : IsOf Try.prog 36 a0) : Ct Try.prog 10 [a0] [] (.bool true) [] := by
  obtain ⟨a, rfl, hf⟩ := laws_isOd h0
  rcases szR_spec a.sz 1048576 with ⟨hs, hr⟩ | ⟨hs, hr⟩
  case inr =>
    refine Ct.by_ hmix [] Try.func10 rfl ?_
    simp only [run0, run1, run2, run3, run4, run5, run6, run7, run8, run9, run10, run11, run12, run13, run14, run15, run16, run17, run18, run19, run20, run21, run22, reduceCtorEq, Nat.reduceEqDiff, Nat.reduceAdd, Nat.reduceSub, Nat.reduceLeDiff, indexAddrA, indexRefA, appendA, strA, Nat.reduceMul, Nat.zero_mul, Nat.reduceMod, Int.reduceEq, Int.reduceLT, Int.reduceLE, Nat.reduceLT, Nat.lt_irrefl, Nat.reduceBEq, tys0, tys1, tys2, tys3, tys4, tys5, tys6, tys7, tys8, tys9, tys10, tys11, tys12, tys13, tys14, tys15, tys16, tys17, Try.ntmps10, Try.results10, av]
    refine RunL.callp rfl rfl ok_f20 (szSurreal_ok a 1048576 hf (by omega) (by omega)) (by first | rfl | simp only [pureL, pureB, Bool.and_self, Bool.and_true, Bool.true_and, Su.elems_pure, Su.pay_pure, Su.av_pure]) rfl ?_
    have e1 : szR a.sz 1048576 < 0 := by omega
    simp only [run0, run1, run2, run3, run4, run5, run6, run7, run8, run9, run10, run11, run12, run13, run14, run15, run16, run17, run18, run19, run20, run21, run22, reduceCtorEq, Nat.reduceEqDiff, Nat.reduceAdd, Nat.reduceSub, Nat.reduceLeDiff, indexAddrA, indexRefA, appendA, strA, Nat.reduceMul, Nat.zero_mul, Nat.reduceMod, Int.reduceEq, Int.reduceLT, Int.reduceLE, Nat.reduceLT, Nat.lt_irrefl, Nat.reduceBEq, tys0, tys1, tys2, tys3, tys4, tys5, tys6, tys7, tys8, tys9, tys10, tys11, tys12, tys13, tys14, tys15, tys16, tys17, Try.ntmps10, Try.results10, e1]
    exact Fin.eq rfl rfl
  have ha : a.sz ≤ 1048576 := by omega
  have e1 : ¬ (szR a.sz 1048576 < 0) := by omega
  generalize hR : negR a = R
  generalize hO : goodT a = ok
  have hsp := specNeg_ok a ha
  obtain ⟨g, M1, hi, S1, ho1, hn1, hM1⟩ := implNeg_ok a ha
  rw [hR, hO] at hsp
  rw [hO] at hi
  rw [hR] at ho1
  have hRs : R.sz ≤ 1048576 := by rw [← hR]; exact negR_sz a ha
  obtain ⟨x, M0, hx, S0, ho0, hn0, hM0⟩ := toSurrealOwn_ok a ha
  -- the memory behind both
  generalize hM0' : M0.map (shO 2) = N0 at *
  generalize hM1' : M1.map (shO (N0.length + 1 + 1 + 1)) = N1 at *
  have ox : ∀ X, OwnR (.box 36 [.sl false (elems a)] :: .box 26 [.sl false (elems R)] :: (N0 ++ X)) 76 3 a (shA 2 x) (S0.map (· + 2)) := fun X =>
    (OwnR.sh (L' := .box 36 [.sl false (elems a)] :: .box 26 [.sl false (elems R)] :: N0) (fun id => by simp [← hM0']) ho0).more X
  generalize hx' : shA 2 x = X0 at *
  have n0 := nodup_add 2 hn0
  generalize hS0 : S0.map (· + 2) = T0 at *
  have og : ∀ X, OwnR (.box 36 [.sl false (elems a)] :: .box 26 [.sl false (elems R)] :: (N0 ++ .box 26 [X0] :: (N1 ++ X))) 76 3 R (shA (N0.length + 1 + 1 + 1) g) (S1.map (· + (N0.length + 1 + 1 + 1))) := fun X => by
    have := (OwnR.sh (L' := .box 36 [.sl false (elems a)] :: .box 26 [.sl false (elems R)] :: (N0 ++ .box 26 [X0] :: N1)) (fun id => by
      rw [show id + (N0.length + 1 + 1 + 1) = (N0.length + (id + 1)) + 2 by omega]
      simp only [List.getElem?_cons_succ]
      rw [getXn, List.getElem?_cons_succ, ← hM1', List.getElem?_map]) ho1).more X
    simp only [List.cons_append, List.append_assoc] at this
    exact this
  have n1 := nodup_add (N0.length + 1 + 1 + 1) hn1
  have oS : okS (.tup [.agg [g], .bool ok]) = true := okS_res ho1.form.1
  generalize hG : shA (N0.length + 1 + 1 + 1) g = G0 at *
  generalize hS1 : S1.map (· + (N0.length + 1 + 1 + 1)) = T1 at *
  have xlt : ∀ id ∈ T0, id < N0.length + 2 := fun id hid => by have := (ox []).lt id hid; simpa using this
  have glo : ∀ id ∈ T1, N0.length + 3 ≤ id := fun id hid => by
    rw [← hS1] at hid
    obtain ⟨q, _, rfl⟩ := List.mem_map.1 hid
    omega
  have nbox : ∀ {L : List AObj} {b : Su} {y : AV} {S : List Nat} {id : Nat} {T : TypeId} {cs : List AV}, OwnR L 76 3 b y S → L[id]? = some (.box T cs) → id ∉ S := fun h hb hid => by
    obtain ⟨_, _, h2, _⟩ := h.objs _ hid
    rw [hb] at h2; cases h2
  -- the marks of the argument
  obtain ⟨L1, hc1, hm1, hf1, hl1⟩ := markSurreal_ok a X0 T0 (.box 36 [.sl false (elems a)] :: .box 26 [.sl false (elems R)] :: (N0 ++ .box 26 [X0] :: (N1 ++ [.box 26 [G0]]))) 1 (ox _) n0 (by omega) (by omega)
  have keep1 : ∀ (id : Nat) o, (.box 36 [.sl false (elems a)] :: .box 26 [.sl false (elems R)] :: (N0 ++ .box 26 [X0] :: (N1 ++ [.box 26 [G0]])) : List AObj)[id]? = some o → id ∉ T0 → L1[id]? = some o := fun id o h hn => by
    rw [hf1 id hn (List.getElem?_eq_some_iff.1 h).1]; exact h
  have keepB1 : ∀ (id : Nat) T cs, (.box 36 [.sl false (elems a)] :: .box 26 [.sl false (elems R)] :: (N0 ++ .box 26 [X0] :: (N1 ++ [.box 26 [G0]])) : List AObj)[id]? = some (.box T cs) → L1[id]? = some (.box T cs) := fun id T cs h => keep1 id _ h (nbox (ox _) h)
  have q0 : L1[0]? = some (.box 36 [.sl false (elems a)]) := keepB1 0 _ _ rfl
  have q1 : L1[1]? = some (.box 26 [.sl false (elems R)]) := keepB1 1 _ _ rfl
  have q7 : L1[N0.length + (N1.length + 1) + 1 + 1]? = some (.box 26 [G0]) := keepB1 _ _ _ (by simp only [List.getElem?_cons_succ, getXn, getX0, List.getElem?_cons_zero])
  have og1 : OwnR L1 76 3 R G0 T1 := (og _).mono fun id hid g1 es1 h => keep1 id _ h (fun h2 => by have := xlt id h2; have := glo id hid; omega)
  -- the marks of the result
  obtain ⟨L2, hc2, og2, hf2, hl2⟩ := markSurreal_ok R G0 T1 L1 1 og1 n1 (by omega) (by omega)
  have keepB2 : ∀ {id : Nat} {T : TypeId} {cs : List AV}, L1[id]? = some (.box T cs) → L2[id]? = some (.box T cs) := fun h => by
    rw [hf2 _ (nbox og1 h) (List.getElem?_eq_some_iff.1 h).1]; exact h
  have p0 := keepB2 q0
  have p1 := keepB2 q1
  have p7 := keepB2 q7
  have r1 : ∀ X, (L2 ++ X)[1]? = some (.box 26 [.sl false (elems R)]) := fun X => by rw [List.getElem?_append_left (List.getElem?_eq_some_iff.1 p1).1]; exact p1
  have r7 : ∀ X, (L2 ++ X)[N0.length + (N1.length + 1) + 1 + 1]? = some (.box 26 [G0]) := fun X => by rw [List.getElem?_append_left (List.getElem?_eq_some_iff.1 p7).1]; exact p7
  have oh : ∀ X, OwnR (L2 ++ (M1.map (shO L2.length) ++ X)) 76 3 R (shA L2.length g) (S1.map (· + L2.length)) := fun X => by
    rw [← List.append_assoc]; exact (OwnR.sh (more_get L2 M1) ho1).more X
  have e3 : ¬ (1 + 2 * (a.sz : Int) < 0) := by omega
  have e4 : ¬ (1 + 2 * (R.sz : Int) < 0) := by omega
  refine Ct.by_ hmix [17, 2000000 + 36] Try.func10 rfl ?_
  simp only [run0, run1, run2, run3, run4, run5, run6, run7, run8, run9, run10, run11, run12, run13, run14, run15, run16, run17, run18, run19, run20, run21, run22, reduceCtorEq, Nat.reduceEqDiff, Nat.reduceAdd, Nat.reduceSub, Nat.reduceLeDiff, indexAddrA, indexRefA, appendA, strA, Nat.reduceMul, Nat.zero_mul, Nat.reduceMod, Int.reduceEq, Int.reduceLT, Int.reduceLE, Nat.reduceLT, Nat.lt_irrefl, Nat.reduceBEq, tys0, tys1, tys2, tys3, tys4, tys5, tys6, tys7, tys8, tys9, tys10, tys11, tys12, tys13, tys14, tys15, tys16, tys17, Try.ntmps10, Try.results10, av]
  refine RunL.callp rfl rfl ok_f20 (szSurreal_ok a 1048576 hf (by omega) (by omega)) (by first | rfl | simp only [pureL, pureB, Bool.and_self, Bool.and_true, Bool.true_and, Su.elems_pure, Su.pay_pure, Su.av_pure]) rfl ?_
  simp only [run0, run1, run2, run3, run4, run5, run6, run7, run8, run9, run10, run11, run12, run13, run14, run15, run16, run17, run18, run19, run20, run21, run22, reduceCtorEq, Nat.reduceEqDiff, Nat.reduceAdd, Nat.reduceSub, Nat.reduceLeDiff, indexAddrA, indexRefA, appendA, strA, Nat.reduceMul, Nat.zero_mul, Nat.reduceMod, Int.reduceEq, Int.reduceLT, Int.reduceLE, Nat.reduceLT, Nat.lt_irrefl, Nat.reduceBEq, tys0, tys1, tys2, tys3, tys4, tys5, tys6, tys7, tys8, tys9, tys10, tys11, tys12, tys13, tys14, tys15, tys16, tys17, Try.ntmps10, Try.results10, e1]
  refine RunL.callp rfl rfl ok_f22 (toSurreal_ok a ha) (by first | rfl | simp only [pureL, pureB, Bool.and_self, Bool.and_true, Bool.true_and, Su.elems_pure, Su.pay_pure, Su.av_pure]) rfl ?_
  simp only [run0, run1, run2, run3, run4, run5, run6, run7, run8, run9, run10, run11, run12, run13, run14, run15, run16, run17, run18, run19, run20, run21, run22, reduceCtorEq, Nat.reduceEqDiff, Nat.reduceAdd, Nat.reduceSub, Nat.reduceLeDiff, indexAddrA, indexRefA, appendA, strA, Nat.reduceMul, Nat.zero_mul, Nat.reduceMod, Int.reduceEq, Int.reduceLT, Int.reduceLE, Nat.reduceLT, Nat.lt_irrefl, Nat.reduceBEq, tys0, tys1, tys2, tys3, tys4, tys5, tys6, tys7, tys8, tys9, tys10, tys11, tys12, tys13, tys14, tys15, tys16, tys17, Try.ntmps10, Try.results10, av]
  refine RunL.callp rfl rfl ok_f35 (hsp) (by first | rfl | simp only [pureL, pureB, Bool.and_self, Bool.and_true, Bool.true_and, Su.elems_pure, Su.pay_pure, Su.av_pure]) rfl ?_
  simp only [run0, run1, run2, run3, run4, run5, run6, run7, run8, run9, run10, run11, run12, run13, run14, run15, run16, run17, run18, run19, run20, run21, run22, reduceCtorEq, Nat.reduceEqDiff, Nat.reduceAdd, Nat.reduceSub, Nat.reduceLeDiff, indexAddrA, indexRefA, appendA, strA, Nat.reduceMul, Nat.zero_mul, Nat.reduceMod, Int.reduceEq, Int.reduceLT, Int.reduceLE, Nat.reduceLT, Nat.lt_irrefl, Nat.reduceBEq, tys0, tys1, tys2, tys3, tys4, tys5, tys6, tys7, tys8, tys9, tys10, tys11, tys12, tys13, tys14, tys15, tys16, tys17, Try.ntmps10, Try.results10, av]
  refine RunL.callgp rfl rfl ok_f22 rfl hx (by simp only [pureL, pureB, av_pure, Bool.and_self]) rfl ?_
  simp only [run0, run1, run2, run3, run4, run5, run6, run7, run8, run9, run10, run11, run12, run13, run14, run15, run16, run17, run18, run19, run20, run21, run22, reduceCtorEq, Nat.reduceEqDiff, Nat.reduceAdd, Nat.reduceSub, Nat.reduceLeDiff, indexAddrA, indexRefA, appendA, strA, Nat.reduceMul, Nat.zero_mul, Nat.reduceMod, Int.reduceEq, Int.reduceLT, Int.reduceLE, Nat.reduceLT, Nat.lt_irrefl, Nat.reduceBEq, tys0, tys1, tys2, tys3, tys4, tys5, tys6, tys7, tys8, tys9, tys10, tys11, tys12, tys13, tys14, tys15, tys16, tys17, Try.ntmps10, Try.results10, shA, shL, hx', hM0']
  refine RunL.lendGV rfl rfl ok_f36 rfl hi (.cons (vw1 (ox _)) .nil) oS hM1 rfl ?_
  simp only [run0, run1, run2, run3, run4, run5, run6, run7, run8, run9, run10, run11, run12, run13, run14, run15, run16, run17, run18, run19, run20, run21, run22, reduceCtorEq, Nat.reduceEqDiff, Nat.reduceAdd, Nat.reduceSub, Nat.reduceLeDiff, indexAddrA, indexRefA, appendA, strA, Nat.reduceMul, Nat.zero_mul, Nat.reduceMod, Int.reduceEq, Int.reduceLT, Int.reduceLE, Nat.reduceLT, Nat.lt_irrefl, Nat.reduceBEq, tys0, tys1, tys2, tys3, tys4, tys5, tys6, tys7, tys8, tys9, tys10, tys11, tys12, tys13, tys14, tys15, tys16, tys17, Try.ntmps10, Try.results10, shA, shL, hM1', hG, setXn]
  refine RunL.lendV rfl rfl ok_f17 rfl (eqSurreal_ok R R hRs) (vwl2 (og _)) rfl rfl ?_
  simp only [run0, run1, run2, run3, run4, run5, run6, run7, run8, run9, run10, run11, run12, run13, run14, run15, run16, run17, run18, run19, run20, run21, run22, reduceCtorEq, Nat.reduceEqDiff, Nat.reduceAdd, Nat.reduceSub, Nat.reduceLeDiff, indexAddrA, indexRefA, appendA, strA, Nat.reduceMul, Nat.zero_mul, Nat.reduceMod, Int.reduceEq, Int.reduceLT, Int.reduceLE, Nat.reduceLT, Nat.lt_irrefl, Nat.reduceBEq, tys0, tys1, tys2, tys3, tys4, tys5, tys6, tys7, tys8, tys9, tys10, tys11, tys12, tys13, tys14, tys15, tys16, tys17, Try.ntmps10, Try.results10, eqT_refl, bne_self_eq_false]
  refine ⟨by kernel_rfl, ?_⟩
  refine RunL.callp rfl rfl ok_f22 (toSurreal_ok a ha) (by first | rfl | simp only [pureL, pureB, Bool.and_self, Bool.and_true, Bool.true_and, Su.elems_pure, Su.pay_pure, Su.av_pure]) rfl ?_
  simp only [run0, run1, run2, run3, run4, run5, run6, run7, run8, run9, run10, run11, run12, run13, run14, run15, run16, run17, run18, run19, run20, run21, run22, reduceCtorEq, Nat.reduceEqDiff, Nat.reduceAdd, Nat.reduceSub, Nat.reduceLeDiff, indexAddrA, indexRefA, appendA, strA, Nat.reduceMul, Nat.zero_mul, Nat.reduceMod, Int.reduceEq, Int.reduceLT, Int.reduceLE, Nat.reduceLT, Nat.lt_irrefl, Nat.reduceBEq, tys0, tys1, tys2, tys3, tys4, tys5, tys6, tys7, tys8, tys9, tys10, tys11, tys12, tys13, tys14, tys15, tys16, tys17, Try.ntmps10, Try.results10, av]
  refine RunL.lendV rfl rfl ok_f17 rfl (eqSurreal_ok a a ha) (vwl2 (ox _)) rfl rfl ?_
  simp only [run0, run1, run2, run3, run4, run5, run6, run7, run8, run9, run10, run11, run12, run13, run14, run15, run16, run17, run18, run19, run20, run21, run22, reduceCtorEq, Nat.reduceEqDiff, Nat.reduceAdd, Nat.reduceSub, Nat.reduceLeDiff, indexAddrA, indexRefA, appendA, strA, Nat.reduceMul, Nat.zero_mul, Nat.reduceMod, Int.reduceEq, Int.reduceLT, Int.reduceLE, Nat.reduceLT, Nat.lt_irrefl, Nat.reduceBEq, tys0, tys1, tys2, tys3, tys4, tys5, tys6, tys7, tys8, tys9, tys10, tys11, tys12, tys13, tys14, tys15, tys16, tys17, Try.ntmps10, Try.results10, eqT_refl]
  refine RunL.callM rfl rfl ok_f18 rfl rfl hc1 rfl ?_
  simp only [run0, run1, run2, run3, run4, run5, run6, run7, run8, run9, run10, run11, run12, run13, run14, run15, run16, run17, run18, run19, run20, run21, run22, reduceCtorEq, Nat.reduceEqDiff, Nat.reduceAdd, Nat.reduceSub, Nat.reduceLeDiff, indexAddrA, indexRefA, appendA, strA, Nat.reduceMul, Nat.zero_mul, Nat.reduceMod, Int.reduceEq, Int.reduceLT, Int.reduceLE, Nat.reduceLT, Nat.lt_irrefl, Nat.reduceBEq, tys0, tys1, tys2, tys3, tys4, tys5, tys6, tys7, tys8, tys9, tys10, tys11, tys12, tys13, tys14, tys15, tys16, tys17, Try.ntmps10, Try.results10, e3, q0, q1, q7]
  refine RunL.lendV rfl rfl ok_f17 rfl (eqSurreal_ok R R hRs) (vwl2 og1) rfl rfl ?_
  simp only [run0, run1, run2, run3, run4, run5, run6, run7, run8, run9, run10, run11, run12, run13, run14, run15, run16, run17, run18, run19, run20, run21, run22, reduceCtorEq, Nat.reduceEqDiff, Nat.reduceAdd, Nat.reduceSub, Nat.reduceLeDiff, indexAddrA, indexRefA, appendA, strA, Nat.reduceMul, Nat.zero_mul, Nat.reduceMod, Int.reduceEq, Int.reduceLT, Int.reduceLE, Nat.reduceLT, Nat.lt_irrefl, Nat.reduceBEq, tys0, tys1, tys2, tys3, tys4, tys5, tys6, tys7, tys8, tys9, tys10, tys11, tys12, tys13, tys14, tys15, tys16, tys17, Try.ntmps10, Try.results10, eqT_refl, bne_self_eq_false, q0, q1, q7]
  refine RunL.callM rfl rfl ok_f18 rfl rfl hc2 rfl ?_
  simp only [run0, run1, run2, run3, run4, run5, run6, run7, run8, run9, run10, run11, run12, run13, run14, run15, run16, run17, run18, run19, run20, run21, run22, reduceCtorEq, Nat.reduceEqDiff, Nat.reduceAdd, Nat.reduceSub, Nat.reduceLeDiff, indexAddrA, indexRefA, appendA, strA, Nat.reduceMul, Nat.zero_mul, Nat.reduceMod, Int.reduceEq, Int.reduceLT, Int.reduceLE, Nat.reduceLT, Nat.lt_irrefl, Nat.reduceBEq, tys0, tys1, tys2, tys3, tys4, tys5, tys6, tys7, tys8, tys9, tys10, tys11, tys12, tys13, tys14, tys15, tys16, tys17, Try.ntmps10, Try.results10, p0, p1, p7]
  refine RunL.lendV rfl rfl ok_f19 rfl (heldSurreal_ok R 1 (by omega) (by omega)) (vwl3 og2) rfl rfl ?_
  simp only [run0, run1, run2, run3, run4, run5, run6, run7, run8, run9, run10, run11, run12, run13, run14, run15, run16, run17, run18, run19, run20, run21, run22, reduceCtorEq, Nat.reduceEqDiff, Nat.reduceAdd, Nat.reduceSub, Nat.reduceLeDiff, indexAddrA, indexRefA, appendA, strA, Nat.reduceMul, Nat.zero_mul, Nat.reduceMod, Int.reduceEq, Int.reduceLT, Int.reduceLE, Nat.reduceLT, Nat.lt_irrefl, Nat.reduceBEq, tys0, tys1, tys2, tys3, tys4, tys5, tys6, tys7, tys8, tys9, tys10, tys11, tys12, tys13, tys14, tys15, tys16, tys17, Try.ntmps10, Try.results10, e4, p0, p1, p7, bne_self_eq_false]
  refine RunL.callp rfl rfl ok_f22 (toSurreal_ok a ha) (by first | rfl | simp only [pureL, pureB, Bool.and_self, Bool.and_true, Bool.true_and, Su.elems_pure, Su.pay_pure, Su.av_pure]) rfl ?_
  simp only [run0, run1, run2, run3, run4, run5, run6, run7, run8, run9, run10, run11, run12, run13, run14, run15, run16, run17, run18, run19, run20, run21, run22, reduceCtorEq, Nat.reduceEqDiff, Nat.reduceAdd, Nat.reduceSub, Nat.reduceLeDiff, indexAddrA, indexRefA, appendA, strA, Nat.reduceMul, Nat.zero_mul, Nat.reduceMod, Int.reduceEq, Int.reduceLT, Int.reduceLE, Nat.reduceLT, Nat.lt_irrefl, Nat.reduceBEq, tys0, tys1, tys2, tys3, tys4, tys5, tys6, tys7, tys8, tys9, tys10, tys11, tys12, tys13, tys14, tys15, tys16, tys17, Try.ntmps10, Try.results10]
  refine RunL.callgp rfl rfl ok_f36 rfl hi (by simp only [pureL, pureB, av_pure, Bool.and_self]) rfl ?_
  generalize hM2' : M1.map (shO L2.length) = N2 at *
  simp only [run0, run1, run2, run3, run4, run5, run6, run7, run8, run9, run10, run11, run12, run13, run14, run15, run16, run17, run18, run19, run20, run21, run22, reduceCtorEq, Nat.reduceEqDiff, Nat.reduceAdd, Nat.reduceSub, Nat.reduceLeDiff, indexAddrA, indexRefA, appendA, strA, Nat.reduceMul, Nat.zero_mul, Nat.reduceMod, Int.reduceEq, Int.reduceLT, Int.reduceLE, Nat.reduceLT, Nat.lt_irrefl, Nat.reduceBEq, tys0, tys1, tys2, tys3, tys4, tys5, tys6, tys7, tys8, tys9, tys10, tys11, tys12, tys13, tys14, tys15, tys16, tys17, Try.ntmps10, Try.results10, shA, shL, hM2', r1, r7, setXn]
  refine RunL.lendV rfl rfl ok_f17 rfl (eqSurreal_ok R R hRs) (vwl2 (oh _)) rfl rfl ?_
  simp only [run0, run1, run2, run3, run4, run5, run6, run7, run8, run9, run10, run11, run12, run13, run14, run15, run16, run17, run18, run19, run20, run21, run22, reduceCtorEq, Nat.reduceEqDiff, Nat.reduceAdd, Nat.reduceSub, Nat.reduceLeDiff, indexAddrA, indexRefA, appendA, strA, Nat.reduceMul, Nat.zero_mul, Nat.reduceMod, Int.reduceEq, Int.reduceLT, Int.reduceLE, Nat.reduceLT, Nat.lt_irrefl, Nat.reduceBEq, tys0, tys1, tys2, tys3, tys4, tys5, tys6, tys7, tys8, tys9, tys10, tys11, tys12, tys13, tys14, tys15, tys16, tys17, Try.ntmps10, Try.results10, eqT_refl, bne_self_eq_false, r1, r7]
  refine RunL.lendV rfl rfl ok_f19 rfl (heldSurreal_ok R 1 (by omega) (by omega)) (vwl3 (og2.more _)) rfl rfl ?_
  simp only [run0, run1, run2, run3, run4, run5, run6, run7, run8, run9, run10, run11, run12, run13, run14, run15, run16, run17, run18, run19, run20, run21, run22, reduceCtorEq, Nat.reduceEqDiff, Nat.reduceAdd, Nat.reduceSub, Nat.reduceLeDiff, indexAddrA, indexRefA, appendA, strA, Nat.reduceMul, Nat.zero_mul, Nat.reduceMod, Int.reduceEq, Int.reduceLT, Int.reduceLE, Nat.reduceLT, Nat.lt_irrefl, Nat.reduceBEq, tys0, tys1, tys2, tys3, tys4, tys5, tys6, tys7, tys8, tys9, tys10, tys11, tys12, tys13, tys14, tys15, tys16, tys17, Try.ntmps10, Try.results10, e4, bne_self_eq_false]
  exact Fin.eq rfl rfl


end Go.Proofs.Ytfblibmibaiagaa
