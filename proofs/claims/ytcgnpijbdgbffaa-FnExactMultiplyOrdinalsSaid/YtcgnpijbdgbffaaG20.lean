/-
  Ordinals: sums: the walks.
-/
import Derived.Test.YtcgnpijbdgbffaaG19
import Derived.Test.YtcgnpijbdgbffaaO4
namespace Go.Proofs.Ytcgnpijbdgbffaa
open Go K Od
set_option linter.unusedSimpArgs false
set_option linter.unusedVariables false
set_option maxHeartbeats 1600000

structure PlS where
  d : Od
  r : Od
  o : Od
  X : List AObj

theorem bnd_len {m : Int} {x q : Od} {k : Int} (h : bnd m (.cons x k q)) : rng x ∧ x.sz ≤ 1048576 ∧ -m ≤ k ∧ k ≤ m := ⟨h.1, h.2.1, h.2.2.1, h.2.2.2.1⟩

theorem plus_ok (a b : Od) (ha : a.sz ≤ 1048576) (hb : b.sz ≤ 1048576) {m : Int} (hm : m ≤ 2305843009213693952) (ba : bnd m a) (bb : bnd m b) : Ct Try.prog 69 [av a, av b] [] (av (plusT a b)) [] := by
  cases b with
  | nil =>
    refine Ct.by_ hmix [] Try.func69 rfl ?_
    simp only [run0, run1, run2, run3, run4, run5, run6, run7, run8, run9, run10, run11, run12, run13, run14, run15, run16, run17, run18, run19, run20, run21, run22, reduceCtorEq, Nat.reduceEqDiff, Nat.reduceAdd, Nat.reduceSub, Nat.reduceLeDiff, indexAddrA, indexRefA, appendA, strA, Nat.reduceMul, Nat.zero_mul, Nat.reduceMod, Int.reduceEq, Int.reduceLT, Int.reduceLE, Nat.reduceLT, Nat.lt_irrefl, Nat.reduceBEq, tys0, tys1, tys2, tys3, tys4, tys5, tys6, tys7, tys8, tys9, tys10, Try.ntmps69, Try.results69, av]
    refine RunL.callp rfl rfl ok_f57 (isZero_ok .nil) (by first | rfl | simp only [pureL, pureB, Bool.and_self, Bool.and_true, Bool.true_and, Od.elems_pure, Od.pay_pure, Od.av_pure]) rfl ?_
    simp only [run0, run1, run2, run3, run4, run5, run6, run7, run8, run9, run10, run11, run12, run13, run14, run15, run16, run17, run18, run19, run20, run21, run22, reduceCtorEq, Nat.reduceEqDiff, Nat.reduceAdd, Nat.reduceSub, Nat.reduceLeDiff, indexAddrA, indexRefA, appendA, strA, Nat.reduceMul, Nat.zero_mul, Nat.reduceMod, Int.reduceEq, Int.reduceLT, Int.reduceLE, Nat.reduceLT, Nat.lt_irrefl, Nat.reduceBEq, tys0, tys1, tys2, tys3, tys4, tys5, tys6, tys7, tys8, tys9, tys10, Try.ntmps69, Try.results69, isZ]
    exact Fin.eq rfl (by simp only [pureB, pureL, elems_pure, Bool.and_self])
  | cons e c rb =>
    have hla := len_le a
    have hlb := len_le (.cons e c rb)
    have hel : elems (.cons e c rb) = .agg [.sl false (elems e), .int .i64 c] :: elems rb := rfl
    generalize hbe : (Od.cons e c rb) = b at *
    refine Ct.by_ hmix [ 8000000] Try.func69 rfl ?_
    simp only [run0, run1, run2, run3, run4, run5, run6, run7, run8, run9, run10, run11, run12, run13, run14, run15, run16, run17, run18, run19, run20, run21, run22, reduceCtorEq, Nat.reduceEqDiff, Nat.reduceAdd, Nat.reduceSub, Nat.reduceLeDiff, indexAddrA, indexRefA, appendA, strA, Nat.reduceMul, Nat.zero_mul, Nat.reduceMod, Int.reduceEq, Int.reduceLT, Int.reduceLE, Nat.reduceLT, Nat.lt_irrefl, Nat.reduceBEq, tys0, tys1, tys2, tys3, tys4, tys5, tys6, tys7, tys8, tys9, tys10, Try.ntmps69, Try.results69, av]
    refine RunL.callp rfl rfl ok_f57 (isZero_ok b) (by first | rfl | simp only [pureL, pureB, Bool.and_self, Bool.and_true, Bool.true_and, Od.elems_pure, Od.pay_pure, Od.av_pure]) rfl ?_
    have hz : isZ b = false := by rw [← hbe]; rfl
    simp only [run0, run1, run2, run3, run4, run5, run6, run7, run8, run9, run10, run11, run12, run13, run14, run15, run16, run17, run18, run19, run20, run21, run22, reduceCtorEq, Nat.reduceEqDiff, Nat.reduceAdd, Nat.reduceSub, Nat.reduceLeDiff, indexAddrA, indexRefA, appendA, strA, Nat.reduceMul, Nat.zero_mul, Nat.reduceMod, Int.reduceEq, Int.reduceLT, Int.reduceLE, Nat.reduceLT, Nat.lt_irrefl, Nat.reduceBEq, tys0, tys1, tys2, tys3, tys4, tys5, tys6, tys7, tys8, tys9, tys10, Try.ntmps69, Try.results69, hz, elems_length]
    refine AWp.nilB 3 0 53 2 rfl rfl ?_
    simp only [run0, run1, run2, run3, run4, run5, run6, run7, run8, run9, run10, run11, run12, run13, run14, run15, run16, run17, run18, run19, run20, run21, run22, reduceCtorEq, Nat.reduceEqDiff, Nat.reduceAdd, Nat.reduceSub, Nat.reduceLeDiff, indexAddrA, indexRefA, appendA, strA, Nat.reduceMul, Nat.zero_mul, Nat.reduceMod, Int.reduceEq, Int.reduceLT, Int.reduceLE, Nat.reduceLT, Nat.lt_irrefl, Nat.reduceBEq, tys0, tys1, tys2, tys3, tys4, tys5, tys6, tys7, tys8, tys9, tys10, Try.ntmps69, Try.results69]
    refine AWp.loop_inv (ι := PlS) (fun p => ⟨[.agg [.sl false (elems a)], .agg [.sl false (elems b)], .ptr 0 0, .ptr 1 0, .ptr 2 0, .ptr 3 0, .junk, .junk, .junk, .junk, .junk, .junk, .junk, .sl false (elems a), .int .i64 a.len, .int .i64 p.d.len, .junk, .junk, .junk, .junk, .junk, .junk, .junk, .junk, .junk, .junk, .junk, .junk, .junk, .junk, .junk, .junk, .junk, .junk, .junk, .junk, .junk, .junk, .junk, .junk, .junk, .junk, .junk, .junk, .junk, .junk, .junk, .junk, .junk, .junk, .junk, .junk, .junk, .junk, .junk, .junk, .junk, .junk, .junk, .junk, .junk, .junk, .junk, .junk, .junk, .junk, .junk, .junk, .junk],
        .box 29 [.sl false (elems a)] :: .box 29 [.sl false (elems b)] :: .box 29 [nilV] :: .box 29 [.ref 4 [] p.o.len p.o.len] :: .vec 53 2 p.o.len (elems p.o) :: p.X⟩)
      (fun p => a = p.d.app p.r ∧ p.o.app (plusA e c rb p.r) = plusT a b ∧ p.o.len ≤ p.d.len) (fun p => p.r.len) ⟨.nil, a, .nil, []⟩ ⟨rfl, by rw [← hbe]; rfl, Nat.le_refl _⟩ ⟨by simp only [len, Int.natCast_zero]; repeat constructor, rfl⟩ ?_
    rintro ⟨d, r, o, X⟩ ⟨h1, h2, h3⟩
    simp only at h1 h2 h3
    refine W.sound hmix (E := [8000000]) ?_
    cases r with
    | nil =>
      obtain ⟨e1, rfl⟩ := od_end h1
      have w1 : o.len + b.len ≤ 137438953472 := by omega
      simp only [run0, run1, run2, run3, run4, run5, run6, run7, run8, run9, run10, run11, run12, run13, run14, run15, run16, run17, run18, run19, run20, run21, run22, reduceCtorEq, Nat.reduceEqDiff, Nat.reduceAdd, Nat.reduceSub, Nat.reduceLeDiff, indexAddrA, indexRefA, appendA, strA, Nat.reduceMul, Nat.zero_mul, Nat.reduceMod, Int.reduceEq, Int.reduceLT, Int.reduceLE, Nat.reduceLT, Nat.lt_irrefl, Nat.reduceBEq, tys0, tys1, tys2, tys3, tys4, tys5, tys6, tys7, tys8, tys9, tys10, Try.ntmps69, Try.results69, elems_length, e1, w1, elems_all, elems_noOwn]
      have h4 : plusT a b = o.app b := by rw [← h2, ← hbe]; rfl
      rw [h4]
      exact Fin.value (Vw.agg (.cons (Vw_elems (a := o.app b) (T := 53) rfl (elems_app o b).symm (len_app o b).symm) .nil))
    | cons x k q =>
      obtain ⟨e1, e2, e5, hlt, hn, _⟩ := od_step h1 ha
      rw [h1] at ba
      have bx := bnd_len (bnd_app.1 ba).2
      have f0 : (elems b)[0]? = some (.agg [.sl false (elems e), .int .i64 c]) := by rw [hel]; rfl
      have hda : d.len + (q.len + 1) = a.len := by rw [h1, len_app]; rfl
      have f3 : o.len ≤ 137438953471 := by omega
      have f1 : (0 : Int) < (b.len : Int) := by rw [← hbe]; simp only [len]; omega
      simp only [run0, run1, run2, run3, run4, run5, run6, run7, run8, run9, run10, run11, run12, run13, run14, run15, run16, run17, run18, run19, run20, run21, run22, reduceCtorEq, Nat.reduceEqDiff, Nat.reduceAdd, Nat.reduceSub, Nat.reduceLeDiff, indexAddrA, indexRefA, appendA, strA, Nat.reduceMul, Nat.zero_mul, Nat.reduceMod, Int.reduceEq, Int.reduceLT, Int.reduceLE, Nat.reduceLT, Nat.lt_irrefl, Nat.reduceBEq, tys0, tys1, tys2, tys3, tys4, tys5, tys6, tys7, tys8, tys9, tys10, Try.ntmps69, Try.results69, elems_length, e1, e2, Int.toNat_natCast, Int.natCast_nonneg]
      refine ⟨[0,1,2,3,4,5,6,7], by kernel_rfl, ?_⟩
      simp only [run0, run1, run2, run3, run4, run5, run6, run7, run8, run9, run10, run11, run12, run13, run14, run15, run16, run17, run18, run19, run20, run21, run22, reduceCtorEq, Nat.reduceEqDiff, Nat.reduceAdd, Nat.reduceSub, Nat.reduceLeDiff, indexAddrA, indexRefA, appendA, strA, Nat.reduceMul, Nat.zero_mul, Nat.reduceMod, Int.reduceEq, Int.reduceLT, Int.reduceLE, Nat.reduceLT, Nat.lt_irrefl, Nat.reduceBEq, tys0, tys1, tys2, tys3, tys4, tys5, tys6, tys7, tys8, tys9, tys10, Try.ntmps69, Try.results69, elems_length, f0, f1, Int.le_refl, Int.reduceToNat]
      refine RunL.callp rfl rfl ok_f51 (cmp_ok x e (by omega) (by have := bnd_len (hbe ▸ bb); omega)) (by first | rfl | simp only [pureL, pureB, Bool.and_self, Bool.and_true, Bool.true_and, Od.elems_pure, Od.pay_pure, Od.av_pure]) rfl ?_
      simp only [run0, run1, run2, run3, run4, run5, run6, run7, run8, run9, run10, run11, run12, run13, run14, run15, run16, run17, run18, run19, run20, run21, run22, reduceCtorEq, Nat.reduceEqDiff, Nat.reduceAdd, Nat.reduceSub, Nat.reduceLeDiff, indexAddrA, indexRefA, appendA, strA, Nat.reduceMul, Nat.zero_mul, Nat.reduceMod, Int.reduceEq, Int.reduceLT, Int.reduceLE, Nat.reduceLT, Nat.lt_irrefl, Nat.reduceBEq, tys0, tys1, tys2, tys3, tys4, tys5, tys6, tys7, tys8, tys9, tys10, Try.ntmps69, Try.results69]
      rcases cmpT_range x e with hc | hc | hc
      · have w1 : (cmpT x e == 1) = false := by rw [hc]; rfl
        have w2 : (cmpT x e == 0) = false := by rw [hc]; rfl
        simp only [run0, run1, run2, run3, run4, run5, run6, run7, run8, run9, run10, run11, run12, run13, run14, run15, run16, run17, run18, run19, run20, run21, run22, reduceCtorEq, Nat.reduceEqDiff, Nat.reduceAdd, Nat.reduceSub, Nat.reduceLeDiff, indexAddrA, indexRefA, appendA, strA, Nat.reduceMul, Nat.zero_mul, Nat.reduceMod, Int.reduceEq, Int.reduceLT, Int.reduceLE, Nat.reduceLT, Nat.lt_irrefl, Nat.reduceBEq, tys0, tys1, tys2, tys3, tys4, tys5, tys6, tys7, tys8, tys9, tys10, Try.ntmps69, Try.results69, w1, w2, e5]
        refine ⟨⟨d.app (cons x k nil), q, o, _⟩, ⟨hn.symm, ?_, by rw [len_app]; simp only [len]; omega⟩, by simp [len], by repeat constructor, rfl⟩
        rw [← h2]
        simp only [plusA]
        rw [if_neg (by omega), if_neg (by omega)]
      · have w1 : (cmpT x e == 1) = false := by rw [hc]; rfl
        have w2 : (cmpT x e == 0) = true := by rw [hc]; rfl
        have w3 : IntKind.i64.wrap (k + c) = k + c := w64_id (by have := bx.2.2.1; have := (bnd_len (hbe ▸ bb)).2.2.1; omega) (by have := bx.2.2.2; have := (bnd_len (hbe ▸ bb)).2.2.2; omega)
        have w4 : b.len = rb.len + 1 := by rw [← hbe]; rfl
        have w5 : List.drop 1 (elems b) = elems rb := by rw [hel]; rfl
        have w6 : (1 : Int) ≤ (b.len : Int) := by omega
        have w7 : o.len + 1 + rb.len ≤ 137438953472 := by omega
        simp only [run0, run1, run2, run3, run4, run5, run6, run7, run8, run9, run10, run11, run12, run13, run14, run15, run16, run17, run18, run19, run20, run21, run22, reduceCtorEq, Nat.reduceEqDiff, Nat.reduceAdd, Nat.reduceSub, Nat.reduceLeDiff, indexAddrA, indexRefA, appendA, strA, Nat.reduceMul, Nat.zero_mul, Nat.reduceMod, Int.reduceEq, Int.reduceLT, Int.reduceLE, Nat.reduceLT, Nat.lt_irrefl, Nat.reduceBEq, tys0, tys1, tys2, tys3, tys4, tys5, tys6, tys7, tys8, tys9, tys10, Try.ntmps69, Try.results69, w1, w2]
        refine ⟨[0,1,2,3,4,5,6,7,8,9,10,11,12,13,14,15,16], by kernel_rfl, ?_⟩
        simp only [run0, run1, run2, run3, run4, run5, run6, run7, run8, run9, run10, run11, run12, run13, run14, run15, run16, run17, run18, run19, run20, run21, run22, reduceCtorEq, Nat.reduceEqDiff, Nat.reduceAdd, Nat.reduceSub, Nat.reduceLeDiff, indexAddrA, indexRefA, appendA, strA, Nat.reduceMul, Nat.zero_mul, Nat.reduceMod, Int.reduceEq, Int.reduceLT, Int.reduceLE, Nat.reduceLT, Nat.lt_irrefl, Nat.reduceBEq, tys0, tys1, tys2, tys3, tys4, tys5, tys6, tys7, tys8, tys9, tys10, Try.ntmps69, Try.results69, f0, f1, f3, w3, elems_length, elems_noOwn, Int.le_refl, Int.reduceToNat]
        refine ⟨[0,1,2,3,4,5,6,7], by kernel_rfl, ?_⟩
        have w8 : noOwn (elems o ++ [.agg [.sl false (elems x), .int .i64 (k + c)]]) = true := by
          have := elems_noOwn (o.app (cons x (k + c) nil)); rw [elems_app] at this; exact this
        have w9 : b.len - 1 = rb.len := by omega
        simp only [run0, run1, run2, run3, run4, run5, run6, run7, run8, run9, run10, run11, run12, run13, run14, run15, run16, run17, run18, run19, run20, run21, run22, reduceCtorEq, Nat.reduceEqDiff, Nat.reduceAdd, Nat.reduceSub, Nat.reduceLeDiff, indexAddrA, indexRefA, appendA, strA, Nat.reduceMul, Nat.zero_mul, Nat.reduceMod, Int.reduceEq, Int.reduceLT, Int.reduceLE, Nat.reduceLT, Nat.lt_irrefl, Nat.reduceBEq, tys0, tys1, tys2, tys3, tys4, tys5, tys6, tys7, tys8, tys9, tys10, Try.ntmps69, Try.results69, w5, w6, w7, w8, w9, take_all, elems_length, elems_noOwn, elems_all, elems_cells_t, Int.le_refl, Int.reduceToNat, Int.toNat_natCast, Nat.min_self]
        have h4 : plusT a b = o.app (cons x (k + c) rb) := by rw [← h2]; simp only [plusA]; rw [if_neg (by omega), if_pos hc]
        rw [h4]
        exact Fin.value (Vw.agg (.cons (Vw_elems (a := o.app (cons x (k + c) rb)) (T := 53) rfl (by rw [elems_app]; rfl) (by rw [len_app]; simp only [len]; omega)) .nil))
      · have w1 : (cmpT x e == 1) = true := by rw [hc]; rfl
        simp only [run0, run1, run2, run3, run4, run5, run6, run7, run8, run9, run10, run11, run12, run13, run14, run15, run16, run17, run18, run19, run20, run21, run22, reduceCtorEq, Nat.reduceEqDiff, Nat.reduceAdd, Nat.reduceSub, Nat.reduceLeDiff, indexAddrA, indexRefA, appendA, strA, Nat.reduceMul, Nat.zero_mul, Nat.reduceMod, Int.reduceEq, Int.reduceLT, Int.reduceLE, Nat.reduceLT, Nat.lt_irrefl, Nat.reduceBEq, tys0, tys1, tys2, tys3, tys4, tys5, tys6, tys7, tys8, tys9, tys10, Try.ntmps69, Try.results69, w1, elems_length, f3, elems_noOwn, e5]
        refine ⟨⟨d.app (cons x k nil), q, o.app (cons x k nil), X ++ [.box 53 [.sl false (elems x), .int .i64 k]]⟩, ⟨hn.symm, ?_, by simp only [len_app, len]; omega⟩, by simp [len], by simp only [len_app, elems_app, elems, pay, len]; repeat constructor, by simp only [len_app, elems_app, elems, pay, len]⟩
        rw [← h2, app_assoc]
        simp only [plusA]
        rw [if_pos (by omega)]; rfl

end Go.Proofs.Ytcgnpijbdgbffaa
