/-
  Ordinals: sums, for coefficients in wider bounds.
-/
import Derived.Test.YtcgnpijbdgbffaaG26
import Derived.Test.YtcgnpijbdgbffaaG21
namespace Go.Proofs.Ytcgnpijbdgbffaa
open Go K Od
set_option linter.unusedSimpArgs false
set_option linter.unusedVariables false
set_option maxHeartbeats 1600000
set_option maxRecDepth 8000

structure PlSW where
  d : Od
  r : Od
  o : Od
  X : List AObj

theorem plusW_ok (a b : Od) (ha : a.sz ≤ 1048576) (hb : b.sz ≤ 1048576) {m : Int} (hm : m ≤ 2305843009213693952) (ba : bndW m a) (bb : bndW m b) : Ct Try.prog 69 [av a, av b] [] (av (plusT a b)) [] := by
  cases b with
  | nil =>
    refine Ct.by_ hmix [] Try.func69 rfl ?_
    simp only [run0, run1, run2, run3, run4, run5, run6, run7, run8, run9, run10, run11, run12, run13, run14, run15, run16, run17, run18, run19, run20, run21, run22, reduceCtorEq, Nat.reduceEqDiff, Nat.reduceAdd, Nat.reduceSub, Nat.reduceLeDiff, indexAddrA, indexRefA, appendA, strA, Nat.reduceMul, Nat.zero_mul, Nat.reduceMod, Int.reduceEq, Int.reduceLT, Int.reduceLE, Nat.reduceLT, Nat.lt_irrefl, Nat.reduceBEq, tys0, tys1, tys2, tys3, tys4, tys5, tys6, tys7, tys8, tys9, tys10, Try.ntmps69, Try.results69, av]
    refine RunL.callp rfl rfl ok_f57 (isZero_ok .nil) (by first | rfl | simp only [pureL, pureB, Bool.and_self, Bool.and_true, Bool.true_and, Od.elems_pure, Od.pay_pure, Od.av_pure]) rfl ?_
    simp only [run0, run1, run2, run3, run4, run5, run6, run7, run8, run9, run10, run11, run12, run13, run14, run15, run16, run17, run18, run19, run20, run21, run22, reduceCtorEq, Nat.reduceEqDiff, Nat.reduceAdd, Nat.reduceSub, Nat.reduceLeDiff, indexAddrA, indexRefA, appendA, strA, Nat.reduceMul, Nat.zero_mul, Nat.reduceMod, Int.reduceEq, Int.reduceLT, Int.reduceLE, Nat.reduceLT, Nat.lt_irrefl, Nat.reduceBEq, tys0, tys1, tys2, tys3, tys4, tys5, tys6, tys7, tys8, tys9, tys10, Try.ntmps69, Try.results69, isZ]
    exact Fin.eq rfl (by simp only [pureB, pureL, elems_pure, Bool.and_self])
  | cons e c rb =>
    have hla := len_le a
    have hlb := len_le (.cons e c rb)
    have hel : elems (.cons e c rb) = .agg [.sl false (elems e), .int .i64 c] :: elems rb := rfl
    generalize hbe : (Od.cons e c rb) = b at *
    refine Ct.by_ hmix [ 8000000] Try.func69 rfl ?_
    simp only [run0, run1, run2, run3, run4, run5, run6, run7, run8, run9, run10, run11, run12, run13, run14, run15, run16, run17, run18, run19, run20, run21, run22, reduceCtorEq, Nat.reduceEqDiff, Nat.reduceAdd, Nat.reduceSub, Nat.reduceLeDiff, indexAddrA, indexRefA, appendA, strA, Nat.reduceMul, Nat.zero_mul, Nat.reduceMod, Int.reduceEq, Int.reduceLT, Int.reduceLE, Nat.reduceLT, Nat.lt_irrefl, Nat.reduceBEq, tys0, tys1, tys2, tys3, tys4, tys5, tys6, tys7, tys8, tys9, tys10, Try.ntmps69, Try.results69, av]
    refine RunL.callp rfl rfl ok_f57 (isZero_ok b) (by first | rfl | simp only [pureL, pureB, Bool.and_self, Bool.and_true, Bool.true_and, Od.elems_pure, Od.pay_pure, Od.av_pure]) rfl ?_
    have hz : isZ b = false := by rw [← hbe]; rfl
    simp only [run0, run1, run2, run3, run4, run5, run6, run7, run8, run9, run10, run11, run12, run13, run14, run15, run16, run17, run18, run19, run20, run21, run22, reduceCtorEq, Nat.reduceEqDiff, Nat.reduceAdd, Nat.reduceSub, Nat.reduceLeDiff, indexAddrA, indexRefA, appendA, strA, Nat.reduceMul, Nat.zero_mul, Nat.reduceMod, Int.reduceEq, Int.reduceLT, Int.reduceLE, Nat.reduceLT, Nat.lt_irrefl, Nat.reduceBEq, tys0, tys1, tys2, tys3, tys4, tys5, tys6, tys7, tys8, tys9, tys10, Try.ntmps69, Try.results69, hz, elems_length]
    refine AWp.nilB 3 0 53 2 rfl rfl ?_
    simp only [run0, run1, run2, run3, run4, run5, run6, run7, run8, run9, run10, run11, run12, run13, run14, run15, run16, run17, run18, run19, run20, run21, run22, reduceCtorEq, Nat.reduceEqDiff, Nat.reduceAdd, Nat.reduceSub, Nat.reduceLeDiff, indexAddrA, indexRefA, appendA, strA, Nat.reduceMul, Nat.zero_mul, Nat.reduceMod, Int.reduceEq, Int.reduceLT, Int.reduceLE, Nat.reduceLT, Nat.lt_irrefl, Nat.reduceBEq, tys0, tys1, tys2, tys3, tys4, tys5, tys6, tys7, tys8, tys9, tys10, Try.ntmps69, Try.results69]
    refine AWp.loop_inv (ι := PlSW) (fun p => ⟨[.agg [.sl false (elems a)], .agg [.sl false (elems b)], .ptr 0 0, .ptr 1 0, .ptr 2 0, .ptr 3 0, .junk, .junk, .junk, .junk, .junk, .junk, .junk, .sl false (elems a), .int .i64 a.len, .int .i64 p.d.len, .junk, .junk, .junk, .junk, .junk, .junk, .junk, .junk, .junk, .junk, .junk, .junk, .junk, .junk, .junk, .junk, .junk, .junk, .junk, .junk, .junk, .junk, .junk, .junk, .junk, .junk, .junk, .junk, .junk, .junk, .junk, .junk, .junk, .junk, .junk, .junk, .junk, .junk, .junk, .junk, .junk, .junk, .junk, .junk, .junk, .junk, .junk, .junk, .junk, .junk, .junk, .junk, .junk],
        .box 29 [.sl false (elems a)] :: .box 29 [.sl false (elems b)] :: .box 29 [nilV] :: .box 29 [.ref 4 [] p.o.len p.o.len] :: .vec 53 2 p.o.len (elems p.o) :: p.X⟩)
      (fun p => a = p.d.app p.r ∧ p.o.app (plusA e c rb p.r) = plusT a b ∧ p.o.len ≤ p.d.len) (fun p => p.r.len) ⟨.nil, a, .nil, []⟩ ⟨rfl, by rw [← hbe]; rfl, Nat.le_refl _⟩ ⟨by simp only [len, Int.natCast_zero]; repeat constructor, rfl⟩ ?_
    rintro ⟨d, r, o, X⟩ ⟨h1, h2, h3⟩
    simp only at h1 h2 h3
    refine W.sound hmix (E := [8000000]) ?_
    cases r with
    | nil =>
      obtain ⟨e1, rfl⟩ := od_end h1
      have w1 : o.len + b.len ≤ 137438953472 := by omega
      simp only [run0, run1, run2, run3, run4, run5, run6, run7, run8, run9, run10, run11, run12, run13, run14, run15, run16, run17, run18, run19, run20, run21, run22, reduceCtorEq, Nat.reduceEqDiff, Nat.reduceAdd, Nat.reduceSub, Nat.reduceLeDiff, indexAddrA, indexRefA, appendA, strA, Nat.reduceMul, Nat.zero_mul, Nat.reduceMod, Int.reduceEq, Int.reduceLT, Int.reduceLE, Nat.reduceLT, Nat.lt_irrefl, Nat.reduceBEq, tys0, tys1, tys2, tys3, tys4, tys5, tys6, tys7, tys8, tys9, tys10, Try.ntmps69, Try.results69, elems_length, e1, w1, elems_all, elems_noOwn]
      have h4 : plusT a b = o.app b := by rw [← h2, ← hbe]; rfl
      rw [h4]
      exact Fin.value (Vw.agg (.cons (Vw_elems (a := o.app b) (T := 53) rfl (elems_app o b).symm (len_app o b).symm) .nil))
    | cons x k q =>
      obtain ⟨e1, e2, e5, hlt, hn, _⟩ := od_step h1 ha
      rw [h1] at ba
      have bx := bndW_len (bndW_app.1 ba).2
      have f0 : (elems b)[0]? = some (.agg [.sl false (elems e), .int .i64 c]) := by rw [hel]; rfl
      have hda : d.len + (q.len + 1) = a.len := by rw [h1, len_app]; rfl
      have f3 : o.len ≤ 137438953471 := by omega
      have f1 : (0 : Int) < (b.len : Int) := by rw [← hbe]; simp only [len]; omega
      simp only [run0, run1, run2, run3, run4, run5, run6, run7, run8, run9, run10, run11, run12, run13, run14, run15, run16, run17, run18, run19, run20, run21, run22, reduceCtorEq, Nat.reduceEqDiff, Nat.reduceAdd, Nat.reduceSub, Nat.reduceLeDiff, indexAddrA, indexRefA, appendA, strA, Nat.reduceMul, Nat.zero_mul, Nat.reduceMod, Int.reduceEq, Int.reduceLT, Int.reduceLE, Nat.reduceLT, Nat.lt_irrefl, Nat.reduceBEq, tys0, tys1, tys2, tys3, tys4, tys5, tys6, tys7, tys8, tys9, tys10, Try.ntmps69, Try.results69, elems_length, e1, e2, Int.toNat_natCast, Int.natCast_nonneg]
      refine ⟨[0,1,2,3,4,5,6,7], by kernel_rfl, ?_⟩
      simp only [run0, run1, run2, run3, run4, run5, run6, run7, run8, run9, run10, run11, run12, run13, run14, run15, run16, run17, run18, run19, run20, run21, run22, reduceCtorEq, Nat.reduceEqDiff, Nat.reduceAdd, Nat.reduceSub, Nat.reduceLeDiff, indexAddrA, indexRefA, appendA, strA, Nat.reduceMul, Nat.zero_mul, Nat.reduceMod, Int.reduceEq, Int.reduceLT, Int.reduceLE, Nat.reduceLT, Nat.lt_irrefl, Nat.reduceBEq, tys0, tys1, tys2, tys3, tys4, tys5, tys6, tys7, tys8, tys9, tys10, Try.ntmps69, Try.results69, elems_length, f0, f1, Int.le_refl, Int.reduceToNat]
      refine RunL.callp rfl rfl ok_f51 (cmp_ok x e (by omega) (by have := bndW_len (hbe ▸ bb); omega)) (by first | rfl | simp only [pureL, pureB, Bool.and_self, Bool.and_true, Bool.true_and, Od.elems_pure, Od.pay_pure, Od.av_pure]) rfl ?_
      simp only [run0, run1, run2, run3, run4, run5, run6, run7, run8, run9, run10, run11, run12, run13, run14, run15, run16, run17, run18, run19, run20, run21, run22, reduceCtorEq, Nat.reduceEqDiff, Nat.reduceAdd, Nat.reduceSub, Nat.reduceLeDiff, indexAddrA, indexRefA, appendA, strA, Nat.reduceMul, Nat.zero_mul, Nat.reduceMod, Int.reduceEq, Int.reduceLT, Int.reduceLE, Nat.reduceLT, Nat.lt_irrefl, Nat.reduceBEq, tys0, tys1, tys2, tys3, tys4, tys5, tys6, tys7, tys8, tys9, tys10, Try.ntmps69, Try.results69]
      rcases cmpT_range x e with hc | hc | hc
      · have w1 : (cmpT x e == 1) = false := by rw [hc]; rfl
        have w2 : (cmpT x e == 0) = false := by rw [hc]; rfl
        simp only [run0, run1, run2, run3, run4, run5, run6, run7, run8, run9, run10, run11, run12, run13, run14, run15, run16, run17, run18, run19, run20, run21, run22, reduceCtorEq, Nat.reduceEqDiff, Nat.reduceAdd, Nat.reduceSub, Nat.reduceLeDiff, indexAddrA, indexRefA, appendA, strA, Nat.reduceMul, Nat.zero_mul, Nat.reduceMod, Int.reduceEq, Int.reduceLT, Int.reduceLE, Nat.reduceLT, Nat.lt_irrefl, Nat.reduceBEq, tys0, tys1, tys2, tys3, tys4, tys5, tys6, tys7, tys8, tys9, tys10, Try.ntmps69, Try.results69, w1, w2, e5]
        refine ⟨⟨d.app (cons x k nil), q, o, _⟩, ⟨hn.symm, ?_, by rw [len_app]; simp only [len]; omega⟩, by simp [len], by repeat constructor, rfl⟩
        rw [← h2]
        simp only [plusA]
        rw [if_neg (by omega), if_neg (by omega)]
      · have w1 : (cmpT x e == 1) = false := by rw [hc]; rfl
        have w2 : (cmpT x e == 0) = true := by rw [hc]; rfl
        have w3 : IntKind.i64.wrap (k + c) = k + c := w64_id (by have := bx.2.2.1; have := (bndW_len (hbe ▸ bb)).2.2.1; omega) (by have := bx.2.2.2; have := (bndW_len (hbe ▸ bb)).2.2.2; omega)
        have w4 : b.len = rb.len + 1 := by rw [← hbe]; rfl
        have w5 : List.drop 1 (elems b) = elems rb := by rw [hel]; rfl
        have w6 : (1 : Int) ≤ (b.len : Int) := by omega
        have w7 : o.len + 1 + rb.len ≤ 137438953472 := by omega
        simp only [run0, run1, run2, run3, run4, run5, run6, run7, run8, run9, run10, run11, run12, run13, run14, run15, run16, run17, run18, run19, run20, run21, run22, reduceCtorEq, Nat.reduceEqDiff, Nat.reduceAdd, Nat.reduceSub, Nat.reduceLeDiff, indexAddrA, indexRefA, appendA, strA, Nat.reduceMul, Nat.zero_mul, Nat.reduceMod, Int.reduceEq, Int.reduceLT, Int.reduceLE, Nat.reduceLT, Nat.lt_irrefl, Nat.reduceBEq, tys0, tys1, tys2, tys3, tys4, tys5, tys6, tys7, tys8, tys9, tys10, Try.ntmps69, Try.results69, w1, w2]
        refine ⟨[0,1,2,3,4,5,6,7,8,9,10,11,12,13,14,15,16], by kernel_rfl, ?_⟩
        simp only [run0, run1, run2, run3, run4, run5, run6, run7, run8, run9, run10, run11, run12, run13, run14, run15, run16, run17, run18, run19, run20, run21, run22, reduceCtorEq, Nat.reduceEqDiff, Nat.reduceAdd, Nat.reduceSub, Nat.reduceLeDiff, indexAddrA, indexRefA, appendA, strA, Nat.reduceMul, Nat.zero_mul, Nat.reduceMod, Int.reduceEq, Int.reduceLT, Int.reduceLE, Nat.reduceLT, Nat.lt_irrefl, Nat.reduceBEq, tys0, tys1, tys2, tys3, tys4, tys5, tys6, tys7, tys8, tys9, tys10, Try.ntmps69, Try.results69, f0, f1, f3, w3, elems_length, elems_noOwn, Int.le_refl, Int.reduceToNat]
        refine ⟨[0,1,2,3,4,5,6,7], by kernel_rfl, ?_⟩
        have w8 : noOwn (elems o ++ [.agg [.sl false (elems x), .int .i64 (k + c)]]) = true := by
          have := elems_noOwn (o.app (cons x (k + c) nil)); rw [elems_app] at this; exact this
        have w9 : b.len - 1 = rb.len := by omega
        simp only [run0, run1, run2, run3, run4, run5, run6, run7, run8, run9, run10, run11, run12, run13, run14, run15, run16, run17, run18, run19, run20, run21, run22, reduceCtorEq, Nat.reduceEqDiff, Nat.reduceAdd, Nat.reduceSub, Nat.reduceLeDiff, indexAddrA, indexRefA, appendA, strA, Nat.reduceMul, Nat.zero_mul, Nat.reduceMod, Int.reduceEq, Int.reduceLT, Int.reduceLE, Nat.reduceLT, Nat.lt_irrefl, Nat.reduceBEq, tys0, tys1, tys2, tys3, tys4, tys5, tys6, tys7, tys8, tys9, tys10, Try.ntmps69, Try.results69, w5, w6, w7, w8, w9, take_all, elems_length, elems_noOwn, elems_all, elems_cells_t, Int.le_refl, Int.reduceToNat, Int.toNat_natCast, Nat.min_self]
        have h4 : plusT a b = o.app (cons x (k + c) rb) := by rw [← h2]; simp only [plusA]; rw [if_neg (by omega), if_pos hc]
        rw [h4]
        exact Fin.value (Vw.agg (.cons (Vw_elems (a := o.app (cons x (k + c) rb)) (T := 53) rfl (by rw [elems_app]; rfl) (by rw [len_app]; simp only [len]; omega)) .nil))
      · have w1 : (cmpT x e == 1) = true := by rw [hc]; rfl
        simp only [run0, run1, run2, run3, run4, run5, run6, run7, run8, run9, run10, run11, run12, run13, run14, run15, run16, run17, run18, run19, run20, run21, run22, reduceCtorEq, Nat.reduceEqDiff, Nat.reduceAdd, Nat.reduceSub, Nat.reduceLeDiff, indexAddrA, indexRefA, appendA, strA, Nat.reduceMul, Nat.zero_mul, Nat.reduceMod, Int.reduceEq, Int.reduceLT, Int.reduceLE, Nat.reduceLT, Nat.lt_irrefl, Nat.reduceBEq, tys0, tys1, tys2, tys3, tys4, tys5, tys6, tys7, tys8, tys9, tys10, Try.ntmps69, Try.results69, w1, elems_length, f3, elems_noOwn, e5]
        refine ⟨⟨d.app (cons x k nil), q, o.app (cons x k nil), X ++ [.box 53 [.sl false (elems x), .int .i64 k]]⟩, ⟨hn.symm, ?_, by simp only [len_app, len]; omega⟩, by simp [len], by simp only [len_app, elems_app, elems, pay, len]; repeat constructor, by simp only [len_app, elems_app, elems, pay, len]⟩
        rw [← h2, app_assoc]
        simp only [plusA]
        rw [if_pos (by omega)]; rfl

structure OpS1W where
  d : Od
  r : Od
  o : Od
  tl : Od
  g : Nat
  X : List AObj

theorem odPlusW_ok (a b : Od) (ha : a.sz ≤ 1048576) (hb : b.sz ≤ 1048576) {m : Int} (h0 : 0 ≤ m) (hm : m ≤ 1099511627776) (ba : bndW m a) (bb : bndW m b) : Ct Try.prog 68 [av a, av b] [] (av (odPlusT a b)) [] := by
  have hla := len_le a
  have hlb := len_le b
  refine Ct.by_ hmix [] Try.func68 rfl ?_
  have w0 : a.len ≤ 137438953472 := by omega
  simp only [run0, run1, run2, run3, run4, run5, run6, run7, run8, run9, run10, run11, run12, run13, run14, run15, run16, run17, run18, run19, run20, run21, run22, reduceCtorEq, Nat.reduceEqDiff, Nat.reduceAdd, Nat.reduceSub, Nat.reduceLeDiff, indexAddrA, indexRefA, appendA, strA, Nat.reduceMul, Nat.zero_mul, Nat.reduceMod, Int.reduceEq, Int.reduceLT, Int.reduceLE, Nat.reduceLT, Nat.lt_irrefl, Nat.reduceBEq, tys0, tys1, tys2, tys3, tys4, tys5, tys6, tys7, tys8, tys9, tys10, Try.ntmps68, Try.results68, av, elems_length, elems_all, elems_noOwn, w0]
  refine AWp.loop_inv (ι := OpS1W) (fun p => ⟨[.agg [.sl false (elems a)], .agg [.sl false (elems b)], .ptr 0 0, .ptr 1 0, .ptr 2 0, .ptr 4 0, .junk, .junk, .junk, .junk, .junk, .junk, .junk, .junk, .junk, .sl false (elems b), .int .i64 b.len, .int .i64 p.d.len, .junk, .junk, .junk, .junk, .junk, .junk, .junk, .junk, .junk, .junk, .junk, .junk, .junk, .junk, .junk, .junk, .junk, .junk, .junk, .junk, .junk, .junk, .junk, .junk, .junk, .junk, .junk, .junk, .junk, .junk, .junk, .junk, .junk, .junk, .junk, .junk, .junk, .junk, .junk, .junk, .junk, .junk, .junk, .junk, .junk, .junk, .junk, .junk, .junk, .junk, .junk, .junk, .junk, .junk, .junk, .junk, .junk, .junk, .junk, .junk, .junk, .junk, .junk, .junk, .junk, .junk, .junk],
      .box 29 [.sl false (elems a)] :: .box 29 [.sl false (elems b)] :: .box 29 [nilV] :: .vec 53 2 p.g (elems p.o ++ elems p.tl) :: .box 29 [.ref 3 [] p.g p.o.len] :: p.X⟩)
    (fun p => b = p.d.app p.r ∧ odPlusT p.o p.r = odPlusT a b ∧ p.o.len ≤ a.len + p.d.len ∧ bndW (m + m * p.d.len) p.o) (fun p => p.r.len) ⟨.nil, b, a, .nil, 1, []⟩ ⟨rfl, rfl, Nat.le_refl _, bndW_mono (by simp [len]) ba⟩ ⟨by simp only [len, Int.natCast_zero, elems, List.append_nil]; repeat constructor, by simp only [elems, List.append_nil]; rfl⟩ ?_
  rintro ⟨d, r, o, tl, g, X⟩ ⟨h1, h2, h3, h4⟩
  simp only at h1 h2 h3 h4
  refine W.sound hmix (E := []) ?_
  cases r with
  | nil =>
    obtain ⟨e1, rfl⟩ := od_end h1
    simp only [run0, run1, run2, run3, run4, run5, run6, run7, run8, run9, run10, run11, run12, run13, run14, run15, run16, run17, run18, run19, run20, run21, run22, reduceCtorEq, Nat.reduceEqDiff, Nat.reduceAdd, Nat.reduceSub, Nat.reduceLeDiff, indexAddrA, indexRefA, appendA, strA, Nat.reduceMul, Nat.zero_mul, Nat.reduceMod, Int.reduceEq, Int.reduceLT, Int.reduceLE, Nat.reduceLT, Nat.lt_irrefl, Nat.reduceBEq, tys0, tys1, tys2, tys3, tys4, tys5, tys6, tys7, tys8, tys9, tys10, Try.ntmps68, Try.results68, elems_length, e1]
    have h5 : odPlusT a b = o := h2.symm
    rw [h5]
    exact Fin.value (Vw.agg (.cons (Vw_pre (T := 53) (tl := tl) rfl rfl) .nil))
  | cons e c q =>
    obtain ⟨e1, e2, e5, hlt, hn, _⟩ := od_step h1 hb
    rw [h1] at bb
    have bx := bndW_len (bndW_app.1 bb).2
    simp only [run0, run1, run2, run3, run4, run5, run6, run7, run8, run9, run10, run11, run12, run13, run14, run15, run16, run17, run18, run19, run20, run21, run22, reduceCtorEq, Nat.reduceEqDiff, Nat.reduceAdd, Nat.reduceSub, Nat.reduceLeDiff, indexAddrA, indexRefA, appendA, strA, Nat.reduceMul, Nat.zero_mul, Nat.reduceMod, Int.reduceEq, Int.reduceLT, Int.reduceLE, Nat.reduceLT, Nat.lt_irrefl, Nat.reduceBEq, tys0, tys1, tys2, tys3, tys4, tys5, tys6, tys7, tys8, tys9, tys10, Try.ntmps68, Try.results68, elems_length, e1, e2, Int.toNat_natCast, Int.natCast_nonneg]
    refine AWp.loop_inv (ι := Od × Od) (fun p => ⟨[.agg [.sl false (elems a)], .agg [.sl false (elems b)], .ptr 0 0, .ptr 1 0, .ptr 2 0, .ptr 4 0, .junk, .ptr (X.length + 5) 0, .junk, .junk, .junk, .junk, .junk, .junk, .junk, .sl false (elems b), .int .i64 b.len, .int .i64 d.len, .junk, .junk, .junk, .junk, .junk, .junk, .junk, .junk, .junk, .junk, .junk, .junk, .junk, .junk, .junk, .junk, .junk, .junk, .junk, .junk, .junk, .junk, .junk, .junk, .junk, .junk, .junk, .junk, .junk, .junk, .junk, .junk, .junk, .junk, .junk, .junk, .junk, .junk, .junk, .junk, .junk, .junk, .junk, .junk, .junk, .junk, .junk, .junk, .junk, .junk, .junk, .junk, .junk, .junk, .junk, .junk, .junk, .junk, .junk, .junk, .junk, .junk, .junk, .junk, .junk, .junk, .junk],
        .box 29 [.sl false (elems a)] :: .box 29 [.sl false (elems b)] :: .box 29 [nilV] :: .vec 53 2 g (elems p.1 ++ elems p.2) :: .box 29 [.ref 3 [] g p.1.len] :: (X ++ [.box 53 [.sl false (elems e), .int .i64 c]])⟩)
      (fun p => pop e p.1 = pop e o ∧ p.1.len ≤ o.len ∧ bndW (m + m * d.len) p.1) (fun p => p.1.len) (o, tl) ⟨rfl, Nat.le_refl _, h4⟩ ⟨by repeat constructor, rfl⟩ ?_
    rintro ⟨o2, tl⟩ ⟨h5, h6, h7⟩
    simp only at h5 h6 h7
    refine W.sound hmix (E := []) ?_
    have hd1 : (d.app (cons e c nil)).len = d.len + 1 := by rw [len_app]; rfl
    have hm1 : m + m * (d.len : Int) ≤ m + m * ((d.len + 1 : Nat) : Int) := by rw [Int.natCast_add, Int.mul_add]; omega
    have hm2 : m ≤ m + m * ((d.len + 1 : Nat) : Int) := by
      have := Int.mul_nonneg h0 (Int.natCast_nonneg (d.len + 1)); omega
    have step : addEnd e c (pop e o) = o2.app (cons e c nil) → (b = (d.app (cons e c nil)).app q ∧ odPlusT (o2.app (cons e c nil)) q = odPlusT a b ∧ (o2.app (cons e c nil)).len ≤ a.len + (d.app (cons e c nil)).len ∧ bndW (m + m * (d.app (cons e c nil)).len) (o2.app (cons e c nil))) := fun hadd => by
      refine ⟨hn.symm, by rw [← hadd, ← odPlusT_cons]; exact h2, ?_, ?_⟩
      · rw [len_app, hd1]; simp only [len]; omega
      · rw [hd1, bndW_app]
        exact ⟨bndW_mono hm1 h7, bx.1, bx.2.1, by omega, by omega, trivial⟩
    have v1 : o2.len ≤ 137438953471 := by
      have : d.len + (q.len + 1) = b.len := by rw [h1, len_app]; rfl
      omega
    have v2 : noOwn (elems o2 ++ elems tl) = true := by rw [← elems_app]; exact elems_noOwn _
    have v3 : List.take o2.len (elems o2 ++ elems tl) = elems o2 := by rw [List.take_append_of_le_length (by rw [elems_length]; exact Nat.le_refl _), take_all]
    have v4 : o2.len ≤ o2.len + tl.len := by omega
    rcases od_last o2 with ho2 | ⟨o3, x, k, ho2⟩
    · have p1 : ¬ ((0 : Int) < (o2.len : Int)) := by rw [ho2]; simp [len]
      have p2 : IntKind.i64.wrap ((o2.len : Int) - 1) = -1 := by rw [ho2]; rfl
      simp only [run0, run1, run2, run3, run4, run5, run6, run7, run8, run9, run10, run11, run12, run13, run14, run15, run16, run17, run18, run19, run20, run21, run22, reduceCtorEq, Nat.reduceEqDiff, Nat.reduceAdd, Nat.reduceSub, Nat.reduceLeDiff, indexAddrA, indexRefA, appendA, strA, Nat.reduceMul, Nat.zero_mul, Nat.reduceMod, Int.reduceEq, Int.reduceLT, Int.reduceLE, Nat.reduceLT, Nat.lt_irrefl, Nat.reduceBEq, tys0, tys1, tys2, tys3, tys4, tys5, tys6, tys7, tys8, tys9, tys10, Try.ntmps68, Try.results68, elems_length]
      refine ⟨by kernel_rfl, ?_⟩
      simp only [run0, run1, run2, run3, run4, run5, run6, run7, run8, run9, run10, run11, run12, run13, run14, run15, run16, run17, run18, run19, run20, run21, run22, reduceCtorEq, Nat.reduceEqDiff, Nat.reduceAdd, Nat.reduceSub, Nat.reduceLeDiff, indexAddrA, indexRefA, appendA, strA, Nat.reduceMul, Nat.zero_mul, Nat.reduceMod, Int.reduceEq, Int.reduceLT, Int.reduceLE, Nat.reduceLT, Nat.lt_irrefl, Nat.reduceBEq, tys0, tys1, tys2, tys3, tys4, tys5, tys6, tys7, tys8, tys9, tys10, Try.ntmps68, Try.results68, p1, p2, elems_length]
      refine ⟨by kernel_rfl, ?_⟩
      have hadd : addEnd e c (pop e o) = o2.app (cons e c nil) := by rw [← h5, ho2]; rfl
      by_cases ht : tl.len = 0
      · have htl : tl = nil := by cases tl with
          | nil => rfl
          | cons _ _ _ => simp [len] at ht
        have v5 : (o2.len = o2.len + tl.len) = True := eq_true (by omega)
        simp only [run0, run1, run2, run3, run4, run5, run6, run7, run8, run9, run10, run11, run12, run13, run14, run15, run16, run17, run18, run19, run20, run21, run22, reduceCtorEq, Nat.reduceEqDiff, Nat.reduceAdd, Nat.reduceSub, Nat.reduceLeDiff, indexAddrA, indexRefA, appendA, strA, Nat.reduceMul, Nat.zero_mul, Nat.reduceMod, Int.reduceEq, Int.reduceLT, Int.reduceLE, Nat.reduceLT, Nat.lt_irrefl, Nat.reduceBEq, tys0, tys1, tys2, tys3, tys4, tys5, tys6, tys7, tys8, tys9, tys10, Try.ntmps68, Try.results68, v1, v2, v5, e5, elems_length]
        subst htl
        exact ⟨⟨d.app (cons e c nil), q, o2.app (cons e c nil), nil, g + 1, X ++ [.box 53 [.sl false (elems e), .int .i64 c]]⟩, step hadd, by simp [len], by simp only [len_app, elems_app, elems, pay, len, List.append_nil, List.nil_append]; repeat constructor, by simp only [len_app, elems_app, elems, pay, len, List.append_nil, List.nil_append]⟩
      · have v5 : (o2.len = o2.len + tl.len) = False := eq_false (by omega)
        simp only [run0, run1, run2, run3, run4, run5, run6, run7, run8, run9, run10, run11, run12, run13, run14, run15, run16, run17, run18, run19, run20, run21, run22, reduceCtorEq, Nat.reduceEqDiff, Nat.reduceAdd, Nat.reduceSub, Nat.reduceLeDiff, indexAddrA, indexRefA, appendA, strA, Nat.reduceMul, Nat.zero_mul, Nat.reduceMod, Int.reduceEq, Int.reduceLT, Int.reduceLE, Nat.reduceLT, Nat.lt_irrefl, Nat.reduceBEq, tys0, tys1, tys2, tys3, tys4, tys5, tys6, tys7, tys8, tys9, tys10, Try.ntmps68, Try.results68, v1, v2, v3, v4, v5, e5, elems_length]
        exact ⟨⟨d.app (cons e c nil), q, o2.app (cons e c nil), nil, g + 2, X ++ [.box 53 [.sl false (elems e), .int .i64 c]]⟩, step hadd, by simp [len], by simp only [len_app, elems_app, elems, pay, len, List.append_nil, List.nil_append]; repeat constructor, by simp only [len_app, elems_app, elems, pay, len, List.append_nil, List.nil_append]⟩
    · have q1 : o2.len = o3.len + 1 := by rw [ho2, len_app]; rfl
      have p1 : (0 : Int) < (o2.len : Int) := by omega
      have p2 : IntKind.i64.wrap ((o2.len : Int) - 1) = (o3.len : Int) := by rw [w64_id (by omega) (by omega)]; omega
      have p3 : (elems o2 ++ elems tl)[o3.len]? = some (.agg [.sl false (elems x), .int .i64 k]) := by
        rw [List.getElem?_append_left (by rw [elems_length]; omega), ho2]; exact elems_get o3 x k nil
      have p4 : (o3.len : Int) < (o2.len : Int) := by omega
      have p5 : (o3.len : Int) ≤ (o2.len : Int) := by omega
      have p6 : List.mapIdx (fun j c => viewC 3 [(o3.len, j)] g c) [.sl false (elems x), .int .i64 k] = [.sl false (elems x), .int .i64 k] := rfl
      have p7 : ∀ L : List AObj, eptrNow L 3 g → sliceA Try.prog L 27 (.ref 3 [] g o2.len) none (some (.int .i64 o3.len)) = some (.ref 3 [] g o3.len) := fun L h => sliceRef (by omega) h
      have b2 : bndW (m + m * d.len) (cons x k nil) := by rw [ho2] at h7; exact (bndW_app.1 h7).2
      simp only [run0, run1, run2, run3, run4, run5, run6, run7, run8, run9, run10, run11, run12, run13, run14, run15, run16, run17, run18, run19, run20, run21, run22, reduceCtorEq, Nat.reduceEqDiff, Nat.reduceAdd, Nat.reduceSub, Nat.reduceLeDiff, indexAddrA, indexRefA, appendA, strA, Nat.reduceMul, Nat.zero_mul, Nat.reduceMod, Int.reduceEq, Int.reduceLT, Int.reduceLE, Nat.reduceLT, Nat.lt_irrefl, Nat.reduceBEq, tys0, tys1, tys2, tys3, tys4, tys5, tys6, tys7, tys8, tys9, tys10, Try.ntmps68, Try.results68, elems_length]
      refine ⟨by kernel_rfl, ?_⟩
      simp only [run0, run1, run2, run3, run4, run5, run6, run7, run8, run9, run10, run11, run12, run13, run14, run15, run16, run17, run18, run19, run20, run21, run22, reduceCtorEq, Nat.reduceEqDiff, Nat.reduceAdd, Nat.reduceSub, Nat.reduceLeDiff, indexAddrA, indexRefA, appendA, strA, Nat.reduceMul, Nat.zero_mul, Nat.reduceMod, Int.reduceEq, Int.reduceLT, Int.reduceLE, Nat.reduceLT, Nat.lt_irrefl, Nat.reduceBEq, tys0, tys1, tys2, tys3, tys4, tys5, tys6, tys7, tys8, tys9, tys10, Try.ntmps68, Try.results68, p1, p2, p3, p4, p5, p6, elems_length, Int.toNat_natCast, Int.natCast_nonneg]
      refine RunL.callp rfl rfl ok_f49 (odCmpW_ok x e b2.2.1 bx.2.1 b2.1 bx.1) (by first | rfl | simp only [pureL, pureB, Bool.and_self, Bool.and_true, Bool.true_and, Od.elems_pure, Od.pay_pure, Od.av_pure]) rfl ?_
      by_cases hc : cmpT x e < 0
      · simp only [run0, run1, run2, run3, run4, run5, run6, run7, run8, run9, run10, run11, run12, run13, run14, run15, run16, run17, run18, run19, run20, run21, run22, reduceCtorEq, Nat.reduceEqDiff, Nat.reduceAdd, Nat.reduceSub, Nat.reduceLeDiff, indexAddrA, indexRefA, appendA, strA, Nat.reduceMul, Nat.zero_mul, Nat.reduceMod, Int.reduceEq, Int.reduceLT, Int.reduceLE, Nat.reduceLT, Nat.lt_irrefl, Nat.reduceBEq, tys0, tys1, tys2, tys3, tys4, tys5, tys6, tys7, tys8, tys9, tys10, Try.ntmps68, Try.results68, hc, p1, p2, p3, p4, p5, p6, p7, elems_length, Int.toNat_natCast, Int.natCast_nonneg]
        have p8 : elems o2 ++ elems tl = elems o3 ++ elems (cons x k tl) := by rw [ho2, elems_app, List.append_assoc]; rfl
        refine ⟨(o3, cons x k tl), ⟨?_, by simp only; omega, ?_⟩, by simp only; omega, by repeat constructor, by simp only [p8]⟩
        · rw [← h5, ho2, pop_snoc, if_pos hc]
        · rw [ho2] at h7; exact (bndW_app.1 h7).1
      · simp only [run0, run1, run2, run3, run4, run5, run6, run7, run8, run9, run10, run11, run12, run13, run14, run15, run16, run17, run18, run19, run20, run21, run22, reduceCtorEq, Nat.reduceEqDiff, Nat.reduceAdd, Nat.reduceSub, Nat.reduceLeDiff, indexAddrA, indexRefA, appendA, strA, Nat.reduceMul, Nat.zero_mul, Nat.reduceMod, Int.reduceEq, Int.reduceLT, Int.reduceLE, Nat.reduceLT, Nat.lt_irrefl, Nat.reduceBEq, tys0, tys1, tys2, tys3, tys4, tys5, tys6, tys7, tys8, tys9, tys10, Try.ntmps68, Try.results68, hc, p1, p2, p3, p4, p5, p6, p7, elems_length, Int.toNat_natCast, Int.natCast_nonneg]
        refine ⟨by kernel_rfl, ?_⟩
        refine RunL.callp rfl rfl ok_f49 (odCmpW_ok x e b2.2.1 bx.2.1 b2.1 bx.1) (by first | rfl | simp only [pureL, pureB, Bool.and_self, Bool.and_true, Bool.true_and, Od.elems_pure, Od.pay_pure, Od.av_pure]) rfl ?_
        by_cases hq : cmpT x e = 0
        · have w1 : (cmpT x e == 0) = true := by rw [hq]; rfl
          simp only [run0, run1, run2, run3, run4, run5, run6, run7, run8, run9, run10, run11, run12, run13, run14, run15, run16, run17, run18, run19, run20, run21, run22, reduceCtorEq, Nat.reduceEqDiff, Nat.reduceAdd, Nat.reduceSub, Nat.reduceLeDiff, indexAddrA, indexRefA, appendA, strA, Nat.reduceMul, Nat.zero_mul, Nat.reduceMod, Int.reduceEq, Int.reduceLT, Int.reduceLE, Nat.reduceLT, Nat.lt_irrefl, Nat.reduceBEq, tys0, tys1, tys2, tys3, tys4, tys5, tys6, tys7, tys8, tys9, tys10, Try.ntmps68, Try.results68, w1, p1, p2, p3, p4, p5, p6, p7, elems_length, Int.toNat_natCast, Int.natCast_nonneg]
          refine ⟨by kernel_rfl, ?_⟩
          have w2 : IntKind.i64.wrap (k + c) = k + c := by
            have := b2.2.2.1
            have := b2.2.2.2.1
            have := bx.2.2.1
            have := bx.2.2.2
            have hdb : d.len + (q.len + 1) = b.len := by rw [h1, len_app]; rfl
            have : m * (d.len : Int) ≤ 1099511627776 * 1048576 := Int.mul_le_mul hm (by omega) (by omega) (by omega)
            exact w64_id (by omega) (by omega)
          have p9 : (elems o2 ++ elems tl).set o3.len (.agg [.sl false (elems x), .int .i64 (k + c)]) = elems (o3.app (cons x (k + c) nil)) ++ elems tl := by
            have hl3 : (elems o3).length = o3.len := elems_length o3
            rw [ho2, elems_app, elems_app, List.append_assoc, List.append_assoc, ← hl3, List.set_append_right _ _ (Nat.le_refl _), Nat.sub_self]; rfl
          have p10 : (o3.app (cons x (k + c) nil)).len = o2.len := by rw [len_app, q1]; rfl
          have hadd : addEnd e c (pop e o) = o3.app (cons x (k + c) nil) := by
            rw [← h5, ho2, pop_snoc, if_neg hc, addEnd_snoc, if_pos hq]
          simp only [run0, run1, run2, run3, run4, run5, run6, run7, run8, run9, run10, run11, run12, run13, run14, run15, run16, run17, run18, run19, run20, run21, run22, reduceCtorEq, Nat.reduceEqDiff, Nat.reduceAdd, Nat.reduceSub, Nat.reduceLeDiff, indexAddrA, indexRefA, appendA, strA, Nat.reduceMul, Nat.zero_mul, Nat.reduceMod, Int.reduceEq, Int.reduceLT, Int.reduceLE, Nat.reduceLT, Nat.lt_irrefl, Nat.reduceBEq, tys0, tys1, tys2, tys3, tys4, tys5, tys6, tys7, tys8, tys9, tys10, Try.ntmps68, Try.results68, w1, w2, v2, p1, p2, p3, p4, p5, p6, p7, p9, e5, elems_length, Int.toNat_natCast, Int.natCast_nonneg]
          refine ⟨⟨d.app (cons e c nil), q, o3.app (cons x (k + c) nil), tl, g, X ++ [.box 53 [.sl false (elems e), .int .i64 c]]⟩, ⟨hn.symm, by rw [← hadd, ← odPlusT_cons]; exact h2, by simp only [p10, hd1]; omega, ?_⟩, by simp [len], by simp only [p10]; repeat constructor, by simp only [p10]⟩
          simp only [hd1]
          rw [ho2] at h7
          have hmm : m + m * (d.len : Int) + m ≤ m + m * ((d.len + 1 : Nat) : Int) := by rw [Int.natCast_add, Int.mul_add]; omega
          exact bndW_app.2 ⟨bndW_mono hm1 (bndW_app.1 h7).1, b2.1, b2.2.1, by have := b2.2.2.1; have := bx.2.2.1; omega, by have := b2.2.2.2.1; have := bx.2.2.2; omega, trivial⟩
        · have w1 : (cmpT x e == 0) = false := by simp [hq]
          simp only [run0, run1, run2, run3, run4, run5, run6, run7, run8, run9, run10, run11, run12, run13, run14, run15, run16, run17, run18, run19, run20, run21, run22, reduceCtorEq, Nat.reduceEqDiff, Nat.reduceAdd, Nat.reduceSub, Nat.reduceLeDiff, indexAddrA, indexRefA, appendA, strA, Nat.reduceMul, Nat.zero_mul, Nat.reduceMod, Int.reduceEq, Int.reduceLT, Int.reduceLE, Nat.reduceLT, Nat.lt_irrefl, Nat.reduceBEq, tys0, tys1, tys2, tys3, tys4, tys5, tys6, tys7, tys8, tys9, tys10, Try.ntmps68, Try.results68, w1, p1, p2, p3, p4, p5, p6, p7, elems_length, Int.toNat_natCast, Int.natCast_nonneg]
          have hadd : addEnd e c (pop e o) = o2.app (cons e c nil) := by
            rw [← h5, ho2, pop_snoc, if_neg hc, addEnd_snoc, if_neg hq, app_assoc]; rfl
          by_cases ht : tl.len = 0
          · have htl : tl = nil := by cases tl with
              | nil => rfl
              | cons _ _ _ => simp [len] at ht
            have v5 : (o2.len = o2.len + tl.len) = True := eq_true (by omega)
            simp only [run0, run1, run2, run3, run4, run5, run6, run7, run8, run9, run10, run11, run12, run13, run14, run15, run16, run17, run18, run19, run20, run21, run22, reduceCtorEq, Nat.reduceEqDiff, Nat.reduceAdd, Nat.reduceSub, Nat.reduceLeDiff, indexAddrA, indexRefA, appendA, strA, Nat.reduceMul, Nat.zero_mul, Nat.reduceMod, Int.reduceEq, Int.reduceLT, Int.reduceLE, Nat.reduceLT, Nat.lt_irrefl, Nat.reduceBEq, tys0, tys1, tys2, tys3, tys4, tys5, tys6, tys7, tys8, tys9, tys10, Try.ntmps68, Try.results68, v1, v2, v5, e5, elems_length]
            subst htl
            exact ⟨⟨d.app (cons e c nil), q, o2.app (cons e c nil), nil, g + 1, X ++ [.box 53 [.sl false (elems e), .int .i64 c]]⟩, step hadd, by simp [len], by simp only [len_app, elems_app, elems, pay, len, List.append_nil, List.nil_append]; repeat constructor, by simp only [len_app, elems_app, elems, pay, len, List.append_nil, List.nil_append]⟩
          · have v5 : (o2.len = o2.len + tl.len) = False := eq_false (by omega)
            simp only [run0, run1, run2, run3, run4, run5, run6, run7, run8, run9, run10, run11, run12, run13, run14, run15, run16, run17, run18, run19, run20, run21, run22, reduceCtorEq, Nat.reduceEqDiff, Nat.reduceAdd, Nat.reduceSub, Nat.reduceLeDiff, indexAddrA, indexRefA, appendA, strA, Nat.reduceMul, Nat.zero_mul, Nat.reduceMod, Int.reduceEq, Int.reduceLT, Int.reduceLE, Nat.reduceLT, Nat.lt_irrefl, Nat.reduceBEq, tys0, tys1, tys2, tys3, tys4, tys5, tys6, tys7, tys8, tys9, tys10, Try.ntmps68, Try.results68, v1, v2, v3, v4, v5, e5, elems_length]
            exact ⟨⟨d.app (cons e c nil), q, o2.app (cons e c nil), nil, g + 2, X ++ [.box 53 [.sl false (elems e), .int .i64 c]]⟩, step hadd, by simp [len], by simp only [len_app, elems_app, elems, pay, len, List.append_nil, List.nil_append]; repeat constructor, by simp only [len_app, elems_app, elems, pay, len, List.append_nil, List.nil_append]⟩

end Go.Proofs.Ytcgnpijbdgbffaa
