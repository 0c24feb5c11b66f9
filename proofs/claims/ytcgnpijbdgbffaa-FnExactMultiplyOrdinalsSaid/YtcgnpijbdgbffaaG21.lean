/-
  Ordinals: sums: the walk of the reference's.
-/
import Derived.Test.YtcgnpijbdgbffaaG20
namespace Go.Proofs.Ytcgnpijbdgbffaa
open Go K Od
set_option linter.unusedSimpArgs false
set_option linter.unusedVariables false
set_option maxHeartbeats 1600000

theorem Vw_pre {L : List AObj} {id g n : Nat} {T : TypeId} {a tl : Od} (hL : L[id]? = some (.vec T 2 g (elems a ++ elems tl))) (hn : n = a.len) : Vw L (.ref id [] g n) (.sl false (elems a)) := by
  subst hn
  have := Vw.refPur (o := false) hL (n := a.len) (by rw [List.length_append, elems_length]; omega) (fun e he c hc => by
    rw [← elems_app] at he
    obtain ⟨e', c', rfl⟩ := elems_mem _ e he
    simp only [AV.cells, List.mem_cons, List.not_mem_nil, or_false] at hc
    rcases hc with rfl | rfl
    · exact ⟨.of (by simp only [pureB, elems_pure]), fun xs h => by cases h⟩
    · exact ⟨.int _ _, fun xs h => by cases h⟩)
  rwa [List.take_append_of_le_length (by rw [elems_length]; exact Nat.le_refl _), take_all] at this

theorem sliceRef {L : List AObj} {id g n k : Nat} (hk : k ≤ n) (hg : eptrNow L id g) : sliceA Try.prog L 27 (.ref id [] g n) none (some (.int .i64 k)) = some (.ref id [] g k) := by
  have hu : Try.prog.underlying 27 = some (.slice 53) := by kernel_rfl
  have hi : (Try.prog.info? 53).isSome = true := by kernel_rfl
  simp only [sliceA, hu, boundA]
  rw [if_pos ⟨by omega, by omega, hi, hg⟩]
  simp

structure OpS1 where
  d : Od
  r : Od
  o : Od
  tl : Od
  g : Nat
  X : List AObj

theorem odPlus_ok (a b : Od) (ha : a.sz ≤ 1048576) (hb : b.sz ≤ 1048576) {m : Int} (h0 : 0 ≤ m) (hm : m ≤ 1099511627776) (ba : bnd m a) (bb : bnd m b) : Ct Try.prog 68 [av a, av b] [] (av (odPlusT a b)) [] := by
  have hla := len_le a
  have hlb := len_le b
  refine Ct.by_ hmix [] Try.func68 rfl ?_
  have w0 : a.len ≤ 137438953472 := by omega
  simp only [run0, run1, run2, run3, run4, run5, run6, run7, run8, run9, run10, run11, run12, run13, run14, run15, run16, run17, run18, run19, run20, run21, run22, reduceCtorEq, Nat.reduceEqDiff, Nat.reduceAdd, Nat.reduceSub, Nat.reduceLeDiff, indexAddrA, indexRefA, appendA, strA, Nat.reduceMul, Nat.zero_mul, Nat.reduceMod, Int.reduceEq, Int.reduceLT, Int.reduceLE, Nat.reduceLT, Nat.lt_irrefl, Nat.reduceBEq, tys0, tys1, tys2, tys3, tys4, tys5, tys6, tys7, tys8, tys9, tys10, Try.ntmps68, Try.results68, av, elems_length, elems_all, elems_noOwn, w0]
  refine AWp.loop_inv (ι := OpS1) (fun p => ⟨[.agg [.sl false (elems a)], .agg [.sl false (elems b)], .ptr 0 0, .ptr 1 0, .ptr 2 0, .ptr 4 0, .junk, .junk, .junk, .junk, .junk, .junk, .junk, .junk, .junk, .sl false (elems b), .int .i64 b.len, .int .i64 p.d.len, .junk, .junk, .junk, .junk, .junk, .junk, .junk, .junk, .junk, .junk, .junk, .junk, .junk, .junk, .junk, .junk, .junk, .junk, .junk, .junk, .junk, .junk, .junk, .junk, .junk, .junk, .junk, .junk, .junk, .junk, .junk, .junk, .junk, .junk, .junk, .junk, .junk, .junk, .junk, .junk, .junk, .junk, .junk, .junk, .junk, .junk, .junk, .junk, .junk, .junk, .junk, .junk, .junk, .junk, .junk, .junk, .junk, .junk, .junk, .junk, .junk, .junk, .junk, .junk, .junk, .junk, .junk],
      .box 29 [.sl false (elems a)] :: .box 29 [.sl false (elems b)] :: .box 29 [nilV] :: .vec 53 2 p.g (elems p.o ++ elems p.tl) :: .box 29 [.ref 3 [] p.g p.o.len] :: p.X⟩)
    (fun p => b = p.d.app p.r ∧ odPlusT p.o p.r = odPlusT a b ∧ p.o.len ≤ a.len + p.d.len ∧ bnd (m + m * p.d.len) p.o) (fun p => p.r.len) ⟨.nil, b, a, .nil, 1, []⟩ ⟨rfl, rfl, Nat.le_refl _, bnd_mono (by simp [len]) ba⟩ ⟨by simp only [len, Int.natCast_zero, elems, List.append_nil]; repeat constructor, by simp only [elems, List.append_nil]; rfl⟩ ?_
  rintro ⟨d, r, o, tl, g, X⟩ ⟨h1, h2, h3, h4⟩
  simp only at h1 h2 h3 h4
  refine W.sound hmix (E := []) ?_
  cases r with
  | nil =>
    obtain ⟨e1, rfl⟩ := od_end h1
    simp only [run0, run1, run2, run3, run4, run5, run6, run7, run8, run9, run10, run11, run12, run13, run14, run15, run16, run17, run18, run19, run20, run21, run22, reduceCtorEq, Nat.reduceEqDiff, Nat.reduceAdd, Nat.reduceSub, Nat.reduceLeDiff, indexAddrA, indexRefA, appendA, strA, Nat.reduceMul, Nat.zero_mul, Nat.reduceMod, Int.reduceEq, Int.reduceLT, Int.reduceLE, Nat.reduceLT, Nat.lt_irrefl, Nat.reduceBEq, tys0, tys1, tys2, tys3, tys4, tys5, tys6, tys7, tys8, tys9, tys10, Try.ntmps68, Try.results68, elems_length, e1]
    have h5 : odPlusT a b = o := h2.symm
    rw [h5]
    exact Fin.value (Vw.agg (.cons (Vw_pre (T := 53) (tl := tl) rfl rfl) .nil))
  | cons e c q =>
    obtain ⟨e1, e2, e5, hlt, hn, _⟩ := od_step h1 hb
    rw [h1] at bb
    have bx := bnd_len (bnd_app.1 bb).2
    simp only [run0, run1, run2, run3, run4, run5, run6, run7, run8, run9, run10, run11, run12, run13, run14, run15, run16, run17, run18, run19, run20, run21, run22, reduceCtorEq, Nat.reduceEqDiff, Nat.reduceAdd, Nat.reduceSub, Nat.reduceLeDiff, indexAddrA, indexRefA, appendA, strA, Nat.reduceMul, Nat.zero_mul, Nat.reduceMod, Int.reduceEq, Int.reduceLT, Int.reduceLE, Nat.reduceLT, Nat.lt_irrefl, Nat.reduceBEq, tys0, tys1, tys2, tys3, tys4, tys5, tys6, tys7, tys8, tys9, tys10, Try.ntmps68, Try.results68, elems_length, e1, e2, Int.toNat_natCast, Int.natCast_nonneg]
    refine AWp.loop_inv (ι := Od × Od) (fun p => ⟨[.agg [.sl false (elems a)], .agg [.sl false (elems b)], .ptr 0 0, .ptr 1 0, .ptr 2 0, .ptr 4 0, .junk, .ptr (X.length + 5) 0, .junk, .junk, .junk, .junk, .junk, .junk, .junk, .sl false (elems b), .int .i64 b.len, .int .i64 d.len, .junk, .junk, .junk, .junk, .junk, .junk, .junk, .junk, .junk, .junk, .junk, .junk, .junk, .junk, .junk, .junk, .junk, .junk, .junk, .junk, .junk, .junk, .junk, .junk, .junk, .junk, .junk, .junk, .junk, .junk, .junk, .junk, .junk, .junk, .junk, .junk, .junk, .junk, .junk, .junk, .junk, .junk, .junk, .junk, .junk, .junk, .junk, .junk, .junk, .junk, .junk, .junk, .junk, .junk, .junk, .junk, .junk, .junk, .junk, .junk, .junk, .junk, .junk, .junk, .junk, .junk, .junk],
        .box 29 [.sl false (elems a)] :: .box 29 [.sl false (elems b)] :: .box 29 [nilV] :: .vec 53 2 g (elems p.1 ++ elems p.2) :: .box 29 [.ref 3 [] g p.1.len] :: (X ++ [.box 53 [.sl false (elems e), .int .i64 c]])⟩)
      (fun p => pop e p.1 = pop e o ∧ p.1.len ≤ o.len ∧ bnd (m + m * d.len) p.1) (fun p => p.1.len) (o, tl) ⟨rfl, Nat.le_refl _, h4⟩ ⟨by repeat constructor, rfl⟩ ?_
    rintro ⟨o2, tl⟩ ⟨h5, h6, h7⟩
    simp only at h5 h6 h7
    refine W.sound hmix (E := []) ?_
    have hd1 : (d.app (cons e c nil)).len = d.len + 1 := by rw [len_app]; rfl
    have hm1 : m + m * (d.len : Int) ≤ m + m * ((d.len + 1 : Nat) : Int) := by rw [Int.natCast_add, Int.mul_add]; omega
    have hm2 : m ≤ m + m * ((d.len + 1 : Nat) : Int) := by
      have := Int.mul_nonneg h0 (Int.natCast_nonneg (d.len + 1)); omega
    have step : addEnd e c (pop e o) = o2.app (cons e c nil) → (b = (d.app (cons e c nil)).app q ∧ odPlusT (o2.app (cons e c nil)) q = odPlusT a b ∧ (o2.app (cons e c nil)).len ≤ a.len + (d.app (cons e c nil)).len ∧ bnd (m + m * (d.app (cons e c nil)).len) (o2.app (cons e c nil))) := fun hadd => by
      refine ⟨hn.symm, by rw [← hadd, ← odPlusT_cons]; exact h2, ?_, ?_⟩
      · rw [len_app, hd1]; simp only [len]; omega
      · rw [hd1, bnd_app]
        exact ⟨bnd_mono hm1 h7, bx.1, bx.2.1, by omega, by omega, trivial⟩
    have v1 : o2.len ≤ 137438953471 := by
      have : d.len + (q.len + 1) = b.len := by rw [h1, len_app]; rfl
      omega
    have v2 : noOwn (elems o2 ++ elems tl) = true := by rw [← elems_app]; exact elems_noOwn _
    have v3 : List.take o2.len (elems o2 ++ elems tl) = elems o2 := by rw [List.take_append_of_le_length (by rw [elems_length]; exact Nat.le_refl _), take_all]
    have v4 : o2.len ≤ o2.len + tl.len := by omega
    rcases od_last o2 with ho2 | ⟨o3, x, k, ho2⟩
    · have p1 : ¬ ((0 : Int) < (o2.len : Int)) := by rw [ho2]; simp [len]
      have p2 : IntKind.i64.wrap ((o2.len : Int) - 1) = -1 := by rw [ho2]; rfl
      simp only [run0, run1, run2, run3, run4, run5, run6, run7, run8, run9, run10, run11, run12, run13, run14, run15, run16, run17, run18, run19, run20, run21, run22, reduceCtorEq, Nat.reduceEqDiff, Nat.reduceAdd, Nat.reduceSub, Nat.reduceLeDiff, indexAddrA, indexRefA, appendA, strA, Nat.reduceMul, Nat.zero_mul, Nat.reduceMod, Int.reduceEq, Int.reduceLT, Int.reduceLE, Nat.reduceLT, Nat.lt_irrefl, Nat.reduceBEq, tys0, tys1, tys2, tys3, tys4, tys5, tys6, tys7, tys8, tys9, tys10, Try.ntmps68, Try.results68, elems_length]
      refine ⟨by kernel_rfl, ?_⟩
      simp only [run0, run1, run2, run3, run4, run5, run6, run7, run8, run9, run10, run11, run12, run13, run14, run15, run16, run17, run18, run19, run20, run21, run22, reduceCtorEq, Nat.reduceEqDiff, Nat.reduceAdd, Nat.reduceSub, Nat.reduceLeDiff, indexAddrA, indexRefA, appendA, strA, Nat.reduceMul, Nat.zero_mul, Nat.reduceMod, Int.reduceEq, Int.reduceLT, Int.reduceLE, Nat.reduceLT, Nat.lt_irrefl, Nat.reduceBEq, tys0, tys1, tys2, tys3, tys4, tys5, tys6, tys7, tys8, tys9, tys10, Try.ntmps68, Try.results68, p1, p2, elems_length]
      refine ⟨by kernel_rfl, ?_⟩
      have hadd : addEnd e c (pop e o) = o2.app (cons e c nil) := by rw [← h5, ho2]; rfl
      by_cases ht : tl.len = 0
      · have htl : tl = nil := by cases tl with
          | nil => rfl
          | cons _ _ _ => simp [len] at ht
        have v5 : (o2.len = o2.len + tl.len) = True := eq_true (by omega)
        simp only [run0, run1, run2, run3, run4, run5, run6, run7, run8, run9, run10, run11, run12, run13, run14, run15, run16, run17, run18, run19, run20, run21, run22, reduceCtorEq, Nat.reduceEqDiff, Nat.reduceAdd, Nat.reduceSub, Nat.reduceLeDiff, indexAddrA, indexRefA, appendA, strA, Nat.reduceMul, Nat.zero_mul, Nat.reduceMod, Int.reduceEq, Int.reduceLT, Int.reduceLE, Nat.reduceLT, Nat.lt_irrefl, Nat.reduceBEq, tys0, tys1, tys2, tys3, tys4, tys5, tys6, tys7, tys8, tys9, tys10, Try.ntmps68, Try.results68, v1, v2, v5, e5, elems_length]
        subst htl
        exact ⟨⟨d.app (cons e c nil), q, o2.app (cons e c nil), nil, g + 1, X ++ [.box 53 [.sl false (elems e), .int .i64 c]]⟩, step hadd, by simp [len], by simp only [len_app, elems_app, elems, pay, len, List.append_nil, List.nil_append]; repeat constructor, by simp only [len_app, elems_app, elems, pay, len, List.append_nil, List.nil_append]⟩
      · have v5 : (o2.len = o2.len + tl.len) = False := eq_false (by omega)
        simp only [run0, run1, run2, run3, run4, run5, run6, run7, run8, run9, run10, run11, run12, run13, run14, run15, run16, run17, run18, run19, run20, run21, run22, reduceCtorEq, Nat.reduceEqDiff, Nat.reduceAdd, Nat.reduceSub, Nat.reduceLeDiff, indexAddrA, indexRefA, appendA, strA, Nat.reduceMul, Nat.zero_mul, Nat.reduceMod, Int.reduceEq, Int.reduceLT, Int.reduceLE, Nat.reduceLT, Nat.lt_irrefl, Nat.reduceBEq, tys0, tys1, tys2, tys3, tys4, tys5, tys6, tys7, tys8, tys9, tys10, Try.ntmps68, Try.results68, v1, v2, v3, v4, v5, e5, elems_length]
        exact ⟨⟨d.app (cons e c nil), q, o2.app (cons e c nil), nil, g + 2, X ++ [.box 53 [.sl false (elems e), .int .i64 c]]⟩, step hadd, by simp [len], by simp only [len_app, elems_app, elems, pay, len, List.append_nil, List.nil_append]; repeat constructor, by simp only [len_app, elems_app, elems, pay, len, List.append_nil, List.nil_append]⟩
    · have q1 : o2.len = o3.len + 1 := by rw [ho2, len_app]; rfl
      have p1 : (0 : Int) < (o2.len : Int) := by omega
      have p2 : IntKind.i64.wrap ((o2.len : Int) - 1) = (o3.len : Int) := by rw [w64_id (by omega) (by omega)]; omega
      have p3 : (elems o2 ++ elems tl)[o3.len]? = some (.agg [.sl false (elems x), .int .i64 k]) := by
        rw [List.getElem?_append_left (by rw [elems_length]; omega), ho2]; exact elems_get o3 x k nil
      have p4 : (o3.len : Int) < (o2.len : Int) := by omega
      have p5 : (o3.len : Int) ≤ (o2.len : Int) := by omega
      have p6 : List.mapIdx (fun j c => viewC 3 [(o3.len, j)] g c) [.sl false (elems x), .int .i64 k] = [.sl false (elems x), .int .i64 k] := rfl
      have p7 : ∀ L : List AObj, eptrNow L 3 g → sliceA Try.prog L 27 (.ref 3 [] g o2.len) none (some (.int .i64 o3.len)) = some (.ref 3 [] g o3.len) := fun L h => sliceRef (by omega) h
      have b2 : bnd (m + m * d.len) (cons x k nil) := by rw [ho2] at h7; exact (bnd_app.1 h7).2
      simp only [run0, run1, run2, run3, run4, run5, run6, run7, run8, run9, run10, run11, run12, run13, run14, run15, run16, run17, run18, run19, run20, run21, run22, reduceCtorEq, Nat.reduceEqDiff, Nat.reduceAdd, Nat.reduceSub, Nat.reduceLeDiff, indexAddrA, indexRefA, appendA, strA, Nat.reduceMul, Nat.zero_mul, Nat.reduceMod, Int.reduceEq, Int.reduceLT, Int.reduceLE, Nat.reduceLT, Nat.lt_irrefl, Nat.reduceBEq, tys0, tys1, tys2, tys3, tys4, tys5, tys6, tys7, tys8, tys9, tys10, Try.ntmps68, Try.results68, elems_length]
      refine ⟨by kernel_rfl, ?_⟩
      simp only [run0, run1, run2, run3, run4, run5, run6, run7, run8, run9, run10, run11, run12, run13, run14, run15, run16, run17, run18, run19, run20, run21, run22, reduceCtorEq, Nat.reduceEqDiff, Nat.reduceAdd, Nat.reduceSub, Nat.reduceLeDiff, indexAddrA, indexRefA, appendA, strA, Nat.reduceMul, Nat.zero_mul, Nat.reduceMod, Int.reduceEq, Int.reduceLT, Int.reduceLE, Nat.reduceLT, Nat.lt_irrefl, Nat.reduceBEq, tys0, tys1, tys2, tys3, tys4, tys5, tys6, tys7, tys8, tys9, tys10, Try.ntmps68, Try.results68, p1, p2, p3, p4, p5, p6, elems_length, Int.toNat_natCast, Int.natCast_nonneg]
      refine RunL.callp rfl rfl ok_f49 (odCmp_ok x e b2.2.1 bx.2.1 b2.1 bx.1) (by first | rfl | simp only [pureL, pureB, Bool.and_self, Bool.and_true, Bool.true_and, Od.elems_pure, Od.pay_pure, Od.av_pure]) rfl ?_
      by_cases hc : cmpT x e < 0
      · simp only [run0, run1, run2, run3, run4, run5, run6, run7, run8, run9, run10, run11, run12, run13, run14, run15, run16, run17, run18, run19, run20, run21, run22, reduceCtorEq, Nat.reduceEqDiff, Nat.reduceAdd, Nat.reduceSub, Nat.reduceLeDiff, indexAddrA, indexRefA, appendA, strA, Nat.reduceMul, Nat.zero_mul, Nat.reduceMod, Int.reduceEq, Int.reduceLT, Int.reduceLE, Nat.reduceLT, Nat.lt_irrefl, Nat.reduceBEq, tys0, tys1, tys2, tys3, tys4, tys5, tys6, tys7, tys8, tys9, tys10, Try.ntmps68, Try.results68, hc, p1, p2, p3, p4, p5, p6, p7, elems_length, Int.toNat_natCast, Int.natCast_nonneg]
        have p8 : elems o2 ++ elems tl = elems o3 ++ elems (cons x k tl) := by rw [ho2, elems_app, List.append_assoc]; rfl
        refine ⟨(o3, cons x k tl), ⟨?_, by simp only; omega, ?_⟩, by simp only; omega, by repeat constructor, by simp only [p8]⟩
        · rw [← h5, ho2, pop_snoc, if_pos hc]
        · rw [ho2] at h7; exact (bnd_app.1 h7).1
      · simp only [run0, run1, run2, run3, run4, run5, run6, run7, run8, run9, run10, run11, run12, run13, run14, run15, run16, run17, run18, run19, run20, run21, run22, reduceCtorEq, Nat.reduceEqDiff, Nat.reduceAdd, Nat.reduceSub, Nat.reduceLeDiff, indexAddrA, indexRefA, appendA, strA, Nat.reduceMul, Nat.zero_mul, Nat.reduceMod, Int.reduceEq, Int.reduceLT, Int.reduceLE, Nat.reduceLT, Nat.lt_irrefl, Nat.reduceBEq, tys0, tys1, tys2, tys3, tys4, tys5, tys6, tys7, tys8, tys9, tys10, Try.ntmps68, Try.results68, hc, p1, p2, p3, p4, p5, p6, p7, elems_length, Int.toNat_natCast, Int.natCast_nonneg]
        refine ⟨by kernel_rfl, ?_⟩
        refine RunL.callp rfl rfl ok_f49 (odCmp_ok x e b2.2.1 bx.2.1 b2.1 bx.1) (by first | rfl | simp only [pureL, pureB, Bool.and_self, Bool.and_true, Bool.true_and, Od.elems_pure, Od.pay_pure, Od.av_pure]) rfl ?_
        by_cases hq : cmpT x e = 0
        · have w1 : (cmpT x e == 0) = true := by rw [hq]; rfl
          simp only [run0, run1, run2, run3, run4, run5, run6, run7, run8, run9, run10, run11, run12, run13, run14, run15, run16, run17, run18, run19, run20, run21, run22, reduceCtorEq, Nat.reduceEqDiff, Nat.reduceAdd, Nat.reduceSub, Nat.reduceLeDiff, indexAddrA, indexRefA, appendA, strA, Nat.reduceMul, Nat.zero_mul, Nat.reduceMod, Int.reduceEq, Int.reduceLT, Int.reduceLE, Nat.reduceLT, Nat.lt_irrefl, Nat.reduceBEq, tys0, tys1, tys2, tys3, tys4, tys5, tys6, tys7, tys8, tys9, tys10, Try.ntmps68, Try.results68, w1, p1, p2, p3, p4, p5, p6, p7, elems_length, Int.toNat_natCast, Int.natCast_nonneg]
          refine ⟨by kernel_rfl, ?_⟩
          have w2 : IntKind.i64.wrap (k + c) = k + c := by
            have := b2.2.2.1
            have := b2.2.2.2.1
            have := bx.2.2.1
            have := bx.2.2.2
            have hdb : d.len + (q.len + 1) = b.len := by rw [h1, len_app]; rfl
            have : m * (d.len : Int) ≤ 1099511627776 * 1048576 := Int.mul_le_mul hm (by omega) (by omega) (by omega)
            exact w64_id (by omega) (by omega)
          have p9 : (elems o2 ++ elems tl).set o3.len (.agg [.sl false (elems x), .int .i64 (k + c)]) = elems (o3.app (cons x (k + c) nil)) ++ elems tl := by
            have hl3 : (elems o3).length = o3.len := elems_length o3
            rw [ho2, elems_app, elems_app, List.append_assoc, List.append_assoc, ← hl3, List.set_append_right _ _ (Nat.le_refl _), Nat.sub_self]; rfl
          have p10 : (o3.app (cons x (k + c) nil)).len = o2.len := by rw [len_app, q1]; rfl
          have hadd : addEnd e c (pop e o) = o3.app (cons x (k + c) nil) := by
            rw [← h5, ho2, pop_snoc, if_neg hc, addEnd_snoc, if_pos hq]
          simp only [run0, run1, run2, run3, run4, run5, run6, run7, run8, run9, run10, run11, run12, run13, run14, run15, run16, run17, run18, run19, run20, run21, run22, reduceCtorEq, Nat.reduceEqDiff, Nat.reduceAdd, Nat.reduceSub, Nat.reduceLeDiff, indexAddrA, indexRefA, appendA, strA, Nat.reduceMul, Nat.zero_mul, Nat.reduceMod, Int.reduceEq, Int.reduceLT, Int.reduceLE, Nat.reduceLT, Nat.lt_irrefl, Nat.reduceBEq, tys0, tys1, tys2, tys3, tys4, tys5, tys6, tys7, tys8, tys9, tys10, Try.ntmps68, Try.results68, w1, w2, v2, p1, p2, p3, p4, p5, p6, p7, p9, e5, elems_length, Int.toNat_natCast, Int.natCast_nonneg]
          refine ⟨⟨d.app (cons e c nil), q, o3.app (cons x (k + c) nil), tl, g, X ++ [.box 53 [.sl false (elems e), .int .i64 c]]⟩, ⟨hn.symm, by rw [← hadd, ← odPlusT_cons]; exact h2, by simp only [p10, hd1]; omega, ?_⟩, by simp [len], by simp only [p10]; repeat constructor, by simp only [p10]⟩
          simp only [hd1]
          rw [ho2] at h7
          have hmm : m + m * (d.len : Int) + m ≤ m + m * ((d.len + 1 : Nat) : Int) := by rw [Int.natCast_add, Int.mul_add]; omega
          exact bnd_app.2 ⟨bnd_mono hm1 (bnd_app.1 h7).1, b2.1, b2.2.1, by have := b2.2.2.1; have := bx.2.2.1; omega, by have := b2.2.2.2.1; have := bx.2.2.2; omega, trivial⟩
        · have w1 : (cmpT x e == 0) = false := by simp [hq]
          simp only [run0, run1, run2, run3, run4, run5, run6, run7, run8, run9, run10, run11, run12, run13, run14, run15, run16, run17, run18, run19, run20, run21, run22, reduceCtorEq, Nat.reduceEqDiff, Nat.reduceAdd, Nat.reduceSub, Nat.reduceLeDiff, indexAddrA, indexRefA, appendA, strA, Nat.reduceMul, Nat.zero_mul, Nat.reduceMod, Int.reduceEq, Int.reduceLT, Int.reduceLE, Nat.reduceLT, Nat.lt_irrefl, Nat.reduceBEq, tys0, tys1, tys2, tys3, tys4, tys5, tys6, tys7, tys8, tys9, tys10, Try.ntmps68, Try.results68, w1, p1, p2, p3, p4, p5, p6, p7, elems_length, Int.toNat_natCast, Int.natCast_nonneg]
          have hadd : addEnd e c (pop e o) = o2.app (cons e c nil) := by
            rw [← h5, ho2, pop_snoc, if_neg hc, addEnd_snoc, if_neg hq, app_assoc]; rfl
          by_cases ht : tl.len = 0
          · have htl : tl = nil := by cases tl with
              | nil => rfl
              | cons _ _ _ => simp [len] at ht
            have v5 : (o2.len = o2.len + tl.len) = True := eq_true (by omega)
            simp only [run0, run1, run2, run3, run4, run5, run6, run7, run8, run9, run10, run11, run12, run13, run14, run15, run16, run17, run18, run19, run20, run21, run22, reduceCtorEq, Nat.reduceEqDiff, Nat.reduceAdd, Nat.reduceSub, Nat.reduceLeDiff, indexAddrA, indexRefA, appendA, strA, Nat.reduceMul, Nat.zero_mul, Nat.reduceMod, Int.reduceEq, Int.reduceLT, Int.reduceLE, Nat.reduceLT, Nat.lt_irrefl, Nat.reduceBEq, tys0, tys1, tys2, tys3, tys4, tys5, tys6, tys7, tys8, tys9, tys10, Try.ntmps68, Try.results68, v1, v2, v5, e5, elems_length]
            subst htl
            exact ⟨⟨d.app (cons e c nil), q, o2.app (cons e c nil), nil, g + 1, X ++ [.box 53 [.sl false (elems e), .int .i64 c]]⟩, step hadd, by simp [len], by simp only [len_app, elems_app, elems, pay, len, List.append_nil, List.nil_append]; repeat constructor, by simp only [len_app, elems_app, elems, pay, len, List.append_nil, List.nil_append]⟩
          · have v5 : (o2.len = o2.len + tl.len) = False := eq_false (by omega)
            simp only [run0, run1, run2, run3, run4, run5, run6, run7, run8, run9, run10, run11, run12, run13, run14, run15, run16, run17, run18, run19, run20, run21, run22, reduceCtorEq, Nat.reduceEqDiff, Nat.reduceAdd, Nat.reduceSub, Nat.reduceLeDiff, indexAddrA, indexRefA, appendA, strA, Nat.reduceMul, Nat.zero_mul, Nat.reduceMod, Int.reduceEq, Int.reduceLT, Int.reduceLE, Nat.reduceLT, Nat.lt_irrefl, Nat.reduceBEq, tys0, tys1, tys2, tys3, tys4, tys5, tys6, tys7, tys8, tys9, tys10, Try.ntmps68, Try.results68, v1, v2, v3, v4, v5, e5, elems_length]
            exact ⟨⟨d.app (cons e c nil), q, o2.app (cons e c nil), nil, g + 2, X ++ [.box 53 [.sl false (elems e), .int .i64 c]]⟩, step hadd, by simp [len], by simp only [len_app, elems_app, elems, pay, len, List.append_nil, List.nil_append]; repeat constructor, by simp only [len_app, elems_app, elems, pay, len, List.append_nil, List.nil_append]⟩

end Go.Proofs.Ytcgnpijbdgbffaa
