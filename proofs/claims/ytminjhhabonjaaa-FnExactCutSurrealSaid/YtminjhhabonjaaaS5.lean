/-
  Surreals: the laws' marks.
-/
import Derived.Test.YtminjhhabonjaaaS4
namespace Go.Proofs.Ytminjhhabonjaaa
open Go K Su
set_option linter.unusedSimpArgs false
set_option linter.unusedVariables false
set_option maxHeartbeats 400000

/-- A tree whose coefficients are the numbers from 'k' on. -/
def mk : Su → Int → Su
  | .nil, _ => .nil
  | .cons e _ r, k => .cons (mk e k) (k + 2 * e.sz, k + 2 * e.sz + 1) (mk r (k + 2 * e.sz + 2))
theorem mk_len : ∀ (a : Su) (k : Int), (mk a k).len = a.len
  | .nil, _ => rfl
  | .cons e c r, k => by simp [mk, len, mk_len r]
theorem mk_sz : ∀ (a : Su) (k : Int), (mk a k).sz = a.sz
  | .nil, _ => rfl
  | .cons e c r, k => by simp [mk, sz, mk_sz e, mk_sz r]
theorem mk_app : ∀ (d r : Su) (k : Int), mk (d.app r) k = (mk d k).app (mk r (k + 2 * d.sz))
  | .nil, r, k => by simp [mk, app, sz]
  | .cons e c d, r, k => by
    simp only [mk, app, sz, mk_app d r]
    rw [show k + 2 * (e.sz : Int) + 2 + 2 * (d.sz : Int) = k + 2 * ((e.sz + d.sz + 1 : Nat) : Int) by omega]

theorem held_ok (a : Su) (k : Int) (h0 : 0 ≤ k) (hk : k + 2 * a.sz ≤ 4611686018427387904) : Ct Try.prog 33 [.sl false (elems (mk a k)), .int .i64 k] [] (.int .i64 (k + 2 * a.sz)) [] := by
  have hl := len_le a
  refine Ct.by_ hmix [] Try.func33 rfl ?_
  simp only [run0, run1, run2, run3, run4, run5, run6, run7, run8, run9, run10, run11, run12, run13, run14, run15, run16, run17, run18, run19, run20, run21, run22, reduceCtorEq, Nat.reduceEqDiff, Nat.reduceAdd, Nat.reduceSub, Nat.reduceLeDiff, indexAddrA, indexRefA, appendA, strA, Nat.reduceMul, Nat.zero_mul, Nat.reduceMod, Int.reduceEq, Int.reduceLT, Int.reduceLE, Nat.reduceLT, Nat.lt_irrefl, Nat.reduceBEq, tys0, tys1, tys2, tys3, tys4, tys5, tys6, tys7, tys8, tys9, tys10, tys11, tys12, tys13, tys14, tys15, tys16, tys17, tys18, tys19, tys20, tys21, tys22, tys23, Try.ntmps33, Try.results33]
  refine AWp.loop_inv (ι := Su × Su) (fun p => ⟨[.sl false (elems (mk a k)), .int .i64 (k + 2 * p.1.sz), .junk, .junk, .int .i64 0, .int .i64 p.1.len, .junk, .junk, .junk, .junk, .junk, .junk, .junk, .junk, .junk, .junk, .junk, .junk, .junk, .junk, .junk, .junk, .junk, .junk, .junk, .junk, .junk, .junk, .junk, .junk, .junk, .junk, .junk, .junk, .junk, .junk, .junk, .junk, .junk, .junk, .junk, .junk, .junk], []⟩)
    (fun p => a = p.1.app p.2) (fun p => p.2.len) (.nil, a) rfl ⟨by simp only [sz, len, Int.natCast_zero, Int.mul_zero, Int.add_zero]; repeat constructor, rfl⟩ ?_
  rintro ⟨d, r⟩ ha
  refine W.sound hmix (E := []) ?_
  simp only at ha
  have hda : d.len + r.len = a.len := by rw [ha, len_app]
  cases r with
  | nil =>
    have e1 : ¬ ((d.len : Int) < (a.len : Int)) := by simp [len] at hda; omega
    simp only [run0, run1, run2, run3, run4, run5, run6, run7, run8, run9, run10, run11, run12, run13, run14, run15, run16, run17, run18, run19, run20, run21, run22, reduceCtorEq, Nat.reduceEqDiff, Nat.reduceAdd, Nat.reduceSub, Nat.reduceLeDiff, indexAddrA, indexRefA, appendA, strA, Nat.reduceMul, Nat.zero_mul, Nat.reduceMod, Int.reduceEq, Int.reduceLT, Int.reduceLE, Nat.reduceLT, Nat.lt_irrefl, Nat.reduceBEq, tys0, tys1, tys2, tys3, tys4, tys5, tys6, tys7, tys8, tys9, tys10, tys11, tys12, tys13, tys14, tys15, tys16, tys17, tys18, tys19, tys20, tys21, tys22, tys23, Try.ntmps33, Try.results33, elems_length, mk_len, e1]
    refine Fin.eq ?_ rfl
    rw [ha, app_nil]
  | cons e c r =>
    simp only [len] at hda
    have e1 : (d.len : Int) < (a.len : Int) := by omega
    have hsz : a.sz = d.sz + (e.sz + r.sz + 1) := by rw [ha, sz_app]; rfl
    have e2 : (elems (mk a k))[d.len]? = some (.agg (.sl false (elems (mk e (k + 2 * d.sz))) :: pay (k + 2 * d.sz + 2 * e.sz, k + 2 * d.sz + 2 * e.sz + 1))) := by
      rw [ha, mk_app, ← mk_len d k]; exact elems_get _ _ _ _
    have e5 : IntKind.i64.wrap ((d.len : Int) + 1) = ((d.app (cons e c nil)).len : Int) := by
      rw [show IntKind.i64.wrap ((d.len : Int) + 1) = _ from wr_id (by omega) (by omega), len_app]; simp [len]
    have e6 : IntKind.i64.wrap (k + 2 * (d.sz : Int) + 2 * (e.sz : Int) + 1) = k + 2 * (d.sz : Int) + 2 * (e.sz : Int) + 1 := wr_id (by omega) (by omega)
    have e8 : IntKind.i64.wrap (k + 2 * (d.sz : Int) + 2 * (e.sz : Int) + 1 + 1) = k + 2 * ((d.app (cons e c nil)).sz : Int) := by
      rw [show IntKind.i64.wrap (k + 2 * (d.sz : Int) + 2 * (e.sz : Int) + 1 + 1) = _ from wr_id (by omega) (by omega), sz_app]; simp only [sz]; omega
    have e7 : ¬ (k + 2 * (d.sz : Int) + 2 * (e.sz : Int) < 0) := by omega
    have hlt : e.sz < a.sz := by omega
    simp only [run0, run1, run2, run3, run4, run5, run6, run7, run8, run9, run10, run11, run12, run13, run14, run15, run16, run17, run18, run19, run20, run21, run22, reduceCtorEq, Nat.reduceEqDiff, Nat.reduceAdd, Nat.reduceSub, Nat.reduceLeDiff, indexAddrA, indexRefA, appendA, strA, Nat.reduceMul, Nat.zero_mul, Nat.reduceMod, Int.reduceEq, Int.reduceLT, Int.reduceLE, Nat.reduceLT, Nat.lt_irrefl, Nat.reduceBEq, tys0, tys1, tys2, tys3, tys4, tys5, tys6, tys7, tys8, tys9, tys10, tys11, tys12, tys13, tys14, tys15, tys16, tys17, tys18, tys19, tys20, tys21, tys22, tys23, Try.ntmps33, Try.results33, elems_length, mk_len, e1, e2, pay, Int.toNat_natCast, Int.natCast_nonneg]
    refine RunL.callp rfl rfl ok_f33 (held_ok e (k + 2 * d.sz) (by omega) (by omega)) (by first | rfl | simp only [pureL, pureB, Bool.and_self, Bool.and_true, Bool.true_and, Su.elems_pure, Su.pay_pure, Su.av_pure]) rfl ?_
    simp only [run0, run1, run2, run3, run4, run5, run6, run7, run8, run9, run10, run11, run12, run13, run14, run15, run16, run17, run18, run19, run20, run21, run22, reduceCtorEq, Nat.reduceEqDiff, Nat.reduceAdd, Nat.reduceSub, Nat.reduceLeDiff, indexAddrA, indexRefA, appendA, strA, Nat.reduceMul, Nat.zero_mul, Nat.reduceMod, Int.reduceEq, Int.reduceLT, Int.reduceLE, Nat.reduceLT, Nat.lt_irrefl, Nat.reduceBEq, tys0, tys1, tys2, tys3, tys4, tys5, tys6, tys7, tys8, tys9, tys10, tys11, tys12, tys13, tys14, tys15, tys16, tys17, tys18, tys19, tys20, tys21, tys22, tys23, Try.ntmps33, Try.results33, elems_length, mk_len, e1, e2, pay, Int.toNat_natCast, Int.natCast_nonneg, e7, e5, e6, e8, bne_self_eq_false]
    exact ⟨(d.app (cons e c nil), r), by rw [app_assoc]; exact ha, by simp [len], by repeat constructor⟩
termination_by a.sz

theorem heldSurreal_ok (a : Su) (k : Int) (h0 : 0 ≤ k) (hk : k + 2 * a.sz ≤ 4611686018427387904) : Ct Try.prog 16 [.agg [.sl false (elems (mk a k))], .int .i64 k] [] (.int .i64 (k + 2 * a.sz)) [] := by
  have e7 : ¬ (k + 2 * (a.sz : Int) < 0) := by omega
  refine Ct.by_ hmix [] Try.func16 rfl ?_
  simp only [run0, run1, run2, run3, run4, run5, run6, run7, run8, run9, run10, run11, run12, run13, run14, run15, run16, run17, run18, run19, run20, run21, run22, reduceCtorEq, Nat.reduceEqDiff, Nat.reduceAdd, Nat.reduceSub, Nat.reduceLeDiff, indexAddrA, indexRefA, appendA, strA, Nat.reduceMul, Nat.zero_mul, Nat.reduceMod, Int.reduceEq, Int.reduceLT, Int.reduceLE, Nat.reduceLT, Nat.lt_irrefl, Nat.reduceBEq, tys0, tys1, tys2, tys3, tys4, tys5, tys6, tys7, tys8, tys9, tys10, tys11, tys12, tys13, tys14, tys15, tys16, tys17, tys18, tys19, tys20, tys21, tys22, tys23, Try.ntmps16, Try.results16]
  refine RunL.callp rfl rfl ok_f33 (held_ok a k h0 hk) (by first | rfl | simp only [pureL, pureB, Bool.and_self, Bool.and_true, Bool.true_and, Su.elems_pure, Su.pay_pure, Su.av_pure]) rfl ?_
  simp only [run0, run1, run2, run3, run4, run5, run6, run7, run8, run9, run10, run11, run12, run13, run14, run15, run16, run17, run18, run19, run20, run21, run22, reduceCtorEq, Nat.reduceEqDiff, Nat.reduceAdd, Nat.reduceSub, Nat.reduceLeDiff, indexAddrA, indexRefA, appendA, strA, Nat.reduceMul, Nat.zero_mul, Nat.reduceMod, Int.reduceEq, Int.reduceLT, Int.reduceLE, Nat.reduceLT, Nat.lt_irrefl, Nat.reduceBEq, tys0, tys1, tys2, tys3, tys4, tys5, tys6, tys7, tys8, tys9, tys10, tys11, tys12, tys13, tys14, tys15, tys16, tys17, tys18, tys19, tys20, tys21, tys22, tys23, Try.ntmps16, Try.results16, e7]
  exact Fin.eq rfl rfl

/-! ### marks laid -/
structure MkS where
  d : Su
  r : Su
  es : List AV
  fs : List AV
  L : List AObj
  S1 : List Nat
  S2 : List Nat

theorem mk_one (d : Su) (e : Su) (c : Int × Int) (k : Int) : mk (d.app (cons e c nil)) k = (mk d k).app (cons (mk e (k + 2 * d.sz)) (k + 2 * d.sz + 2 * e.sz, k + 2 * d.sz + 2 * e.sz + 1) nil) := by
  rw [mk_app]; rfl

theorem mark_ok (a : Su) (x : AV) (S : List Nat) (L0 : List AObj) (k : Int) (ho : OwnR L0 62 3 a x S) (hn : S.Nodup) (h0 : 0 ≤ k) (hk : k + 2 * a.sz ≤ 4611686018427387904) :
    ∃ L', Ct Try.prog 32 [x, .int .i64 k] L0 (.int .i64 (k + 2 * a.sz)) L' ∧ OwnR L' 62 3 (mk a k) x S ∧ (∀ id, id ∉ S → L'[id]? = L0[id]?) ∧ L'.length = L0.length := by
  have hl := len_le a
  rcases ho with ⟨rfl, rfl, rfl⟩ | ⟨id, g, es0, S0, rfl, hL, rfl, ho⟩
  · refine ⟨L0, ?_, .inl ⟨rfl, rfl, rfl⟩, fun _ _ => rfl, rfl⟩
    refine Ct.by_ hmix [] Try.func32 rfl ?_
    simp only [run0, run1, run2, run3, run4, run5, run6, run7, run8, run9, run10, run11, run12, run13, run14, run15, run16, run17, run18, run19, run20, run21, run22, reduceCtorEq, Nat.reduceEqDiff, Nat.reduceAdd, Nat.reduceSub, Nat.reduceLeDiff, indexAddrA, indexRefA, appendA, strA, Nat.reduceMul, Nat.zero_mul, Nat.reduceMod, Int.reduceEq, Int.reduceLT, Int.reduceLE, Nat.reduceLT, Nat.lt_irrefl, Nat.reduceBEq, tys0, tys1, tys2, tys3, tys4, tys5, tys6, tys7, tys8, tys9, tys10, tys11, tys12, tys13, tys14, tys15, tys16, tys17, tys18, tys19, tys20, tys21, tys22, tys23, Try.ntmps32, Try.results32, nilV]
    refine AWp.loop_inv (ι := Unit) (fun _ => ⟨[.lit (.slice none 0 0), .int .i64 k, .junk, .junk, .int .i64 0, .int .i64 0, .junk, .junk, .junk, .junk, .junk, .junk, .junk, .junk, .junk, .junk, .junk, .junk, .junk, .junk, .junk, .junk, .junk, .junk, .junk, .junk, .junk, .junk, .junk, .junk, .junk, .junk, .junk, .junk, .junk, .junk, .junk], L0⟩) (fun _ => True) (fun _ => 0) () trivial ⟨by repeat constructor, rfl⟩ ?_
    rintro _ _
    refine W.sound hmix (E := []) ?_
    simp only [run0, run1, run2, run3, run4, run5, run6, run7, run8, run9, run10, run11, run12, run13, run14, run15, run16, run17, run18, run19, run20, run21, run22, reduceCtorEq, Nat.reduceEqDiff, Nat.reduceAdd, Nat.reduceSub, Nat.reduceLeDiff, indexAddrA, indexRefA, appendA, strA, Nat.reduceMul, Nat.zero_mul, Nat.reduceMod, Int.reduceEq, Int.reduceLT, Int.reduceLE, Nat.reduceLT, Nat.lt_irrefl, Nat.reduceBEq, tys0, tys1, tys2, tys3, tys4, tys5, tys6, tys7, tys8, tys9, tys10, tys11, tys12, tys13, tys14, tys15, tys16, tys17, tys18, tys19, tys20, tys21, tys22, tys23, Try.ntmps32, Try.results32, Int.lt_irrefl]
    exact Fin.own rfl (by simp [sz])
  suffices h : ∃ r L', Ct Try.prog 32 [.ref id [] g es0.length, .int .i64 k] L0 r L' ∧ (r = .int .i64 (k + 2 * a.sz) ∧ OwnR L' 62 3 (mk a k) (.ref id [] g es0.length) (id :: S0) ∧ (∀ id1, id1 ∉ id :: S0 → L'[id1]? = L0[id1]?) ∧ L'.length = L0.length) by
    obtain ⟨r, L', h1, rfl, h2⟩ := h
    exact ⟨L', h1, h2⟩
  have hel0 := ho.length
  refine Ct.ex hmix [] Try.func32 rfl ?_
  simp only [run0, run1, run2, run3, run4, run5, run6, run7, run8, run9, run10, run11, run12, run13, run14, run15, run16, run17, run18, run19, run20, run21, run22, reduceCtorEq, Nat.reduceEqDiff, Nat.reduceAdd, Nat.reduceSub, Nat.reduceLeDiff, indexAddrA, indexRefA, appendA, strA, Nat.reduceMul, Nat.zero_mul, Nat.reduceMod, Int.reduceEq, Int.reduceLT, Int.reduceLE, Nat.reduceLT, Nat.lt_irrefl, Nat.reduceBEq, tys0, tys1, tys2, tys3, tys4, tys5, tys6, tys7, tys8, tys9, tys10, tys11, tys12, tys13, tys14, tys15, tys16, tys17, tys18, tys19, tys20, tys21, tys22, tys23, Try.ntmps32, Try.results32]
  rw [hel0]
  refine AWp.loop_exK (ι := MkS) (fun p => ⟨[.ref id [] g a.len, .int .i64 (k + 2 * p.d.sz), .junk, .junk, .int .i64 0, .int .i64 p.d.len, .junk, .junk, .junk, .junk, .junk, .junk, .junk, .junk, .junk, .junk, .junk, .junk, .junk, .junk, .junk, .junk, .junk, .junk, .junk, .junk, .junk, .junk, .junk, .junk, .junk, .junk, .junk, .junk, .junk, .junk, .junk], p.L⟩)
    (fun p => a = p.d.app p.r ∧ p.L[id]? = some (.vec 62 3 g (p.es ++ p.fs)) ∧ OwnE p.L 62 3 (mk p.d k) p.es p.S1 ∧ OwnE p.L 62 3 p.r p.fs p.S2 ∧ S0 = p.S1 ++ p.S2 ∧
      (∀ id1, id1 ∉ id :: S0 → p.L[id1]? = L0[id1]?) ∧ p.L.length = L0.length) (fun p => p.r.len) ⟨.nil, a, [], es0, L0, [], S0⟩
    ⟨rfl, hL, ⟨rfl, rfl⟩, ho, rfl, fun _ _ => rfl, rfl⟩ ⟨by simp only [sz, len, Int.natCast_zero, Int.mul_zero, Int.add_zero]; repeat constructor, rfl⟩ ?_
  rintro ⟨d, r, es, fs, L, S1, S2⟩ ⟨ha, hLid, h1, h2, hS, hfr, hLl⟩
  simp only at ha hLid h1 h2 hS hfr hLl
  have hda : d.len + r.len = a.len := by rw [ha, len_app]
  have hel := h1.length
  rw [mk_len] at hel
  obtain ⟨hid, hn0⟩ := List.nodup_cons.1 hn
  have hnow : eptrNow L id g = true := by simp [eptrNow, hLid]
  cases r with
  | nil =>
    left
    obtain ⟨rfl, rfl⟩ := h2
    have e1 : ¬ ((d.len : Int) < (a.len : Int)) := by simp [len] at hda; omega
    refine ⟨.int .i64 (k + 2 * d.sz), L, ?_, by rw [ha, app_nil], .inr ⟨id, g, es, S1, by rw [hel]; simp [len] at hda; rw [hda], by simpa using hLid, by rw [hS]; simp, by rw [ha, app_nil]; exact h1⟩, hfr, hLl⟩
    refine W.sound hmix (E := []) ?_
    simp only [run0, run1, run2, run3, run4, run5, run6, run7, run8, run9, run10, run11, run12, run13, run14, run15, run16, run17, run18, run19, run20, run21, run22, reduceCtorEq, Nat.reduceEqDiff, Nat.reduceAdd, Nat.reduceSub, Nat.reduceLeDiff, indexAddrA, indexRefA, appendA, strA, Nat.reduceMul, Nat.zero_mul, Nat.reduceMod, Int.reduceEq, Int.reduceLT, Int.reduceLE, Nat.reduceLT, Nat.lt_irrefl, Nat.reduceBEq, tys0, tys1, tys2, tys3, tys4, tys5, tys6, tys7, tys8, tys9, tys10, tys11, tys12, tys13, tys14, tys15, tys16, tys17, tys18, tys19, tys20, tys21, tys22, tys23, Try.ntmps32, Try.results32, e1, hLid]
    exact Fin.own rfl rfl
  | cons e c r =>
    right
    simp only [len] at hda
    rw [OwnE_cons] at h2
    obtain ⟨y, fs, Sy, S2, rfl, rfl, hy, h2⟩ := h2
    have e1 : (d.len : Int) < (a.len : Int) := by omega
    have hsz : a.sz = d.sz + (e.sz + r.sz + 1) := by rw [ha, sz_app]; rfl
    have hlt : e.sz < a.sz := by omega
    have e5 : IntKind.i64.wrap ((d.len : Int) + 1) = ((d.app (cons e c nil)).len : Int) := by
      rw [show IntKind.i64.wrap ((d.len : Int) + 1) = _ from wr_id (by omega) (by omega), len_app]; simp [len]
    have e6 : IntKind.i64.wrap (k + 2 * (d.sz : Int) + 2 * (e.sz : Int) + 1) = k + 2 * (d.sz : Int) + 2 * (e.sz : Int) + 1 := wr_id (by omega) (by omega)
    have e8 : IntKind.i64.wrap (k + 2 * (d.sz : Int) + 2 * (e.sz : Int) + 1 + 1) = k + 2 * ((d.app (cons e c nil)).sz : Int) := by
      rw [show IntKind.i64.wrap (k + 2 * (d.sz : Int) + 2 * (e.sz : Int) + 1 + 1) = _ from wr_id (by omega) (by omega), sz_app]; simp only [sz]; omega
    rw [hS] at hn0 hid
    simp only [List.nodup_append, List.mem_append, not_or] at hn0 hid
    obtain ⟨hn1, ⟨hny, hn2, hd2⟩, hd1⟩ := hn0
    obtain ⟨hid1, hidy, hid2⟩ := hid
    obtain ⟨L1, hc, hy1, hfr1, hLl1⟩ := mark_ok e y Sy L (k + 2 * d.sz) hy hny (by omega) (by omega)
    have hL1id : L1[id]? = some (.vec 62 3 g (es ++ .agg (y :: pay c) :: fs)) := by rw [hfr1 id hidy]; exact hLid
    have hidlt : id < L1.length := (List.getElem?_eq_some_iff.1 hL1id).1
    have gE : ∀ z : AV, (es ++ z :: fs)[d.len]? = some z := fun z => by rw [← hel]; simp
    have sE : ∀ z z' : AV, (es ++ z :: fs).set d.len z' = es ++ z' :: fs := fun z z' => by rw [← hel]; simp [List.set_append]
    have nE : ∀ u v : Int, noOwn (es ++ .agg [y, .int .i64 u, .int .i64 v] :: fs) = true := fun u v => by
      have h3 := h1.form.2.1
      have h4 := (OwnE.app h2 (OwnE.one hy (u, v))).form.2.1
      refine List.all_eq_true.2 fun z hz => ?_
      rcases List.mem_append.1 hz with hz | hz
      · exact List.all_eq_true.1 h3 z hz
      · exact List.all_eq_true.1 h4 z hz
    have hset : ∀ X, (L1.set id X)[id]? = some X := fun X => List.getElem?_set_self hidlt
    have hm1 : ∀ id1 ∈ S1, ∀ g1 es1, L[id1]? = some (.vec 62 3 g1 es1) → (L1.set id (.vec 62 3 g ((es ++ [.agg [y, .int .i64 (k + 2 * d.sz + 2 * e.sz), .int .i64 (k + 2 * d.sz + 2 * e.sz + 1)]]) ++ fs)))[id1]? = some (.vec 62 3 g1 es1) := by
      intro id1 hi g1 es1 h
      rw [List.getElem?_set_ne (fun q : id = id1 => hid1 (by rw [q]; exact hi)), hfr1 id1 (fun q => hd1 id1 hi id1 (.inl q) rfl)]
      exact h
    have hm2 : ∀ id1 ∈ S2, ∀ g1 es1, L[id1]? = some (.vec 62 3 g1 es1) → (L1.set id (.vec 62 3 g ((es ++ [.agg [y, .int .i64 (k + 2 * d.sz + 2 * e.sz), .int .i64 (k + 2 * d.sz + 2 * e.sz + 1)]]) ++ fs)))[id1]? = some (.vec 62 3 g1 es1) := by
      intro id1 hi g1 es1 h
      rw [List.getElem?_set_ne (fun q : id = id1 => hid2 (by rw [q]; exact hi)), hfr1 id1 (fun q => hd2 id1 q id1 hi rfl)]
      exact h
    refine ⟨⟨d.app (cons e c nil), r, es ++ [.agg [y, .int .i64 (k + 2 * d.sz + 2 * e.sz), .int .i64 (k + 2 * d.sz + 2 * e.sz + 1)]], fs, L1.set id (.vec 62 3 g ((es ++ [.agg [y, .int .i64 (k + 2 * d.sz + 2 * e.sz), .int .i64 (k + 2 * d.sz + 2 * e.sz + 1)]]) ++ fs)), S1 ++ Sy, S2⟩,
      ⟨by rw [app_assoc]; exact ha, by simp [hidlt], ?_, h2.mono hm2, by rw [hS]; simp, fun id1 hi => ?_, by simp [hLl1, hLl]⟩, by simp [len], ?_⟩
    · rw [mk_one]
      exact OwnE.app (OwnE.one (hy1.set hidy) _) (h1.mono hm1)
    · have hi' := hi
      rw [hS] at hi'
      simp only [List.mem_cons, List.mem_append, not_or] at hi'
      rw [List.getElem?_set_ne (fun q => hi'.1 q.symm), hfr1 id1 hi'.2.2.1]
      exact hfr id1 hi
    · refine W.sound hmix (E := []) ?_
      simp only [pay] at hLid hL1id
      rcases hy.shape with rfl | ⟨id2, g2, n2, rfl⟩
      · simp only [nilV] at hLid hL1id nE hc
        simp only [run0, run1, run2, run3, run4, run5, run6, run7, run8, run9, run10, run11, run12, run13, run14, run15, run16, run17, run18, run19, run20, run21, run22, reduceCtorEq, Nat.reduceEqDiff, Nat.reduceAdd, Nat.reduceSub, Nat.reduceLeDiff, indexAddrA, indexRefA, appendA, strA, Nat.reduceMul, Nat.zero_mul, Nat.reduceMod, Int.reduceEq, Int.reduceLT, Int.reduceLE, Nat.reduceLT, Nat.lt_irrefl, Nat.reduceBEq, tys0, tys1, tys2, tys3, tys4, tys5, tys6, tys7, tys8, tys9, tys10, tys11, tys12, tys13, tys14, tys15, tys16, tys17, tys18, tys19, tys20, tys21, tys22, tys23, Try.ntmps32, Try.results32, e1, hLid, gE, Int.toNat_natCast, Int.natCast_nonneg, List.mapIdx_cons, List.mapIdx_nil, viewC]
        refine RunL.call rfl rfl rfl ok_f32 rfl (.inl rfl) hc ?_
        simp only [run0, run1, run2, run3, run4, run5, run6, run7, run8, run9, run10, run11, run12, run13, run14, run15, run16, run17, run18, run19, run20, run21, run22, reduceCtorEq, Nat.reduceEqDiff, Nat.reduceAdd, Nat.reduceSub, Nat.reduceLeDiff, indexAddrA, indexRefA, appendA, strA, Nat.reduceMul, Nat.zero_mul, Nat.reduceMod, Int.reduceEq, Int.reduceLT, Int.reduceLE, Nat.reduceLT, Nat.lt_irrefl, Nat.reduceBEq, tys0, tys1, tys2, tys3, tys4, tys5, tys6, tys7, tys8, tys9, tys10, tys11, tys12, tys13, tys14, tys15, tys16, tys17, tys18, tys19, tys20, tys21, tys22, tys23, Try.ntmps32, Try.results32, e1, hL1id, gE, sE, nE, hset, e5, e6, e8, List.set_set, Int.toNat_natCast, Int.natCast_nonneg, setE]
        repeat constructor
      · simp only [run0, run1, run2, run3, run4, run5, run6, run7, run8, run9, run10, run11, run12, run13, run14, run15, run16, run17, run18, run19, run20, run21, run22, reduceCtorEq, Nat.reduceEqDiff, Nat.reduceAdd, Nat.reduceSub, Nat.reduceLeDiff, indexAddrA, indexRefA, appendA, strA, Nat.reduceMul, Nat.zero_mul, Nat.reduceMod, Int.reduceEq, Int.reduceLT, Int.reduceLE, Nat.reduceLT, Nat.lt_irrefl, Nat.reduceBEq, tys0, tys1, tys2, tys3, tys4, tys5, tys6, tys7, tys8, tys9, tys10, tys11, tys12, tys13, tys14, tys15, tys16, tys17, tys18, tys19, tys20, tys21, tys22, tys23, Try.ntmps32, Try.results32, e1, hLid, gE, Int.toNat_natCast, Int.natCast_nonneg, List.mapIdx_cons, List.mapIdx_nil, viewC]
        refine RunL.call rfl rfl rfl ok_f32 rfl (.inl rfl) hc ?_
        simp only [run0, run1, run2, run3, run4, run5, run6, run7, run8, run9, run10, run11, run12, run13, run14, run15, run16, run17, run18, run19, run20, run21, run22, reduceCtorEq, Nat.reduceEqDiff, Nat.reduceAdd, Nat.reduceSub, Nat.reduceLeDiff, indexAddrA, indexRefA, appendA, strA, Nat.reduceMul, Nat.zero_mul, Nat.reduceMod, Int.reduceEq, Int.reduceLT, Int.reduceLE, Nat.reduceLT, Nat.lt_irrefl, Nat.reduceBEq, tys0, tys1, tys2, tys3, tys4, tys5, tys6, tys7, tys8, tys9, tys10, tys11, tys12, tys13, tys14, tys15, tys16, tys17, tys18, tys19, tys20, tys21, tys22, tys23, Try.ntmps32, Try.results32, e1, hL1id, gE, sE, nE, hset, e5, e6, e8, List.set_set, Int.toNat_natCast, Int.natCast_nonneg, setE]
        repeat constructor
termination_by a.sz

theorem markSurreal_ok (a : Su) (x : AV) (S : List Nat) (L0 : List AObj) (k : Int) (ho : OwnR L0 62 3 a x S) (hn : S.Nodup) (h0 : 0 ≤ k) (hk : k + 2 * a.sz ≤ 4611686018427387904) :
    ∃ L', Ct Try.prog 15 [.agg [x], .int .i64 k] L0 (.int .i64 (k + 2 * a.sz)) L' ∧ OwnR L' 62 3 (mk a k) x S ∧ (∀ id, id ∉ S → id < L0.length → L'[id]? = L0[id]?) ∧ L0.length ≤ L'.length := by
  obtain ⟨L1, hc, h1, h2, h3⟩ := mark_ok a x S (L0 ++ [.box 39 [x]]) k (ho.more _) hn h0 hk
  have hb : L1[L0.length]? = some (.box 39 [x]) := by
    rw [h2 _ (fun hi => by have := ho.lt _ hi; omega)]; simp
  refine ⟨L1, ?_, h1, fun id hi hlt => by rw [h2 id hi, List.getElem?_append_left hlt], by simp at h3; omega⟩
  rcases ho.shape with rfl | ⟨id2, g2, n2, rfl⟩
  · simp only [nilV] at hc hb
    refine Ct.by_ hmix [] Try.func15 rfl ?_
    simp only [run0, run1, run2, run3, run4, run5, run6, run7, run8, run9, run10, run11, run12, run13, run14, run15, run16, run17, run18, run19, run20, run21, run22, reduceCtorEq, Nat.reduceEqDiff, Nat.reduceAdd, Nat.reduceSub, Nat.reduceLeDiff, indexAddrA, indexRefA, appendA, strA, Nat.reduceMul, Nat.zero_mul, Nat.reduceMod, Int.reduceEq, Int.reduceLT, Int.reduceLE, Nat.reduceLT, Nat.lt_irrefl, Nat.reduceBEq, tys0, tys1, tys2, tys3, tys4, tys5, tys6, tys7, tys8, tys9, tys10, tys11, tys12, tys13, tys14, tys15, tys16, tys17, tys18, tys19, tys20, tys21, tys22, tys23, Try.ntmps15, Try.results15, nilV, List.getElem?_concat_length]
    refine RunL.call rfl rfl rfl ok_f32 rfl (.inl rfl) hc ?_
    simp only [run0, run1, run2, run3, run4, run5, run6, run7, run8, run9, run10, run11, run12, run13, run14, run15, run16, run17, run18, run19, run20, run21, run22, reduceCtorEq, Nat.reduceEqDiff, Nat.reduceAdd, Nat.reduceSub, Nat.reduceLeDiff, indexAddrA, indexRefA, appendA, strA, Nat.reduceMul, Nat.zero_mul, Nat.reduceMod, Int.reduceEq, Int.reduceLT, Int.reduceLE, Nat.reduceLT, Nat.lt_irrefl, Nat.reduceBEq, tys0, tys1, tys2, tys3, tys4, tys5, tys6, tys7, tys8, tys9, tys10, tys11, tys12, tys13, tys14, tys15, tys16, tys17, tys18, tys19, tys20, tys21, tys22, tys23, Try.ntmps15, Try.results15]
    exact Fin.own rfl rfl
  · refine Ct.by_ hmix [] Try.func15 rfl ?_
    simp only [run0, run1, run2, run3, run4, run5, run6, run7, run8, run9, run10, run11, run12, run13, run14, run15, run16, run17, run18, run19, run20, run21, run22, reduceCtorEq, Nat.reduceEqDiff, Nat.reduceAdd, Nat.reduceSub, Nat.reduceLeDiff, indexAddrA, indexRefA, appendA, strA, Nat.reduceMul, Nat.zero_mul, Nat.reduceMod, Int.reduceEq, Int.reduceLT, Int.reduceLE, Nat.reduceLT, Nat.lt_irrefl, Nat.reduceBEq, tys0, tys1, tys2, tys3, tys4, tys5, tys6, tys7, tys8, tys9, tys10, tys11, tys12, tys13, tys14, tys15, tys16, tys17, tys18, tys19, tys20, tys21, tys22, tys23, Try.ntmps15, Try.results15, List.getElem?_concat_length]
    refine RunL.call rfl rfl rfl ok_f32 rfl (.inl rfl) hc ?_
    simp only [run0, run1, run2, run3, run4, run5, run6, run7, run8, run9, run10, run11, run12, run13, run14, run15, run16, run17, run18, run19, run20, run21, run22, reduceCtorEq, Nat.reduceEqDiff, Nat.reduceAdd, Nat.reduceSub, Nat.reduceLeDiff, indexAddrA, indexRefA, appendA, strA, Nat.reduceMul, Nat.zero_mul, Nat.reduceMod, Int.reduceEq, Int.reduceLT, Int.reduceLE, Nat.reduceLT, Nat.lt_irrefl, Nat.reduceBEq, tys0, tys1, tys2, tys3, tys4, tys5, tys6, tys7, tys8, tys9, tys10, tys11, tys12, tys13, tys14, tys15, tys16, tys17, tys18, tys19, tys20, tys21, tys22, tys23, Try.ntmps15, Try.results15]
    exact Fin.own rfl rfl

end Go.Proofs.Ytminjhhabonjaaa
