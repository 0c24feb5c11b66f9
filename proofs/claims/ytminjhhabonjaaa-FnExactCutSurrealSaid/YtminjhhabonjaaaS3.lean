/-
  Surreals: the laws' copies of lists of terms.
-/
import Derived.Test.YtminjhhabonjaaaS2
namespace Go.Proofs.Ytminjhhabonjaaa
open Go K Su
set_option linter.unusedSimpArgs false
set_option linter.unusedVariables false
set_option maxHeartbeats 400000

structure ToS where
  d : Su
  r : Su
  es : List AV
  X : List AObj
  S : List Nat

def zE : AV := .agg [nilV, .int .i64 0, .int .i64 0]
theorem zE_c : zE.cells = [.lit (.slice none 0 0), .int .i64 0, .int .i64 0] := rfl
theorem zE_a : aggB zE = true := rfl
theorem zE_s (off n : Nat) (x : AV) : setE zE off n x = .agg ([.lit (.slice none 0 0), .int .i64 0, .int .i64 0].take off ++ x.cells ++ [.lit (.slice none 0 0), .int .i64 0, .int .i64 0].drop (off + n)) := rfl
theorem zE_noOwn (es : List AV) (n : Nat) (h : noOwn es = true) : noOwn (es ++ List.replicate n zE) = true := by
  refine List.all_eq_true.2 fun e he => ?_
  rcases List.mem_append.1 he with he | he
  · exact List.all_eq_true.1 h e he
  · rw [(List.mem_replicate.1 he).2]; rfl
theorem set_next (es : List AV) (n k : Nat) (z y : AV) (h : es.length = k) : (es ++ List.replicate (n + 1) z).set k y = (es ++ [y]) ++ List.replicate n z := by
  subst h
  simp [List.set_append, List.replicate_succ]
theorem get_next (es : List AV) (n k : Nat) (z : AV) (h : es.length = k) : (es ++ List.replicate (n + 1) z)[k]? = some z := by
  subst h
  simp [List.replicate_succ]

theorem toS_ok (a : Su) (hs : a.sz ≤ 1048576) : ∃ x M, Ct Try.prog 27 [.sl false (elems a)] [] x M ∧ Own M a x := by
  have hl := len_le a
  refine Ct.ex hmix [] Try.func27 rfl ?_
  have b0 : (a.len : Int) ≤ 137438953472 := by omega
  simp only [run0, run1, run2, run3, run4, run5, run6, run7, run8, run9, run10, run11, run12, run13, run14, run15, run16, run17, run18, run19, run20, run21, run22, reduceCtorEq, Nat.reduceEqDiff, Nat.reduceAdd, Nat.reduceSub, Nat.reduceLeDiff, indexAddrA, indexRefA, appendA, strA, Nat.reduceMul, Nat.zero_mul, Nat.reduceMod, Int.reduceEq, Int.reduceLT, Int.reduceLE, Nat.reduceLT, Nat.lt_irrefl, Nat.reduceBEq, tys0, tys1, tys2, tys3, tys4, tys5, tys6, tys7, tys8, tys9, tys10, tys11, tys12, tys13, tys14, tys15, tys16, tys17, tys18, tys19, tys20, tys21, tys22, tys23, Try.ntmps27, Try.results27, elems_length, b0, Int.natCast_nonneg, Int.le_refl, Int.toNat_natCast]
  refine AWp.loop_exK (ι := ToS) (fun p => ⟨[.sl false (elems a), .junk, .junk, .ref 0 [] 0 a.len, .int .i64 p.d.len, .junk, .junk, .junk, .junk, .junk, .junk, .junk, .junk, .junk, .junk, .junk, .junk, .junk, .junk, .junk, .junk, .junk, .junk], .vec 62 3 0 (p.es ++ List.replicate p.r.len zE) :: p.X⟩)
    (fun p => a = p.d.app p.r ∧ OwnE (.vec 62 3 0 (p.es ++ List.replicate p.r.len zE) :: p.X) 62 3 p.d p.es p.S ∧ p.S.Nodup ∧ 0 ∉ p.S) (fun p => p.r.len) ⟨.nil, a, [], [], []⟩ ⟨rfl, ⟨rfl, rfl⟩, by simp, by simp⟩ ⟨by repeat constructor, rfl⟩ ?_
  rintro ⟨d, r, es, X, S⟩ ⟨ha, ho, hn, h0⟩
  simp only at ha ho hn h0
  have hda : d.len + r.len = a.len := by rw [ha, len_app]
  have hel := ho.length
  cases r with
  | nil =>
    left
    have e1 : ¬ ((d.len : Int) < (a.len : Int)) := by simp [len] at hda; omega
    have e2 : a.len = (es ++ List.replicate (len .nil) zE).length := by simp [len] at hda ⊢; omega
    refine ⟨.ref 0 [] 0 a.len, ?_⟩
    apply ex1
    · refine W.sound hmix (E := []) ?_
      simp only [run0, run1, run2, run3, run4, run5, run6, run7, run8, run9, run10, run11, run12, run13, run14, run15, run16, run17, run18, run19, run20, run21, run22, reduceCtorEq, Nat.reduceEqDiff, Nat.reduceAdd, Nat.reduceSub, Nat.reduceLeDiff, indexAddrA, indexRefA, appendA, strA, Nat.reduceMul, Nat.zero_mul, Nat.reduceMod, Int.reduceEq, Int.reduceLT, Int.reduceLE, Nat.reduceLT, Nat.lt_irrefl, Nat.reduceBEq, tys0, tys1, tys2, tys3, tys4, tys5, tys6, tys7, tys8, tys9, tys10, tys11, tys12, tys13, tys14, tys15, tys16, tys17, tys18, tys19, tys20, tys21, tys22, tys23, Try.ntmps27, Try.results27, elems_length, e1]
      exact Fin.keep (0 :: S) rfl rfl
    · simp only [len, List.replicate_zero, List.append_nil] at ho ⊢
      refine ⟨0 :: S, OwnR.keep (.inr ⟨0, 0, es, S, by rw [hel]; simp [len] at hda; rw [hda], rfl, rfl, ?_⟩) fun _ h => h, List.nodup_cons.2 ⟨h0, hn⟩, keepS_okSO _ _⟩
      rw [ha, app_nil]; exact ho
  | cons e c r =>
    right
    simp only [len] at hda ho ⊢
    have e1 : (d.len : Int) < (a.len : Int) := by omega
    have e2 : (elems a)[d.len]? = some (.agg (.sl false (elems e) :: pay c)) := by rw [ha]; exact elems_get d e c r
    have hlt : e.sz < a.sz := by rw [ha, sz_app]; simp only [sz]; omega
    have e5 : IntKind.i64.wrap ((d.len : Int) + 1) = ((d.app (cons e c nil)).len : Int) := by
      rw [wr_id (by omega) (by omega), len_app]; simp [len]
    obtain ⟨x, M, hc, S1, hx, hn1, hM⟩ := toSurrealTerm_of (c := c) (toS_ok e (by omega))
    have e6 : (es ++ zE :: List.replicate r.len zE)[d.len]? = some zE := get_next es r.len d.len zE hel
    have e7 : noOwn (es ++ zE :: List.replicate r.len zE) = true := zE_noOwn es (r.len + 1) ho.form.2.1
    have e8 : (es ++ zE :: List.replicate r.len zE).set d.len (.agg [shA (X.length + 1) x, .int .i64 c.1, .int .i64 c.2]) = _ := set_next es r.len d.len zE (.agg [shA (X.length + 1) x, .int .i64 c.1, .int .i64 c.2]) hel
    have e9 : (d.len : Int) < ((a.len : Nat) : Int) := e1
    have hx' : OwnR (.vec 62 3 0 ((es ++ [.agg (shA (X.length + 1) x :: pay c)]) ++ List.replicate r.len zE) :: (X ++ M.map (shO (X.length + 1)))) 62 3 e (shA (X.length + 1) x) (S1.map (· + (X.length + 1))) :=
      OwnR.sh (fun id => by
        rw [show id + (X.length + 1) = (id + X.length) + 1 by omega, List.getElem?_cons_succ, List.getElem?_append_right (by omega), List.getElem?_map]
        congr 2; omega) hx
    have hlt0 := ho.lt
    simp only [List.length_cons] at hlt0
    refine ⟨⟨d.app (cons e c nil), r, es ++ [.agg (shA (X.length + 1) x :: pay c)], X ++ M.map (shO (X.length + 1)), S ++ S1.map (· + (X.length + 1))⟩, ⟨by rw [app_assoc]; exact ha, ?_, ?_, ?_⟩, by simp only []; omega, ?_⟩
    · refine OwnE.app (OwnE.one hx' c) (ho.mono fun id hid g es1 hL => ?_)
      cases id with
      | zero => exact absurd hid h0
      | succ id =>
        simp only [List.getElem?_cons_succ] at hL ⊢
        rw [List.getElem?_append_left (List.getElem?_eq_some_iff.1 hL).1]; exact hL
    · refine List.nodup_append.2 ⟨hn, nodup_add _ hn1, fun u hu v hv => ?_⟩
      have := hlt0 u hu
      simp only [List.mem_map] at hv
      obtain ⟨q, _, rfl⟩ := hv
      omega
    · simp only [List.mem_append, not_or, List.mem_map]
      exact ⟨h0, fun ⟨q, _, hq⟩ => by omega⟩
    · refine W.sound hmix (E := []) ?_
      rcases hx.shape with rfl | ⟨id, g, n, rfl⟩
      · simp only [run0, run1, run2, run3, run4, run5, run6, run7, run8, run9, run10, run11, run12, run13, run14, run15, run16, run17, run18, run19, run20, run21, run22, reduceCtorEq, Nat.reduceEqDiff, Nat.reduceAdd, Nat.reduceSub, Nat.reduceLeDiff, indexAddrA, indexRefA, appendA, strA, Nat.reduceMul, Nat.zero_mul, Nat.reduceMod, Int.reduceEq, Int.reduceLT, Int.reduceLE, Nat.reduceLT, Nat.lt_irrefl, Nat.reduceBEq, tys0, tys1, tys2, tys3, tys4, tys5, tys6, tys7, tys8, tys9, tys10, tys11, tys12, tys13, tys14, tys15, tys16, tys17, tys18, tys19, tys20, tys21, tys22, tys23, Try.ntmps27, Try.results27, elems_length, e1, e2, pay, Int.toNat_natCast, Int.natCast_nonneg]
        refine RunL.callgp rfl rfl ok_f47 rfl hc (by simp only [pureL, pureB, elems_pure, pay_pure, Bool.and_self]) rfl ?_
        simp only [nilV, shA] at e8
        simp only [run0, run1, run2, run3, run4, run5, run6, run7, run8, run9, run10, run11, run12, run13, run14, run15, run16, run17, run18, run19, run20, run21, run22, reduceCtorEq, Nat.reduceEqDiff, Nat.reduceAdd, Nat.reduceSub, Nat.reduceLeDiff, indexAddrA, indexRefA, appendA, strA, Nat.reduceMul, Nat.zero_mul, Nat.reduceMod, Int.reduceEq, Int.reduceLT, Int.reduceLE, Nat.reduceLT, Nat.lt_irrefl, Nat.reduceBEq, tys0, tys1, tys2, tys3, tys4, tys5, tys6, tys7, tys8, tys9, tys10, tys11, tys12, tys13, tys14, tys15, tys16, tys17, tys18, tys19, tys20, tys21, tys22, tys23, Try.ntmps27, Try.results27, nilV, shA, shL, pay, e5, e6, e7, e8, zE_c, zE_a, zE_s, Int.toNat_natCast, Int.natCast_nonneg, e1]
        repeat constructor
      · simp only [run0, run1, run2, run3, run4, run5, run6, run7, run8, run9, run10, run11, run12, run13, run14, run15, run16, run17, run18, run19, run20, run21, run22, reduceCtorEq, Nat.reduceEqDiff, Nat.reduceAdd, Nat.reduceSub, Nat.reduceLeDiff, indexAddrA, indexRefA, appendA, strA, Nat.reduceMul, Nat.zero_mul, Nat.reduceMod, Int.reduceEq, Int.reduceLT, Int.reduceLE, Nat.reduceLT, Nat.lt_irrefl, Nat.reduceBEq, tys0, tys1, tys2, tys3, tys4, tys5, tys6, tys7, tys8, tys9, tys10, tys11, tys12, tys13, tys14, tys15, tys16, tys17, tys18, tys19, tys20, tys21, tys22, tys23, Try.ntmps27, Try.results27, elems_length, e1, e2, pay, Int.toNat_natCast, Int.natCast_nonneg]
        refine RunL.callgp rfl rfl ok_f47 rfl hc (by simp only [pureL, pureB, elems_pure, pay_pure, Bool.and_self]) rfl ?_
        simp only [shA] at e8
        simp only [run0, run1, run2, run3, run4, run5, run6, run7, run8, run9, run10, run11, run12, run13, run14, run15, run16, run17, run18, run19, run20, run21, run22, reduceCtorEq, Nat.reduceEqDiff, Nat.reduceAdd, Nat.reduceSub, Nat.reduceLeDiff, indexAddrA, indexRefA, appendA, strA, Nat.reduceMul, Nat.zero_mul, Nat.reduceMod, Int.reduceEq, Int.reduceLT, Int.reduceLE, Nat.reduceLT, Nat.lt_irrefl, Nat.reduceBEq, tys0, tys1, tys2, tys3, tys4, tys5, tys6, tys7, tys8, tys9, tys10, tys11, tys12, tys13, tys14, tys15, tys16, tys17, tys18, tys19, tys20, tys21, tys22, tys23, Try.ntmps27, Try.results27, nilV, shA, shL, pay, e5, e6, e7, e8, zE_c, zE_a, zE_s, Int.toNat_natCast, Int.natCast_nonneg, e1]
        repeat constructor
termination_by a.sz

end Go.Proofs.Ytminjhhabonjaaa
