/-
  Lists of ordinals that fall: the law.
-/
import Derived.Test.YtphmkhaboghagaaG10
namespace Go.Proofs.Ytphmkhaboghagaa
open Go K Od
set_option linter.unusedSimpArgs false
set_option linter.unusedVariables false
set_option maxHeartbeats 1600000
set_option maxRecDepth 8000

def lszO : List Od → Nat
  | [] => 0
  | e :: r => e.sz + lszO r
def fitO (es : List Od) : Prop := es.length ≤ maxLen ∧ ∀ e ∈ es, fit e
theorem lszO_app : ∀ d r : List Od, lszO (d ++ r) = lszO d + lszO r
  | [], r => by simp [lszO]
  | e :: d, r => by simp only [List.cons_append, lszO, lszO_app d r]; omega
theorem avs_get (d r : List Od) (e : Od) : ((d ++ e :: r).map av)[d.length]? = some (.agg [.sl false (elems e)]) := by simp [av]
theorem avs_pure : ∀ es : List Od, pureL (es.map av) = true
  | [] => rfl
  | e :: r => by simp [pureL, av_pure, avs_pure r]
theorem avs_noOwn (es : List Od) : noOwn (es.map av) = true := by
  refine List.all_eq_true.2 fun x hx => ?_
  obtain ⟨e, _, rfl⟩ := List.mem_map.1 hx
  rfl
theorem ods_list : ∀ es : List AV, (∀ x ∈ es, IsOf Try.prog 32 x) → ∃ l : List Od, es = l.map av ∧ ∀ e ∈ l, fit e
  | [], _ => ⟨[], rfl, by simp⟩
  | x :: es, hes => by
    obtain ⟨l, rfl, h2⟩ := ods_list es fun y hy => hes y (List.mem_cons_of_mem _ hy)
    obtain ⟨a, rfl, hf⟩ := laws_isOd (hes x (List.mem_cons_self ..))
    refine ⟨a :: l, rfl, fun e he => ?_⟩
    rcases List.mem_cons.1 he with rfl | he
    · exact hf
    · exact h2 e he
theorem laws_isOds {x : AV} (h : IsOf Try.prog 43 x) : ∃ es : List Od, x = .sl false (es.map av) ∧ fitO es := by
  obtain ⟨_, h⟩ := h.one ty_a43
  obtain ⟨es, e0, hel, hes⟩ := h.slice Try.underlying43
  simp only [List.cons.injEq, and_true] at e0
  subst e0
  obtain ⟨l, rfl, h2⟩ := ods_list es hes
  exact ⟨l, rfl, by simpa using hel, h2⟩

theorem szOrdinalS_ok (es : List Od) (l : Int) (hf : fitO es) (h0 : 0 ≤ l) (h1 : l ≤ 1048576) : Ct Try.prog 25 [.sl false (es.map av), .int .i64 l] [] (.int .i64 (szR (es.length + lszO es) l)) [] := by
  have hl := hf.1
  rw [maxLen_eq] at hl
  have hw : IntKind.i64.wrap (l - (es.length : Int)) = l - es.length := w64_id (by omega) (by omega)
  refine Ct.by_ hmix [] Try.func25 rfl ?_
  simp only [run0, run1, run2, run3, run4, run5, run6, run7, run8, run9, run10, run11, run12, run13, run14, run15, run16, run17, run18, run19, run20, run21, run22, reduceCtorEq, Nat.reduceEqDiff, Nat.reduceAdd, Nat.reduceSub, Nat.reduceLeDiff, indexAddrA, indexRefA, appendA, strA, Nat.reduceMul, Nat.zero_mul, Nat.reduceMod, Int.reduceEq, Int.reduceLT, Int.reduceLE, Nat.reduceLT, Nat.lt_irrefl, Nat.reduceBEq, tys0, tys1, tys2, tys3, tys4, tys5, tys6, tys7, tys8, tys9, tys10, tys11, tys12, tys13, tys14, tys15, tys16, tys17, tys18, Try.ntmps25, Try.results25, hw]
  by_cases hn : l - (es.length : Int) < 0
  · simp only [run0, run1, run2, run3, run4, run5, run6, run7, run8, run9, run10, run11, run12, run13, run14, run15, run16, run17, run18, run19, run20, run21, run22, reduceCtorEq, Nat.reduceEqDiff, Nat.reduceAdd, Nat.reduceSub, Nat.reduceLeDiff, indexAddrA, indexRefA, appendA, strA, Nat.reduceMul, Nat.zero_mul, Nat.reduceMod, Int.reduceEq, Int.reduceLT, Int.reduceLE, Nat.reduceLT, Nat.lt_irrefl, Nat.reduceBEq, tys0, tys1, tys2, tys3, tys4, tys5, tys6, tys7, tys8, tys9, tys10, tys11, tys12, tys13, tys14, tys15, tys16, tys17, tys18, Try.ntmps25, Try.results25, hn]
    exact Fin.eq (by have := szR_spec (es.length + lszO es) l; congr 1; omega) rfl
  simp only [run0, run1, run2, run3, run4, run5, run6, run7, run8, run9, run10, run11, run12, run13, run14, run15, run16, run17, run18, run19, run20, run21, run22, reduceCtorEq, Nat.reduceEqDiff, Nat.reduceAdd, Nat.reduceSub, Nat.reduceLeDiff, indexAddrA, indexRefA, appendA, strA, Nat.reduceMul, Nat.zero_mul, Nat.reduceMod, Int.reduceEq, Int.reduceLT, Int.reduceLE, Nat.reduceLT, Nat.lt_irrefl, Nat.reduceBEq, tys0, tys1, tys2, tys3, tys4, tys5, tys6, tys7, tys8, tys9, tys10, tys11, tys12, tys13, tys14, tys15, tys16, tys17, tys18, Try.ntmps25, Try.results25, hn]
  refine AWp.loop_inv (ι := List Od × List Od × Int) (fun p => ⟨[.sl false (es.map av), .int .i64 p.2.2, .junk, .junk, .int .i64 0, .int .i64 p.1.length, .junk, .junk, .junk, .junk, .junk, .junk, .junk, .junk, .junk, .junk, .junk, .junk, .junk, .junk, .junk, .junk, .junk, .junk, .junk, .junk, .junk], []⟩)
    (fun p => es = p.1 ++ p.2.1 ∧ 0 ≤ p.2.2 ∧ p.2.2 ≤ 1048576 ∧ szR (lszO p.2.1) p.2.2 = szR (es.length + lszO es) l) (fun p => p.2.1.length) ([], es, l - es.length)
    ⟨rfl, by simp only; omega, by simp only; omega, by simp only [szR]; split <;> split <;> omega⟩ ⟨by simp only [List.length_nil, Int.natCast_zero]; repeat constructor, rfl⟩ ?_
  rintro ⟨d, r, l'⟩ ⟨ha, h2, h3, h4⟩
  refine W.sound hmix (E := []) ?_
  simp only at ha h2 h3 h4
  have hda : d.length + r.length = es.length := by rw [ha, List.length_append]
  cases r with
  | nil =>
    have e1 : ¬ ((d.length : Int) < (es.length : Int)) := by simp at hda; omega
    simp only [run0, run1, run2, run3, run4, run5, run6, run7, run8, run9, run10, run11, run12, run13, run14, run15, run16, run17, run18, run19, run20, run21, run22, reduceCtorEq, Nat.reduceEqDiff, Nat.reduceAdd, Nat.reduceSub, Nat.reduceLeDiff, indexAddrA, indexRefA, appendA, strA, Nat.reduceMul, Nat.zero_mul, Nat.reduceMod, Int.reduceEq, Int.reduceLT, Int.reduceLE, Nat.reduceLT, Nat.lt_irrefl, Nat.reduceBEq, tys0, tys1, tys2, tys3, tys4, tys5, tys6, tys7, tys8, tys9, tys10, tys11, tys12, tys13, tys14, tys15, tys16, tys17, tys18, Try.ntmps25, Try.results25, e1]
    exact Fin.eq (by rw [← h4]; simp [szR, lszO, h2]) rfl
  | cons e r =>
    simp only [List.length_cons] at hda
    have e1 : (d.length : Int) < (es.length : Int) := by omega
    have e2 : (es.map av)[d.length]? = some (.agg [.sl false (elems e)]) := by rw [ha]; exact avs_get d r e
    have e5 : IntKind.i64.wrap ((d.length : Int) + 1) = ((d ++ [e]).length : Int) := by rw [w64_id (by omega) (by omega)]; simp
    have hz := szOrdinal_ok e l' (hf.2 e (by rw [ha]; simp)) h2 h3
    simp only [av] at hz
    simp only [run0, run1, run2, run3, run4, run5, run6, run7, run8, run9, run10, run11, run12, run13, run14, run15, run16, run17, run18, run19, run20, run21, run22, reduceCtorEq, Nat.reduceEqDiff, Nat.reduceAdd, Nat.reduceSub, Nat.reduceLeDiff, indexAddrA, indexRefA, appendA, strA, Nat.reduceMul, Nat.zero_mul, Nat.reduceMod, Int.reduceEq, Int.reduceLT, Int.reduceLE, Nat.reduceLT, Nat.lt_irrefl, Nat.reduceBEq, tys0, tys1, tys2, tys3, tys4, tys5, tys6, tys7, tys8, tys9, tys10, tys11, tys12, tys13, tys14, tys15, tys16, tys17, tys18, Try.ntmps25, Try.results25, e1, e2, Int.toNat_natCast, Int.natCast_nonneg]
    refine RunL.callp rfl rfl ok_f17 (hz) (by first | rfl | simp only [pureL, pureB, Bool.and_self, Bool.and_true, Bool.true_and, Od.elems_pure, Od.pay_pure, Od.av_pure]) rfl ?_
    have k1 := szR_spec e.sz l'
    have k2 := szR_spec (lszO (e :: r)) l'
    have k3 := szR_spec (lszO r) (szR e.sz l')
    simp only [lszO] at h4 k2
    by_cases h6 : szR e.sz l' < 0
    · simp only [run0, run1, run2, run3, run4, run5, run6, run7, run8, run9, run10, run11, run12, run13, run14, run15, run16, run17, run18, run19, run20, run21, run22, reduceCtorEq, Nat.reduceEqDiff, Nat.reduceAdd, Nat.reduceSub, Nat.reduceLeDiff, indexAddrA, indexRefA, appendA, strA, Nat.reduceMul, Nat.zero_mul, Nat.reduceMod, Int.reduceEq, Int.reduceLT, Int.reduceLE, Nat.reduceLT, Nat.lt_irrefl, Nat.reduceBEq, tys0, tys1, tys2, tys3, tys4, tys5, tys6, tys7, tys8, tys9, tys10, tys11, tys12, tys13, tys14, tys15, tys16, tys17, tys18, Try.ntmps25, Try.results25, h6]
      exact Fin.eq (by rw [← h4]; congr 1; omega) rfl
    · simp only [run0, run1, run2, run3, run4, run5, run6, run7, run8, run9, run10, run11, run12, run13, run14, run15, run16, run17, run18, run19, run20, run21, run22, reduceCtorEq, Nat.reduceEqDiff, Nat.reduceAdd, Nat.reduceSub, Nat.reduceLeDiff, indexAddrA, indexRefA, appendA, strA, Nat.reduceMul, Nat.zero_mul, Nat.reduceMod, Int.reduceEq, Int.reduceLT, Int.reduceLE, Nat.reduceLT, Nat.lt_irrefl, Nat.reduceBEq, tys0, tys1, tys2, tys3, tys4, tys5, tys6, tys7, tys8, tys9, tys10, tys11, tys12, tys13, tys14, tys15, tys16, tys17, tys18, Try.ntmps25, Try.results25, h6, e5]
      exact ⟨(d ++ [e], r, szR e.sz l'), ⟨by simp [ha], by simp only; omega, by simp only; omega, by simp only; omega⟩, by simp, by simp only [List.length_append, List.length_cons, List.length_nil]; repeat constructor⟩

def zO : AV := .agg [nilV]
theorem zO_noOwn (es : List Od) (n : Nat) : noOwn (es.map av ++ List.replicate n zO) = true := by
  refine List.all_eq_true.2 fun e he => ?_
  rcases List.mem_append.1 he with he | he
  · exact List.all_eq_true.1 (avs_noOwn es) e he
  · rw [(List.mem_replicate.1 he).2]; rfl
theorem zO_c : zO.cells = [.lit (.slice none 0 0)] := rfl
theorem zO_a : aggB zO = true := rfl
theorem zO_s (off n : Nat) (x : AV) : setE zO off n x = .agg ([.lit (.slice none 0 0)].take off ++ x.cells ++ [.lit (.slice none 0 0)].drop (off + n)) := rfl
theorem toOrdinalS_ok (es : List Od) (hl : es.length ≤ 1048576) (hs : ∀ e ∈ es, e.sz ≤ 1048576) : Ct Try.prog 27 [.sl false (es.map av)] [] (.sl false (es.map av)) [] := by
  have b0 : (es.length : Int) ≤ 137438953472 := by omega
  refine Ct.by_ hmix [] Try.func27 rfl ?_
  simp only [run0, run1, run2, run3, run4, run5, run6, run7, run8, run9, run10, run11, run12, run13, run14, run15, run16, run17, run18, run19, run20, run21, run22, reduceCtorEq, Nat.reduceEqDiff, Nat.reduceAdd, Nat.reduceSub, Nat.reduceLeDiff, indexAddrA, indexRefA, appendA, strA, Nat.reduceMul, Nat.zero_mul, Nat.reduceMod, Int.reduceEq, Int.reduceLT, Int.reduceLE, Nat.reduceLT, Nat.lt_irrefl, Nat.reduceBEq, tys0, tys1, tys2, tys3, tys4, tys5, tys6, tys7, tys8, tys9, tys10, tys11, tys12, tys13, tys14, tys15, tys16, tys17, tys18, Try.ntmps27, Try.results27, b0, Int.natCast_nonneg, Int.le_refl, Int.toNat_natCast]
  refine AWp.loop_inv (ι := List Od × List Od) (fun p => ⟨[.sl false (es.map av), .junk, .junk, .ref 0 [] 0 es.length, .int .i64 p.1.length, .junk, .junk, .junk, .junk, .junk, .junk, .junk, .junk, .junk, .junk, .junk, .junk, .junk, .junk, .junk, .junk, .junk, .junk], [.vec 24 1 0 (p.1.map av ++ List.replicate p.2.length zO)]⟩)
    (fun p => es = p.1 ++ p.2) (fun p => p.2.length) ([], es) rfl ⟨by simp only [List.length_nil, Int.natCast_zero]; repeat constructor, rfl⟩ ?_
  rintro ⟨d, r⟩ ha
  refine W.sound hmix (E := []) ?_
  simp only at ha
  have hda : d.length + r.length = es.length := by rw [ha, List.length_append]
  cases r with
  | nil =>
    have e1 : ¬ ((d.length : Int) < (es.length : Int)) := by simp at hda; omega
    simp only [run0, run1, run2, run3, run4, run5, run6, run7, run8, run9, run10, run11, run12, run13, run14, run15, run16, run17, run18, run19, run20, run21, run22, reduceCtorEq, Nat.reduceEqDiff, Nat.reduceAdd, Nat.reduceSub, Nat.reduceLeDiff, indexAddrA, indexRefA, appendA, strA, Nat.reduceMul, Nat.zero_mul, Nat.reduceMod, Int.reduceEq, Int.reduceLT, Int.reduceLE, Nat.reduceLT, Nat.lt_irrefl, Nat.reduceBEq, tys0, tys1, tys2, tys3, tys4, tys5, tys6, tys7, tys8, tys9, tys10, tys11, tys12, tys13, tys14, tys15, tys16, tys17, tys18, Try.ntmps27, Try.results27, e1]
    refine Fin.value ?_
    have hd : d = es := by rw [ha, List.append_nil]
    subst hd
    have := Vw.refPur (L := [.vec 24 1 0 (d.map av ++ List.replicate 0 zO)]) (id := 0) (g := 0) (n := d.length) (o := false) rfl (by simp) (fun e he c hc => by
      simp only [List.replicate_zero, List.append_nil] at he
      obtain ⟨e', _, rfl⟩ := List.mem_map.1 he
      simp only [av, AV.cells, List.mem_cons, List.not_mem_nil, or_false] at hc
      subst hc
      exact ⟨.of (by simp only [pureB, elems_pure]), fun xs h => by cases h⟩)
    simp only [List.replicate_zero, List.append_nil] at this
    rw [List.take_of_length_le (by simp)] at this
    exact this
  | cons e r =>
    simp only [List.length_cons] at hda
    have e1 : (d.length : Int) < (es.length : Int) := by omega
    have e2 : (es.map av)[d.length]? = some (.agg [.sl false (elems e)]) := by rw [ha]; exact avs_get d r e
    have e5 : IntKind.i64.wrap ((d.length : Int) + 1) = ((d ++ [e]).length : Int) := by rw [w64_id (by omega) (by omega)]; simp
    have hle : (d.map av).length = d.length := by simp
    have e6 : (d.map av ++ zO :: List.replicate r.length zO)[d.length]? = some zO := get_next (d.map av) r.length d.length zO hle
    have e7 : noOwn (d.map av ++ zO :: List.replicate r.length zO) = true := zO_noOwn d (r.length + 1)
    have e8 : (d.map av ++ zO :: List.replicate r.length zO).set d.length (.agg [.sl false (elems e)]) = _ := set_next (d.map av) r.length d.length zO (.agg [.sl false (elems e)]) hle
    have ht := toOrdinal_ok e (hs e (by rw [ha]; simp))
    simp only [av] at ht
    simp only [run0, run1, run2, run3, run4, run5, run6, run7, run8, run9, run10, run11, run12, run13, run14, run15, run16, run17, run18, run19, run20, run21, run22, reduceCtorEq, Nat.reduceEqDiff, Nat.reduceAdd, Nat.reduceSub, Nat.reduceLeDiff, indexAddrA, indexRefA, appendA, strA, Nat.reduceMul, Nat.zero_mul, Nat.reduceMod, Int.reduceEq, Int.reduceLT, Int.reduceLE, Nat.reduceLT, Nat.lt_irrefl, Nat.reduceBEq, tys0, tys1, tys2, tys3, tys4, tys5, tys6, tys7, tys8, tys9, tys10, tys11, tys12, tys13, tys14, tys15, tys16, tys17, tys18, Try.ntmps27, Try.results27, e1, e2, Int.toNat_natCast, Int.natCast_nonneg, List.replicate_succ]
    refine RunL.callp rfl rfl ok_f19 (ht) (by first | rfl | simp only [pureL, pureB, Bool.and_self, Bool.and_true, Bool.true_and, Od.elems_pure, Od.pay_pure, Od.av_pure]) rfl ?_
    simp only [run0, run1, run2, run3, run4, run5, run6, run7, run8, run9, run10, run11, run12, run13, run14, run15, run16, run17, run18, run19, run20, run21, run22, reduceCtorEq, Nat.reduceEqDiff, Nat.reduceAdd, Nat.reduceSub, Nat.reduceLeDiff, indexAddrA, indexRefA, appendA, strA, Nat.reduceMul, Nat.zero_mul, Nat.reduceMod, Int.reduceEq, Int.reduceLT, Int.reduceLE, Nat.reduceLT, Nat.lt_irrefl, Nat.reduceBEq, tys0, tys1, tys2, tys3, tys4, tys5, tys6, tys7, tys8, tys9, tys10, tys11, tys12, tys13, tys14, tys15, tys16, tys17, tys18, Try.ntmps27, Try.results27, nilV, e1, e5, e6, e7, e8, zO_c, zO_a, zO_s, Int.toNat_natCast, Int.natCast_nonneg]
    exact ⟨(d ++ [e], r), by simp [ha], by simp, by simp only [List.length_append, List.length_cons, List.length_nil]; repeat constructor, by simp [av]⟩
theorem eqOrdinalS_ok (es : List Od) (hl : es.length ≤ 1048576) (hs : ∀ e ∈ es, e.sz ≤ 1048576) : Ct Try.prog 29 [.sl false (es.map av), .sl false (es.map av)] [] (.bool true) [] := by
  refine Ct.by_ hmix [] Try.func29 rfl ?_
  simp only [run0, run1, run2, run3, run4, run5, run6, run7, run8, run9, run10, run11, run12, run13, run14, run15, run16, run17, run18, run19, run20, run21, run22, reduceCtorEq, Nat.reduceEqDiff, Nat.reduceAdd, Nat.reduceSub, Nat.reduceLeDiff, indexAddrA, indexRefA, appendA, strA, Nat.reduceMul, Nat.zero_mul, Nat.reduceMod, Int.reduceEq, Int.reduceLT, Int.reduceLE, Nat.reduceLT, Nat.lt_irrefl, Nat.reduceBEq, tys0, tys1, tys2, tys3, tys4, tys5, tys6, tys7, tys8, tys9, tys10, tys11, tys12, tys13, tys14, tys15, tys16, tys17, tys18, Try.ntmps29, Try.results29, bne_self_eq_false]
  refine AWp.loop_inv (ι := List Od × List Od) (fun p => ⟨[.sl false (es.map av), .sl false (es.map av), .junk, .junk, .bool false, .int .i64 p.1.length, .junk, .junk, .junk, .junk, .junk, .junk, .junk, .junk, .junk, .junk, .junk, .junk, .junk, .junk, .junk, .junk, .junk, .junk, .junk, .junk, .junk], []⟩)
    (fun p => es = p.1 ++ p.2) (fun p => p.2.length) ([], es) rfl ⟨by simp only [List.length_nil, Int.natCast_zero]; repeat constructor, rfl⟩ ?_
  rintro ⟨d, r⟩ ha
  refine W.sound hmix (E := []) ?_
  simp only at ha
  have hda : d.length + r.length = es.length := by rw [ha, List.length_append]
  cases r with
  | nil =>
    have e1 : ¬ ((d.length : Int) < (es.length : Int)) := by simp at hda; omega
    simp only [run0, run1, run2, run3, run4, run5, run6, run7, run8, run9, run10, run11, run12, run13, run14, run15, run16, run17, run18, run19, run20, run21, run22, reduceCtorEq, Nat.reduceEqDiff, Nat.reduceAdd, Nat.reduceSub, Nat.reduceLeDiff, indexAddrA, indexRefA, appendA, strA, Nat.reduceMul, Nat.zero_mul, Nat.reduceMod, Int.reduceEq, Int.reduceLT, Int.reduceLE, Nat.reduceLT, Nat.lt_irrefl, Nat.reduceBEq, tys0, tys1, tys2, tys3, tys4, tys5, tys6, tys7, tys8, tys9, tys10, tys11, tys12, tys13, tys14, tys15, tys16, tys17, tys18, Try.ntmps29, Try.results29, e1]
    exact Fin.eq rfl rfl
  | cons e r =>
    simp only [List.length_cons] at hda
    have e1 : (d.length : Int) < (es.length : Int) := by omega
    have e2 : (es.map av)[d.length]? = some (.agg [.sl false (elems e)]) := by rw [ha]; exact avs_get d r e
    have e5 : IntKind.i64.wrap ((d.length : Int) + 1) = ((d ++ [e]).length : Int) := by rw [w64_id (by omega) (by omega)]; simp
    have ht := eqOrdinal_ok e e (hs e (by rw [ha]; simp))
    rw [eqT_refl] at ht
    simp only [av] at ht
    simp only [run0, run1, run2, run3, run4, run5, run6, run7, run8, run9, run10, run11, run12, run13, run14, run15, run16, run17, run18, run19, run20, run21, run22, reduceCtorEq, Nat.reduceEqDiff, Nat.reduceAdd, Nat.reduceSub, Nat.reduceLeDiff, indexAddrA, indexRefA, appendA, strA, Nat.reduceMul, Nat.zero_mul, Nat.reduceMod, Int.reduceEq, Int.reduceLT, Int.reduceLE, Nat.reduceLT, Nat.lt_irrefl, Nat.reduceBEq, tys0, tys1, tys2, tys3, tys4, tys5, tys6, tys7, tys8, tys9, tys10, tys11, tys12, tys13, tys14, tys15, tys16, tys17, tys18, Try.ntmps29, Try.results29, e1, e2, Int.toNat_natCast, Int.natCast_nonneg]
    refine ⟨by kernel_rfl, ?_⟩
    refine RunL.callp rfl rfl ok_f14 (ht) (by first | rfl | simp only [pureL, pureB, Bool.and_self, Bool.and_true, Bool.true_and, Od.elems_pure, Od.pay_pure, Od.av_pure]) rfl ?_
    simp only [run0, run1, run2, run3, run4, run5, run6, run7, run8, run9, run10, run11, run12, run13, run14, run15, run16, run17, run18, run19, run20, run21, run22, reduceCtorEq, Nat.reduceEqDiff, Nat.reduceAdd, Nat.reduceSub, Nat.reduceLeDiff, indexAddrA, indexRefA, appendA, strA, Nat.reduceMul, Nat.zero_mul, Nat.reduceMod, Int.reduceEq, Int.reduceLT, Int.reduceLE, Nat.reduceLT, Nat.lt_irrefl, Nat.reduceBEq, tys0, tys1, tys2, tys3, tys4, tys5, tys6, tys7, tys8, tys9, tys10, tys11, tys12, tys13, tys14, tys15, tys16, tys17, tys18, Try.ntmps29, Try.results29, e5]
    exact ⟨(d ++ [e], r), by simp [ha], by simp, by simp only [List.length_append, List.length_cons, List.length_nil]; repeat constructor⟩

/-! ### falling -/
def fallB : Od → List Od → Bool
  | _, [] => true
  | p, a :: r => decide (0 < cmpT p a) && fallB a r
def fallsB : List Od → Bool
  | [] => true
  | a :: r => fallB a r
def desOk (es : List Od) : Bool := decide (es.length ≤ 61) && es.all goodT
theorem good_of {es : List Od} (h : es.all goodT = true) {e : Od} (he : e ∈ es) : goodT e = true := List.all_eq_true.1 h e he
theorem bad_of {es : List Od} {e : Od} (he : e ∈ es) (h : goodT e = false) : es.all goodT = false := by
  rw [Bool.eq_false_iff]; intro q; rw [good_of q he] at h; cases h

theorem specDes_ok (es : List Od) (hl : es.length ≤ 1048576) (hs : ∀ e ∈ es, e.sz ≤ 1048576) : Ct Try.prog 26 [.sl false (es.map av)] [] (.tup [.bool (desOk es && fallsB es), .bool (desOk es)]) [] := by
  refine Ct.by_ hmix [] Try.func26 rfl ?_
  simp only [run0, run1, run2, run3, run4, run5, run6, run7, run8, run9, run10, run11, run12, run13, run14, run15, run16, run17, run18, run19, run20, run21, run22, reduceCtorEq, Nat.reduceEqDiff, Nat.reduceAdd, Nat.reduceSub, Nat.reduceLeDiff, indexAddrA, indexRefA, appendA, strA, Nat.reduceMul, Nat.zero_mul, Nat.reduceMod, Int.reduceEq, Int.reduceLT, Int.reduceLE, Nat.reduceLT, Nat.lt_irrefl, Nat.reduceBEq, tys0, tys1, tys2, tys3, tys4, tys5, tys6, tys7, tys8, tys9, tys10, tys11, tys12, tys13, tys14, tys15, tys16, tys17, tys18, Try.ntmps26, Try.results26]
  by_cases hlen : (61 : Int) < (es.length : Int)
  · simp only [run0, run1, run2, run3, run4, run5, run6, run7, run8, run9, run10, run11, run12, run13, run14, run15, run16, run17, run18, run19, run20, run21, run22, reduceCtorEq, Nat.reduceEqDiff, Nat.reduceAdd, Nat.reduceSub, Nat.reduceLeDiff, indexAddrA, indexRefA, appendA, strA, Nat.reduceMul, Nat.zero_mul, Nat.reduceMod, Int.reduceEq, Int.reduceLT, Int.reduceLE, Nat.reduceLT, Nat.lt_irrefl, Nat.reduceBEq, tys0, tys1, tys2, tys3, tys4, tys5, tys6, tys7, tys8, tys9, tys10, tys11, tys12, tys13, tys14, tys15, tys16, tys17, tys18, Try.ntmps26, Try.results26, hlen]
    exact Fin.eq (by simp only [desOk]; rw [show decide (es.length ≤ 61) = false by simp; omega]; rfl) rfl
  simp only [run0, run1, run2, run3, run4, run5, run6, run7, run8, run9, run10, run11, run12, run13, run14, run15, run16, run17, run18, run19, run20, run21, run22, reduceCtorEq, Nat.reduceEqDiff, Nat.reduceAdd, Nat.reduceSub, Nat.reduceLeDiff, indexAddrA, indexRefA, appendA, strA, Nat.reduceMul, Nat.zero_mul, Nat.reduceMod, Int.reduceEq, Int.reduceLT, Int.reduceLE, Nat.reduceLT, Nat.lt_irrefl, Nat.reduceBEq, tys0, tys1, tys2, tys3, tys4, tys5, tys6, tys7, tys8, tys9, tys10, tys11, tys12, tys13, tys14, tys15, tys16, tys17, tys18, Try.ntmps26, Try.results26, hlen]
  have hle : decide (es.length ≤ 61) = true := by simp; omega
  refine AWp.loop_inv (ι := List Od × List Od × List AObj) (fun p => ⟨[.sl false (es.map av), .junk, .bool false, .bool false, .junk, .junk, .junk, .junk, .junk, .junk, .sl false (es.map av), .int .i64 es.length, .int .i64 p.1.length, .junk, .junk, .junk, .junk, .junk, .junk, .junk, .junk, .junk, .junk, .junk, .junk, .junk, .junk, .junk, .junk, .junk, .junk, .junk, .junk, .junk, .junk, .junk, .junk], p.2.2⟩)
    (fun p => es = p.1 ++ p.2.1 ∧ p.1.all goodT = true) (fun p => p.2.1.length) ([], es, []) ⟨rfl, rfl⟩ ⟨by simp only [List.length_nil, Int.natCast_zero]; repeat constructor, rfl⟩ ?_
  rintro ⟨d, r, X⟩ ⟨ha, hg⟩
  refine W.sound hmix (E := []) ?_
  simp only at ha hg
  have hda : d.length + r.length = es.length := by rw [ha, List.length_append]
  cases r with
  | cons e r =>
    simp only [List.length_cons] at hda
    have e1 : (d.length : Int) < (es.length : Int) := by omega
    have e2 : (es.map av)[d.length]? = some (.agg [.sl false (elems e)]) := by rw [ha]; exact avs_get d r e
    have e5 : IntKind.i64.wrap ((d.length : Int) + 1) = ((d ++ [e]).length : Int) := by rw [w64_id (by omega) (by omega)]; simp
    have hem : e ∈ es := by rw [ha]; simp
    have ht := odGood_ok e (hs e hem)
    simp only [av] at ht
    simp only [run0, run1, run2, run3, run4, run5, run6, run7, run8, run9, run10, run11, run12, run13, run14, run15, run16, run17, run18, run19, run20, run21, run22, reduceCtorEq, Nat.reduceEqDiff, Nat.reduceAdd, Nat.reduceSub, Nat.reduceLeDiff, indexAddrA, indexRefA, appendA, strA, Nat.reduceMul, Nat.zero_mul, Nat.reduceMod, Int.reduceEq, Int.reduceLT, Int.reduceLE, Nat.reduceLT, Nat.lt_irrefl, Nat.reduceBEq, tys0, tys1, tys2, tys3, tys4, tys5, tys6, tys7, tys8, tys9, tys10, tys11, tys12, tys13, tys14, tys15, tys16, tys17, tys18, Try.ntmps26, Try.results26, e1, e2, Int.toNat_natCast, Int.natCast_nonneg]
    refine RunL.callp rfl rfl ok_f58 (ht) (by first | rfl | simp only [pureL, pureB, Bool.and_self, Bool.and_true, Bool.true_and, Od.elems_pure, Od.pay_pure, Od.av_pure]) rfl ?_
    cases h1 : goodT e
    · simp only [run0, run1, run2, run3, run4, run5, run6, run7, run8, run9, run10, run11, run12, run13, run14, run15, run16, run17, run18, run19, run20, run21, run22, reduceCtorEq, Nat.reduceEqDiff, Nat.reduceAdd, Nat.reduceSub, Nat.reduceLeDiff, indexAddrA, indexRefA, appendA, strA, Nat.reduceMul, Nat.zero_mul, Nat.reduceMod, Int.reduceEq, Int.reduceLT, Int.reduceLE, Nat.reduceLT, Nat.lt_irrefl, Nat.reduceBEq, tys0, tys1, tys2, tys3, tys4, tys5, tys6, tys7, tys8, tys9, tys10, tys11, tys12, tys13, tys14, tys15, tys16, tys17, tys18, Try.ntmps26, Try.results26, h1]
      exact Fin.eq (by simp [desOk, bad_of hem h1]) rfl
    · simp only [run0, run1, run2, run3, run4, run5, run6, run7, run8, run9, run10, run11, run12, run13, run14, run15, run16, run17, run18, run19, run20, run21, run22, reduceCtorEq, Nat.reduceEqDiff, Nat.reduceAdd, Nat.reduceSub, Nat.reduceLeDiff, indexAddrA, indexRefA, appendA, strA, Nat.reduceMul, Nat.zero_mul, Nat.reduceMod, Int.reduceEq, Int.reduceLT, Int.reduceLE, Nat.reduceLT, Nat.lt_irrefl, Nat.reduceBEq, tys0, tys1, tys2, tys3, tys4, tys5, tys6, tys7, tys8, tys9, tys10, tys11, tys12, tys13, tys14, tys15, tys16, tys17, tys18, Try.ntmps26, Try.results26, h1, e5]
      exact ⟨(d ++ [e], r, _), ⟨by simp [ha], by simp [hg, h1]⟩, by simp, by simp only [List.length_append, List.length_cons, List.length_nil]; repeat constructor, rfl⟩
  | nil =>
    have e1 : ¬ ((d.length : Int) < (es.length : Int)) := by simp at hda; omega
    have hd : d = es := by rw [ha, List.append_nil]
    subst hd
    have hok : desOk d = true := by simp [desOk, hle, hg]
    simp only [run0, run1, run2, run3, run4, run5, run6, run7, run8, run9, run10, run11, run12, run13, run14, run15, run16, run17, run18, run19, run20, run21, run22, reduceCtorEq, Nat.reduceEqDiff, Nat.reduceAdd, Nat.reduceSub, Nat.reduceLeDiff, indexAddrA, indexRefA, appendA, strA, Nat.reduceMul, Nat.zero_mul, Nat.reduceMod, Int.reduceEq, Int.reduceLT, Int.reduceLE, Nat.reduceLT, Nat.lt_irrefl, Nat.reduceBEq, tys0, tys1, tys2, tys3, tys4, tys5, tys6, tys7, tys8, tys9, tys10, tys11, tys12, tys13, tys14, tys15, tys16, tys17, tys18, Try.ntmps26, Try.results26, e1]
    cases d with
    | nil =>
      refine AWp.loop_inv (ι := Unit) (fun _ => ⟨[.sl false [], .junk, .bool false, .bool false, .junk, .junk, .int .i64 1, .junk, .junk, .junk, .junk, .junk, .junk, .junk, .junk, .junk, .junk, .junk, .junk, .junk, .junk, .junk, .junk, .junk, .junk, .junk, .junk, .junk, .junk, .junk, .junk, .junk, .junk, .junk, .junk, .junk, .junk], X⟩) (fun _ => True) (fun _ => 0) () trivial ⟨by repeat constructor, rfl⟩ ?_
      rintro _ _
      refine W.sound hmix (E := []) ?_
      simp only [run0, run1, run2, run3, run4, run5, run6, run7, run8, run9, run10, run11, run12, run13, run14, run15, run16, run17, run18, run19, run20, run21, run22, reduceCtorEq, Nat.reduceEqDiff, Nat.reduceAdd, Nat.reduceSub, Nat.reduceLeDiff, indexAddrA, indexRefA, appendA, strA, Nat.reduceMul, Nat.zero_mul, Nat.reduceMod, Int.reduceEq, Int.reduceLT, Int.reduceLE, Nat.reduceLT, Nat.lt_irrefl, Nat.reduceBEq, tys0, tys1, tys2, tys3, tys4, tys5, tys6, tys7, tys8, tys9, tys10, tys11, tys12, tys13, tys14, tys15, tys16, tys17, tys18, Try.ntmps26, Try.results26, Int.natCast_zero]
      exact Fin.eq (by simp [hok, fallsB]) rfl
    | cons x0 r0 =>
      refine AWp.loop_inv (ι := List Od × Od × List Od) (fun p => ⟨[.sl false ((x0 :: r0).map av), .junk, .bool false, .bool false, .junk, .junk, .int .i64 (p.1.length + 1), .junk, .junk, .junk, .junk, .junk, .junk, .junk, .junk, .junk, .junk, .junk, .junk, .junk, .junk, .junk, .junk, .junk, .junk, .junk, .junk, .junk, .junk, .junk, .junk, .junk, .junk, .junk, .junk, .junk, .junk], X⟩)
        (fun p => x0 :: r0 = p.1 ++ p.2.1 :: p.2.2 ∧ fallB p.2.1 p.2.2 = fallB x0 r0) (fun p => p.2.2.length) ([], x0, r0) ⟨rfl, rfl⟩ ⟨by simp only [List.length_nil, Int.natCast_zero]; repeat constructor, rfl⟩ ?_
      rintro ⟨d, q, r⟩ ⟨hb, h4⟩
      refine W.sound hmix (E := []) ?_
      simp only at hb h4
      have hdb : d.length + (r.length + 1) = (x0 :: r0).length := by rw [hb]; simp
      have hll : ((x0 :: r0).map av).length = (x0 :: r0).length := by simp
      generalize hes : x0 :: r0 = es at *
      cases r with
      | nil =>
        have g1 : ¬ ((d.length : Int) + 1 < (es.length : Int)) := by simp at hdb; omega
        simp only [run0, run1, run2, run3, run4, run5, run6, run7, run8, run9, run10, run11, run12, run13, run14, run15, run16, run17, run18, run19, run20, run21, run22, reduceCtorEq, Nat.reduceEqDiff, Nat.reduceAdd, Nat.reduceSub, Nat.reduceLeDiff, indexAddrA, indexRefA, appendA, strA, Nat.reduceMul, Nat.zero_mul, Nat.reduceMod, Int.reduceEq, Int.reduceLT, Int.reduceLE, Nat.reduceLT, Nat.lt_irrefl, Nat.reduceBEq, tys0, tys1, tys2, tys3, tys4, tys5, tys6, tys7, tys8, tys9, tys10, tys11, tys12, tys13, tys14, tys15, tys16, tys17, tys18, Try.ntmps26, Try.results26, g1]
        exact Fin.eq (by rw [hok, show fallsB es = fallB x0 r0 by rw [← hes]; rfl, ← h4]; rfl) rfl
      | cons e r =>
        simp only [List.length_cons] at hdb
        have g1 : (d.length : Int) + 1 < (es.length : Int) := by omega
        have g2 : (es.map av)[d.length]? = some (.agg [.sl false (elems q)]) := by rw [hb]; exact avs_get d (e :: r) q
        have g3 : (es.map av)[d.length + 1]? = some (.agg [.sl false (elems e)]) := by
          have := avs_get (d ++ [q]) r e
          rw [List.append_assoc] at this
          rw [hb]; simpa using this
        have g4 : IntKind.i64.wrap ((d.length : Int) + 1 - 1) = (d.length : Int) := by rw [w64_id (by omega) (by omega)]; omega
        have g5 : IntKind.i64.wrap ((d.length : Int) + 1 + 1) = ((d ++ [q]).length : Int) + 1 := by rw [w64_id (by omega) (by omega)]; simp
        have g6 : ((d.length : Int) + 1).toNat = d.length + 1 := by omega
        have g7 : (0 : Int) ≤ (d.length : Int) + 1 := by omega
        have g8 : (d.length : Int) < (es.length : Int) := by omega
        have hqm : q ∈ es := by rw [hb]; simp
        have hem : e ∈ es := by rw [hb]; simp
        have hc := odCmp_ok q e (hs q hqm) (hs e hem) (goodT_rng (good_of hg hqm)) (goodT_rng (good_of hg hem))
        simp only [av] at hc
        simp only [fallB] at h4
        simp only [run0, run1, run2, run3, run4, run5, run6, run7, run8, run9, run10, run11, run12, run13, run14, run15, run16, run17, run18, run19, run20, run21, run22, reduceCtorEq, Nat.reduceEqDiff, Nat.reduceAdd, Nat.reduceSub, Nat.reduceLeDiff, indexAddrA, indexRefA, appendA, strA, Nat.reduceMul, Nat.zero_mul, Nat.reduceMod, Int.reduceEq, Int.reduceLT, Int.reduceLE, Nat.reduceLT, Nat.lt_irrefl, Nat.reduceBEq, tys0, tys1, tys2, tys3, tys4, tys5, tys6, tys7, tys8, tys9, tys10, tys11, tys12, tys13, tys14, tys15, tys16, tys17, tys18, Try.ntmps26, Try.results26, g1]
        refine ⟨by kernel_rfl, ?_⟩
        simp only [run0, run1, run2, run3, run4, run5, run6, run7, run8, run9, run10, run11, run12, run13, run14, run15, run16, run17, run18, run19, run20, run21, run22, reduceCtorEq, Nat.reduceEqDiff, Nat.reduceAdd, Nat.reduceSub, Nat.reduceLeDiff, indexAddrA, indexRefA, appendA, strA, Nat.reduceMul, Nat.zero_mul, Nat.reduceMod, Int.reduceEq, Int.reduceLT, Int.reduceLE, Nat.reduceLT, Nat.lt_irrefl, Nat.reduceBEq, tys0, tys1, tys2, tys3, tys4, tys5, tys6, tys7, tys8, tys9, tys10, tys11, tys12, tys13, tys14, tys15, tys16, tys17, tys18, Try.ntmps26, Try.results26, g1, g2, g3, g4, g6, g7, g8, Int.toNat_natCast, Int.natCast_nonneg]
        refine RunL.callp rfl rfl ok_f68 (hc) (by first | rfl | simp only [pureL, pureB, Bool.and_self, Bool.and_true, Bool.true_and, Od.elems_pure, Od.pay_pure, Od.av_pure]) rfl ?_
        by_cases hcm : 0 < cmpT q e
        · have k1 : ¬ (cmpT q e ≤ 0) := by omega
          simp only [hcm, decide_true, Bool.true_and] at h4
          simp only [run0, run1, run2, run3, run4, run5, run6, run7, run8, run9, run10, run11, run12, run13, run14, run15, run16, run17, run18, run19, run20, run21, run22, reduceCtorEq, Nat.reduceEqDiff, Nat.reduceAdd, Nat.reduceSub, Nat.reduceLeDiff, indexAddrA, indexRefA, appendA, strA, Nat.reduceMul, Nat.zero_mul, Nat.reduceMod, Int.reduceEq, Int.reduceLT, Int.reduceLE, Nat.reduceLT, Nat.lt_irrefl, Nat.reduceBEq, tys0, tys1, tys2, tys3, tys4, tys5, tys6, tys7, tys8, tys9, tys10, tys11, tys12, tys13, tys14, tys15, tys16, tys17, tys18, Try.ntmps26, Try.results26, k1, g5]
          exact ⟨(d ++ [q], e, r), ⟨by simp [hb], h4⟩, by simp, by simp only [List.length_append, List.length_cons, List.length_nil]; repeat constructor⟩
        · have k1 : cmpT q e ≤ 0 := by omega
          simp only [hcm, decide_false, Bool.false_and] at h4
          simp only [run0, run1, run2, run3, run4, run5, run6, run7, run8, run9, run10, run11, run12, run13, run14, run15, run16, run17, run18, run19, run20, run21, run22, reduceCtorEq, Nat.reduceEqDiff, Nat.reduceAdd, Nat.reduceSub, Nat.reduceLeDiff, indexAddrA, indexRefA, appendA, strA, Nat.reduceMul, Nat.zero_mul, Nat.reduceMod, Int.reduceEq, Int.reduceLT, Int.reduceLE, Nat.reduceLT, Nat.lt_irrefl, Nat.reduceBEq, tys0, tys1, tys2, tys3, tys4, tys5, tys6, tys7, tys8, tys9, tys10, tys11, tys12, tys13, tys14, tys15, tys16, tys17, tys18, Try.ntmps26, Try.results26, k1]
          exact Fin.eq (by rw [hok, show fallsB es = fallB x0 r0 by rw [← hes]; rfl, ← h4]; rfl) rfl

def firstO : List Od → Int → Int
  | [], _ => -1
  | e :: r, i => if goodT e then firstO r (i + 1) else i
theorem firstO_all : ∀ (es : List Od) (i : Int), 0 ≤ i → decide (0 ≤ firstO es i) = !es.all goodT
  | [], i, _ => rfl
  | e :: r, i, h => by
    have ih := firstO_all r (i + 1) (by omega)
    simp only [firstO, List.all_cons]
    by_cases h1 : goodT e = true
    · simpa [h1] using ih
    · simpa [h1] using h
theorem closO_ok (e : Od) (h : e.sz ≤ 1048576) : Ct Try.prog 70 [.agg [.sl false (elems e)]] [] (.bool (!goodT e)) [] := by
  have ht := IsOrdinal_ok e h
  simp only [av] at ht
  refine Ct.by_ hmix [] Try.func70 rfl ?_
  simp only [run0, run1, run2, run3, run4, run5, run6, run7, run8, run9, run10, run11, run12, run13, run14, run15, run16, run17, run18, run19, run20, run21, run22, reduceCtorEq, Nat.reduceEqDiff, Nat.reduceAdd, Nat.reduceSub, Nat.reduceLeDiff, indexAddrA, indexRefA, appendA, strA, Nat.reduceMul, Nat.zero_mul, Nat.reduceMod, Int.reduceEq, Int.reduceLT, Int.reduceLE, Nat.reduceLT, Nat.lt_irrefl, Nat.reduceBEq, tys0, tys1, tys2, tys3, tys4, tys5, tys6, tys7, tys8, tys9, tys10, tys11, tys12, tys13, tys14, tys15, tys16, tys17, tys18, Try.ntmps70, Try.results70]
  refine RunL.callp rfl rfl ok_f63 (ht) (by first | rfl | simp only [pureL, pureB, Bool.and_self, Bool.and_true, Bool.true_and, Od.elems_pure, Od.pay_pure, Od.av_pure]) rfl ?_
  simp only [run0, run1, run2, run3, run4, run5, run6, run7, run8, run9, run10, run11, run12, run13, run14, run15, run16, run17, run18, run19, run20, run21, run22, reduceCtorEq, Nat.reduceEqDiff, Nat.reduceAdd, Nat.reduceSub, Nat.reduceLeDiff, indexAddrA, indexRefA, appendA, strA, Nat.reduceMul, Nat.zero_mul, Nat.reduceMod, Int.reduceEq, Int.reduceLT, Int.reduceLE, Nat.reduceLT, Nat.lt_irrefl, Nat.reduceBEq, tys0, tys1, tys2, tys3, tys4, tys5, tys6, tys7, tys8, tys9, tys10, tys11, tys12, tys13, tys14, tys15, tys16, tys17, tys18, Try.ntmps70, Try.results70]
  exact Fin.eq rfl rfl
theorem contO_ok (es : List Od) (hl : es.length ≤ 1048576) (hs : ∀ e ∈ es, e.sz ≤ 1048576) : Ct Try.prog 69 [.sl false (es.map av), .fn 70 []] [] (.bool (!es.all goodT)) [] := by
  have hi : Ct Try.prog 106 [.sl false (es.map av), .fn 70 []] [] (.int .i64 (firstO es 0)) [] := by
    refine Ct.by_ hmix [] Try.func106 rfl ?_
    simp only [run0, run1, run2, run3, run4, run5, run6, run7, run8, run9, run10, run11, run12, run13, run14, run15, run16, run17, run18, run19, run20, run21, run22, reduceCtorEq, Nat.reduceEqDiff, Nat.reduceAdd, Nat.reduceSub, Nat.reduceLeDiff, indexAddrA, indexRefA, appendA, strA, Nat.reduceMul, Nat.zero_mul, Nat.reduceMod, Int.reduceEq, Int.reduceLT, Int.reduceLE, Nat.reduceLT, Nat.lt_irrefl, Nat.reduceBEq, tys0, tys1, tys2, tys3, tys4, tys5, tys6, tys7, tys8, tys9, tys10, tys11, tys12, tys13, tys14, tys15, tys16, tys17, tys18, Try.ntmps106, Try.results106]
    refine AWp.loop_inv (ι := List Od × List Od) (fun p => ⟨[.sl false (es.map av), .fn 70 [], .junk, .junk, .int .i64 0, .junk, .junk, .int .i64 es.length, .int .i64 p.1.length, .junk, .junk, .junk, .junk, .junk, .junk, .junk, .junk, .junk, .junk], []⟩)
      (fun p => es = p.1 ++ p.2 ∧ firstO p.2 p.1.length = firstO es 0) (fun p => p.2.length) ([], es) ⟨rfl, rfl⟩ ⟨by simp only [List.length_nil, Int.natCast_zero]; repeat constructor, rfl⟩ ?_
    rintro ⟨d, r⟩ ⟨ha, h4⟩
    refine W.sound hmix (E := []) ?_
    simp only at ha h4
    have hda : d.length + r.length = es.length := by rw [ha, List.length_append]
    cases r with
    | nil =>
      have e1 : ¬ ((d.length : Int) < (es.length : Int)) := by simp at hda; omega
      simp only [run0, run1, run2, run3, run4, run5, run6, run7, run8, run9, run10, run11, run12, run13, run14, run15, run16, run17, run18, run19, run20, run21, run22, reduceCtorEq, Nat.reduceEqDiff, Nat.reduceAdd, Nat.reduceSub, Nat.reduceLeDiff, indexAddrA, indexRefA, appendA, strA, Nat.reduceMul, Nat.zero_mul, Nat.reduceMod, Int.reduceEq, Int.reduceLT, Int.reduceLE, Nat.reduceLT, Nat.lt_irrefl, Nat.reduceBEq, tys0, tys1, tys2, tys3, tys4, tys5, tys6, tys7, tys8, tys9, tys10, tys11, tys12, tys13, tys14, tys15, tys16, tys17, tys18, Try.ntmps106, Try.results106, e1]
      exact Fin.eq (by rw [← h4]; rfl) rfl
    | cons e r =>
      simp only [List.length_cons] at hda
      have e1 : (d.length : Int) < (es.length : Int) := by omega
      have e2 : (es.map av)[d.length]? = some (.agg [.sl false (elems e)]) := by rw [ha]; exact avs_get d r e
      have e5 : IntKind.i64.wrap ((d.length : Int) + 1) = ((d ++ [e]).length : Int) := by rw [w64_id (by omega) (by omega)]; simp
      have hd1 : ((d ++ [e]).length : Int) = (d.length : Int) + 1 := by simp
      simp only [firstO] at h4
      simp only [run0, run1, run2, run3, run4, run5, run6, run7, run8, run9, run10, run11, run12, run13, run14, run15, run16, run17, run18, run19, run20, run21, run22, reduceCtorEq, Nat.reduceEqDiff, Nat.reduceAdd, Nat.reduceSub, Nat.reduceLeDiff, indexAddrA, indexRefA, appendA, strA, Nat.reduceMul, Nat.zero_mul, Nat.reduceMod, Int.reduceEq, Int.reduceLT, Int.reduceLE, Nat.reduceLT, Nat.lt_irrefl, Nat.reduceBEq, tys0, tys1, tys2, tys3, tys4, tys5, tys6, tys7, tys8, tys9, tys10, tys11, tys12, tys13, tys14, tys15, tys16, tys17, tys18, Try.ntmps106, Try.results106, e1, e2, Int.toNat_natCast, Int.natCast_nonneg]
      refine RunL.callcp rfl rfl rfl ok_f70 rfl (closO_ok e (hs e (by rw [ha]; simp))) (by first | rfl | simp only [pureL, pureB, Bool.and_self, Bool.and_true, Bool.true_and, Od.elems_pure, Od.pay_pure, Od.av_pure]) rfl ?_
      simp only [run0, run1, run2, run3, run4, run5, run6, run7, run8, run9, run10, run11, run12, run13, run14, run15, run16, run17, run18, run19, run20, run21, run22, reduceCtorEq, Nat.reduceEqDiff, Nat.reduceAdd, Nat.reduceSub, Nat.reduceLeDiff, indexAddrA, indexRefA, appendA, strA, Nat.reduceMul, Nat.zero_mul, Nat.reduceMod, Int.reduceEq, Int.reduceLT, Int.reduceLE, Nat.reduceLT, Nat.lt_irrefl, Nat.reduceBEq, tys0, tys1, tys2, tys3, tys4, tys5, tys6, tys7, tys8, tys9, tys10, tys11, tys12, tys13, tys14, tys15, tys16, tys17, tys18, Try.ntmps106, Try.results106]
      cases h1 : goodT e
      · rw [h1] at h4
        simp only [run0, run1, run2, run3, run4, run5, run6, run7, run8, run9, run10, run11, run12, run13, run14, run15, run16, run17, run18, run19, run20, run21, run22, reduceCtorEq, Nat.reduceEqDiff, Nat.reduceAdd, Nat.reduceSub, Nat.reduceLeDiff, indexAddrA, indexRefA, appendA, strA, Nat.reduceMul, Nat.zero_mul, Nat.reduceMod, Int.reduceEq, Int.reduceLT, Int.reduceLE, Nat.reduceLT, Nat.lt_irrefl, Nat.reduceBEq, tys0, tys1, tys2, tys3, tys4, tys5, tys6, tys7, tys8, tys9, tys10, tys11, tys12, tys13, tys14, tys15, tys16, tys17, tys18, Try.ntmps106, Try.results106, h1]
        exact Fin.eq (by rw [← h4]; rfl) rfl
      · rw [h1] at h4
        simp only [run0, run1, run2, run3, run4, run5, run6, run7, run8, run9, run10, run11, run12, run13, run14, run15, run16, run17, run18, run19, run20, run21, run22, reduceCtorEq, Nat.reduceEqDiff, Nat.reduceAdd, Nat.reduceSub, Nat.reduceLeDiff, indexAddrA, indexRefA, appendA, strA, Nat.reduceMul, Nat.zero_mul, Nat.reduceMod, Int.reduceEq, Int.reduceLT, Int.reduceLE, Nat.reduceLT, Nat.lt_irrefl, Nat.reduceBEq, tys0, tys1, tys2, tys3, tys4, tys5, tys6, tys7, tys8, tys9, tys10, tys11, tys12, tys13, tys14, tys15, tys16, tys17, tys18, Try.ntmps106, Try.results106, h1, e5]
        exact ⟨(d ++ [e], r), ⟨by simp [ha], by simp only [hd1]; simpa using h4⟩, by simp, by simp only [List.length_append, List.length_cons, List.length_nil]; repeat constructor⟩
  refine Ct.by_ hmix [] Try.func69 rfl ?_
  simp only [run0, run1, run2, run3, run4, run5, run6, run7, run8, run9, run10, run11, run12, run13, run14, run15, run16, run17, run18, run19, run20, run21, run22, reduceCtorEq, Nat.reduceEqDiff, Nat.reduceAdd, Nat.reduceSub, Nat.reduceLeDiff, indexAddrA, indexRefA, appendA, strA, Nat.reduceMul, Nat.zero_mul, Nat.reduceMod, Int.reduceEq, Int.reduceLT, Int.reduceLE, Nat.reduceLT, Nat.lt_irrefl, Nat.reduceBEq, tys0, tys1, tys2, tys3, tys4, tys5, tys6, tys7, tys8, tys9, tys10, tys11, tys12, tys13, tys14, tys15, tys16, tys17, tys18, Try.ntmps69, Try.results69]
  refine RunL.callp rfl rfl ok_f106 hi (by simp only [pureL, pureB, avs_pure, Bool.and_self, Bool.and_true]) rfl ?_
  simp only [run0, run1, run2, run3, run4, run5, run6, run7, run8, run9, run10, run11, run12, run13, run14, run15, run16, run17, run18, run19, run20, run21, run22, reduceCtorEq, Nat.reduceEqDiff, Nat.reduceAdd, Nat.reduceSub, Nat.reduceLeDiff, indexAddrA, indexRefA, appendA, strA, Nat.reduceMul, Nat.zero_mul, Nat.reduceMod, Int.reduceEq, Int.reduceLT, Int.reduceLE, Nat.reduceLT, Nat.lt_irrefl, Nat.reduceBEq, tys0, tys1, tys2, tys3, tys4, tys5, tys6, tys7, tys8, tys9, tys10, tys11, tys12, tys13, tys14, tys15, tys16, tys17, tys18, Try.ntmps69, Try.results69]
  exact Fin.eq (by rw [firstO_all es 0 (by omega)]) rfl

theorem implDes_ok (es : List Od) (hl : es.length ≤ 1048576) (hs : ∀ e ∈ es, e.sz ≤ 1048576) : Ct Try.prog 28 [.sl false (es.map av)] [] (.tup [.bool (desOk es && fallsB es), .bool (desOk es)]) [] := by
  refine Ct.by_ hmix [] Try.func28 rfl ?_
  simp only [run0, run1, run2, run3, run4, run5, run6, run7, run8, run9, run10, run11, run12, run13, run14, run15, run16, run17, run18, run19, run20, run21, run22, reduceCtorEq, Nat.reduceEqDiff, Nat.reduceAdd, Nat.reduceSub, Nat.reduceLeDiff, indexAddrA, indexRefA, appendA, strA, Nat.reduceMul, Nat.zero_mul, Nat.reduceMod, Int.reduceEq, Int.reduceLT, Int.reduceLE, Nat.reduceLT, Nat.lt_irrefl, Nat.reduceBEq, tys0, tys1, tys2, tys3, tys4, tys5, tys6, tys7, tys8, tys9, tys10, tys11, tys12, tys13, tys14, tys15, tys16, tys17, tys18, Try.ntmps28, Try.results28]
  by_cases hlen : (61 : Int) < (es.length : Int)
  · simp only [run0, run1, run2, run3, run4, run5, run6, run7, run8, run9, run10, run11, run12, run13, run14, run15, run16, run17, run18, run19, run20, run21, run22, reduceCtorEq, Nat.reduceEqDiff, Nat.reduceAdd, Nat.reduceSub, Nat.reduceLeDiff, indexAddrA, indexRefA, appendA, strA, Nat.reduceMul, Nat.zero_mul, Nat.reduceMod, Int.reduceEq, Int.reduceLT, Int.reduceLE, Nat.reduceLT, Nat.lt_irrefl, Nat.reduceBEq, tys0, tys1, tys2, tys3, tys4, tys5, tys6, tys7, tys8, tys9, tys10, tys11, tys12, tys13, tys14, tys15, tys16, tys17, tys18, Try.ntmps28, Try.results28, hlen]
    exact Fin.eq (by simp only [desOk]; rw [show decide (es.length ≤ 61) = false by simp; omega]; rfl) rfl
  simp only [run0, run1, run2, run3, run4, run5, run6, run7, run8, run9, run10, run11, run12, run13, run14, run15, run16, run17, run18, run19, run20, run21, run22, reduceCtorEq, Nat.reduceEqDiff, Nat.reduceAdd, Nat.reduceSub, Nat.reduceLeDiff, indexAddrA, indexRefA, appendA, strA, Nat.reduceMul, Nat.zero_mul, Nat.reduceMod, Int.reduceEq, Int.reduceLT, Int.reduceLE, Nat.reduceLT, Nat.lt_irrefl, Nat.reduceBEq, tys0, tys1, tys2, tys3, tys4, tys5, tys6, tys7, tys8, tys9, tys10, tys11, tys12, tys13, tys14, tys15, tys16, tys17, tys18, Try.ntmps28, Try.results28, hlen]
  have hle : decide (es.length ≤ 61) = true := by simp; omega
  refine RunL.callp rfl rfl ok_f69 (contO_ok es hl hs) (by simp only [pureL, pureB, avs_pure, Bool.and_self, Bool.and_true]) rfl ?_
  cases hg : es.all goodT
  · simp only [run0, run1, run2, run3, run4, run5, run6, run7, run8, run9, run10, run11, run12, run13, run14, run15, run16, run17, run18, run19, run20, run21, run22, reduceCtorEq, Nat.reduceEqDiff, Nat.reduceAdd, Nat.reduceSub, Nat.reduceLeDiff, indexAddrA, indexRefA, appendA, strA, Nat.reduceMul, Nat.zero_mul, Nat.reduceMod, Int.reduceEq, Int.reduceLT, Int.reduceLE, Nat.reduceLT, Nat.lt_irrefl, Nat.reduceBEq, tys0, tys1, tys2, tys3, tys4, tys5, tys6, tys7, tys8, tys9, tys10, tys11, tys12, tys13, tys14, tys15, tys16, tys17, tys18, Try.ntmps28, Try.results28, hg]
    exact Fin.eq (by simp [desOk, hg]) rfl
  have hok : desOk es = true := by simp [desOk, hle, hg]
  simp only [run0, run1, run2, run3, run4, run5, run6, run7, run8, run9, run10, run11, run12, run13, run14, run15, run16, run17, run18, run19, run20, run21, run22, reduceCtorEq, Nat.reduceEqDiff, Nat.reduceAdd, Nat.reduceSub, Nat.reduceLeDiff, indexAddrA, indexRefA, appendA, strA, Nat.reduceMul, Nat.zero_mul, Nat.reduceMod, Int.reduceEq, Int.reduceLT, Int.reduceLE, Nat.reduceLT, Nat.lt_irrefl, Nat.reduceBEq, tys0, tys1, tys2, tys3, tys4, tys5, tys6, tys7, tys8, tys9, tys10, tys11, tys12, tys13, tys14, tys15, tys16, tys17, tys18, Try.ntmps28, Try.results28, hg]
  cases es with
  | nil =>
    refine AWp.loop_inv (ι := Unit) (fun _ => ⟨[.sl false [], .junk, .bool false, .bool false, .bool true, .int .i64 1, .junk, .junk, .junk, .junk, .junk, .junk, .junk, .junk, .junk, .junk, .junk, .junk, .junk, .junk, .junk, .junk, .junk, .junk, .junk, .junk, .junk, .junk, .junk, .junk, .junk, .junk, .junk, .junk], []⟩) (fun _ => True) (fun _ => 0) () trivial ⟨by repeat constructor, rfl⟩ ?_
    rintro _ _
    refine W.sound hmix (E := []) ?_
    simp only [run0, run1, run2, run3, run4, run5, run6, run7, run8, run9, run10, run11, run12, run13, run14, run15, run16, run17, run18, run19, run20, run21, run22, reduceCtorEq, Nat.reduceEqDiff, Nat.reduceAdd, Nat.reduceSub, Nat.reduceLeDiff, indexAddrA, indexRefA, appendA, strA, Nat.reduceMul, Nat.zero_mul, Nat.reduceMod, Int.reduceEq, Int.reduceLT, Int.reduceLE, Nat.reduceLT, Nat.lt_irrefl, Nat.reduceBEq, tys0, tys1, tys2, tys3, tys4, tys5, tys6, tys7, tys8, tys9, tys10, tys11, tys12, tys13, tys14, tys15, tys16, tys17, tys18, Try.ntmps28, Try.results28, Int.natCast_zero]
    exact Fin.eq (by simp [hok, fallsB]) rfl
  | cons x0 r0 =>
    refine AWp.loop_inv (ι := List Od × Od × List Od × Bool) (fun p => ⟨[.sl false ((x0 :: r0).map av), .junk, .bool false, .bool false, .bool p.2.2.2, .int .i64 (p.1.length + 1), .junk, .junk, .junk, .junk, .junk, .junk, .junk, .junk, .junk, .junk, .junk, .junk, .junk, .junk, .junk, .junk, .junk, .junk, .junk, .junk, .junk, .junk, .junk, .junk, .junk, .junk, .junk, .junk], []⟩)
      (fun p => x0 :: r0 = p.1 ++ p.2.1 :: p.2.2.1 ∧ (p.2.2.2 && fallB p.2.1 p.2.2.1) = fallB x0 r0) (fun p => p.2.2.1.length) ([], x0, r0, true) ⟨rfl, rfl⟩ ⟨by simp only [List.length_nil, Int.natCast_zero]; repeat constructor, rfl⟩ ?_
    rintro ⟨d, q, r, fl⟩ ⟨hb, h4⟩
    refine W.sound hmix (E := []) ?_
    simp only at hb h4
    have hdb : d.length + (r.length + 1) = (x0 :: r0).length := by rw [hb]; simp
    generalize hes : x0 :: r0 = es at *
    cases r with
    | nil =>
      have g1 : ¬ ((d.length : Int) + 1 < (es.length : Int)) := by simp at hdb; omega
      simp only [run0, run1, run2, run3, run4, run5, run6, run7, run8, run9, run10, run11, run12, run13, run14, run15, run16, run17, run18, run19, run20, run21, run22, reduceCtorEq, Nat.reduceEqDiff, Nat.reduceAdd, Nat.reduceSub, Nat.reduceLeDiff, indexAddrA, indexRefA, appendA, strA, Nat.reduceMul, Nat.zero_mul, Nat.reduceMod, Int.reduceEq, Int.reduceLT, Int.reduceLE, Nat.reduceLT, Nat.lt_irrefl, Nat.reduceBEq, tys0, tys1, tys2, tys3, tys4, tys5, tys6, tys7, tys8, tys9, tys10, tys11, tys12, tys13, tys14, tys15, tys16, tys17, tys18, Try.ntmps28, Try.results28, g1]
      exact Fin.eq (by rw [hok, show fallsB es = fallB x0 r0 by rw [← hes]; rfl, ← h4]; simp [fallB]) rfl
    | cons e r =>
      simp only [List.length_cons] at hdb
      have g1 : (d.length : Int) + 1 < (es.length : Int) := by omega
      have g2 : (es.map av)[d.length]? = some (.agg [.sl false (elems q)]) := by rw [hb]; exact avs_get d (e :: r) q
      have g3 : (es.map av)[d.length + 1]? = some (.agg [.sl false (elems e)]) := by
        have := avs_get (d ++ [q]) r e
        rw [List.append_assoc] at this
        rw [hb]; simpa using this
      have g4 : IntKind.i64.wrap ((d.length : Int) + 1 - 1) = (d.length : Int) := by rw [w64_id (by omega) (by omega)]; omega
      have g5 : IntKind.i64.wrap ((d.length : Int) + 1 + 1) = ((d ++ [q]).length : Int) + 1 := by rw [w64_id (by omega) (by omega)]; simp
      have g6 : ((d.length : Int) + 1).toNat = d.length + 1 := by omega
      have g7 : (0 : Int) ≤ (d.length : Int) + 1 := by omega
      have g8 : (d.length : Int) < (es.length : Int) := by omega
      have hqm : q ∈ es := by rw [hb]; simp
      have hem : e ∈ es := by rw [hb]; simp
      have hc := cmp_ok q e (hs q hqm) (hs e hem)
      simp only [av] at hc
      simp only [fallB] at h4
      simp only [run0, run1, run2, run3, run4, run5, run6, run7, run8, run9, run10, run11, run12, run13, run14, run15, run16, run17, run18, run19, run20, run21, run22, reduceCtorEq, Nat.reduceEqDiff, Nat.reduceAdd, Nat.reduceSub, Nat.reduceLeDiff, indexAddrA, indexRefA, appendA, strA, Nat.reduceMul, Nat.zero_mul, Nat.reduceMod, Int.reduceEq, Int.reduceLT, Int.reduceLE, Nat.reduceLT, Nat.lt_irrefl, Nat.reduceBEq, tys0, tys1, tys2, tys3, tys4, tys5, tys6, tys7, tys8, tys9, tys10, tys11, tys12, tys13, tys14, tys15, tys16, tys17, tys18, Try.ntmps28, Try.results28, g1]
      refine ⟨by kernel_rfl, ?_⟩
      cases fl with
      | false =>
        simp only [run0, run1, run2, run3, run4, run5, run6, run7, run8, run9, run10, run11, run12, run13, run14, run15, run16, run17, run18, run19, run20, run21, run22, reduceCtorEq, Nat.reduceEqDiff, Nat.reduceAdd, Nat.reduceSub, Nat.reduceLeDiff, indexAddrA, indexRefA, appendA, strA, Nat.reduceMul, Nat.zero_mul, Nat.reduceMod, Int.reduceEq, Int.reduceLT, Int.reduceLE, Nat.reduceLT, Nat.lt_irrefl, Nat.reduceBEq, tys0, tys1, tys2, tys3, tys4, tys5, tys6, tys7, tys8, tys9, tys10, tys11, tys12, tys13, tys14, tys15, tys16, tys17, tys18, Try.ntmps28, Try.results28, g5]
        exact ⟨(d ++ [q], e, r, false), ⟨by simp [hb], by simpa using h4⟩, by simp, by simp only [List.length_append, List.length_cons, List.length_nil]; repeat constructor⟩
      | true =>
        simp only [run0, run1, run2, run3, run4, run5, run6, run7, run8, run9, run10, run11, run12, run13, run14, run15, run16, run17, run18, run19, run20, run21, run22, reduceCtorEq, Nat.reduceEqDiff, Nat.reduceAdd, Nat.reduceSub, Nat.reduceLeDiff, indexAddrA, indexRefA, appendA, strA, Nat.reduceMul, Nat.zero_mul, Nat.reduceMod, Int.reduceEq, Int.reduceLT, Int.reduceLE, Nat.reduceLT, Nat.lt_irrefl, Nat.reduceBEq, tys0, tys1, tys2, tys3, tys4, tys5, tys6, tys7, tys8, tys9, tys10, tys11, tys12, tys13, tys14, tys15, tys16, tys17, tys18, Try.ntmps28, Try.results28, g1, g2, g3, g4, g6, g7, g8, Int.toNat_natCast, Int.natCast_nonneg]
        refine RunL.callp rfl rfl ok_f71 (hc) (by first | rfl | simp only [pureL, pureB, Bool.and_self, Bool.and_true, Bool.true_and, Od.elems_pure, Od.pay_pure, Od.av_pure]) rfl ?_
        simp only [run0, run1, run2, run3, run4, run5, run6, run7, run8, run9, run10, run11, run12, run13, run14, run15, run16, run17, run18, run19, run20, run21, run22, reduceCtorEq, Nat.reduceEqDiff, Nat.reduceAdd, Nat.reduceSub, Nat.reduceLeDiff, indexAddrA, indexRefA, appendA, strA, Nat.reduceMul, Nat.zero_mul, Nat.reduceMod, Int.reduceEq, Int.reduceLT, Int.reduceLE, Nat.reduceLT, Nat.lt_irrefl, Nat.reduceBEq, tys0, tys1, tys2, tys3, tys4, tys5, tys6, tys7, tys8, tys9, tys10, tys11, tys12, tys13, tys14, tys15, tys16, tys17, tys18, Try.ntmps28, Try.results28, g5]
        exact ⟨(d ++ [q], e, r, decide (0 < cmpT q e)), ⟨by simp [hb], by simpa using h4⟩, by simp, by simp only [List.length_append, List.length_cons, List.length_nil]; repeat constructor⟩

theorem FnExactIsDescent_ok {a0 : AV} (h0 : IsOf Try.prog 43 a0) : Ct Try.prog 6 [a0] [] (.bool true) [] := by
  obtain ⟨es, rfl, hf⟩ := laws_isOds h0
  refine Ct.by_ hmix [] Try.func6 rfl ?_
  simp only [run0, run1, run2, run3, run4, run5, run6, run7, run8, run9, run10, run11, run12, run13, run14, run15, run16, run17, run18, run19, run20, run21, run22, reduceCtorEq, Nat.reduceEqDiff, Nat.reduceAdd, Nat.reduceSub, Nat.reduceLeDiff, indexAddrA, indexRefA, appendA, strA, Nat.reduceMul, Nat.zero_mul, Nat.reduceMod, Int.reduceEq, Int.reduceLT, Int.reduceLE, Nat.reduceLT, Nat.lt_irrefl, Nat.reduceBEq, tys0, tys1, tys2, tys3, tys4, tys5, tys6, tys7, tys8, tys9, tys10, tys11, tys12, tys13, tys14, tys15, tys16, tys17, tys18, Try.ntmps6, Try.results6]
  refine RunL.callp rfl rfl ok_f25 (szOrdinalS_ok es 1048576 hf (by omega) (by omega)) (by simp only [pureL, pureB, avs_pure, Bool.and_self, Bool.and_true]) rfl ?_
  rcases szR_spec (es.length + lszO es) 1048576 with ⟨hs, hr⟩ | ⟨hs, hr⟩
  case inr =>
    have e1 : szR (es.length + lszO es) 1048576 < 0 := by omega
    simp only [run0, run1, run2, run3, run4, run5, run6, run7, run8, run9, run10, run11, run12, run13, run14, run15, run16, run17, run18, run19, run20, run21, run22, reduceCtorEq, Nat.reduceEqDiff, Nat.reduceAdd, Nat.reduceSub, Nat.reduceLeDiff, indexAddrA, indexRefA, appendA, strA, Nat.reduceMul, Nat.zero_mul, Nat.reduceMod, Int.reduceEq, Int.reduceLT, Int.reduceLE, Nat.reduceLT, Nat.lt_irrefl, Nat.reduceBEq, tys0, tys1, tys2, tys3, tys4, tys5, tys6, tys7, tys8, tys9, tys10, tys11, tys12, tys13, tys14, tys15, tys16, tys17, tys18, Try.ntmps6, Try.results6, e1]
    exact Fin.eq rfl rfl
  have e1 : ¬ (szR (es.length + lszO es) 1048576 < 0) := by omega
  have hl : es.length ≤ 1048576 := by omega
  have hall : ∀ e ∈ es, e.sz ≤ 1048576 := fun e he => by
    obtain ⟨d, r, rfl⟩ := List.append_of_mem he
    rw [lszO_app] at hs
    simp only [lszO] at hs
    omega
  simp only [run0, run1, run2, run3, run4, run5, run6, run7, run8, run9, run10, run11, run12, run13, run14, run15, run16, run17, run18, run19, run20, run21, run22, reduceCtorEq, Nat.reduceEqDiff, Nat.reduceAdd, Nat.reduceSub, Nat.reduceLeDiff, indexAddrA, indexRefA, appendA, strA, Nat.reduceMul, Nat.zero_mul, Nat.reduceMod, Int.reduceEq, Int.reduceLT, Int.reduceLE, Nat.reduceLT, Nat.lt_irrefl, Nat.reduceBEq, tys0, tys1, tys2, tys3, tys4, tys5, tys6, tys7, tys8, tys9, tys10, tys11, tys12, tys13, tys14, tys15, tys16, tys17, tys18, Try.ntmps6, Try.results6, e1]
  refine RunL.callp rfl rfl ok_f27 (toOrdinalS_ok es hl hall) (by simp only [pureL, pureB, avs_pure, Bool.and_self, Bool.and_true]) rfl ?_
  simp only [run0, run1, run2, run3, run4, run5, run6, run7, run8, run9, run10, run11, run12, run13, run14, run15, run16, run17, run18, run19, run20, run21, run22, reduceCtorEq, Nat.reduceEqDiff, Nat.reduceAdd, Nat.reduceSub, Nat.reduceLeDiff, indexAddrA, indexRefA, appendA, strA, Nat.reduceMul, Nat.zero_mul, Nat.reduceMod, Int.reduceEq, Int.reduceLT, Int.reduceLE, Nat.reduceLT, Nat.lt_irrefl, Nat.reduceBEq, tys0, tys1, tys2, tys3, tys4, tys5, tys6, tys7, tys8, tys9, tys10, tys11, tys12, tys13, tys14, tys15, tys16, tys17, tys18, Try.ntmps6, Try.results6]
  refine RunL.callp rfl rfl ok_f26 (specDes_ok es hl hall) (by simp only [pureL, pureB, avs_pure, Bool.and_self, Bool.and_true]) rfl ?_
  simp only [run0, run1, run2, run3, run4, run5, run6, run7, run8, run9, run10, run11, run12, run13, run14, run15, run16, run17, run18, run19, run20, run21, run22, reduceCtorEq, Nat.reduceEqDiff, Nat.reduceAdd, Nat.reduceSub, Nat.reduceLeDiff, indexAddrA, indexRefA, appendA, strA, Nat.reduceMul, Nat.zero_mul, Nat.reduceMod, Int.reduceEq, Int.reduceLT, Int.reduceLE, Nat.reduceLT, Nat.lt_irrefl, Nat.reduceBEq, tys0, tys1, tys2, tys3, tys4, tys5, tys6, tys7, tys8, tys9, tys10, tys11, tys12, tys13, tys14, tys15, tys16, tys17, tys18, Try.ntmps6, Try.results6]
  refine RunL.callp rfl rfl ok_f27 (toOrdinalS_ok es hl hall) (by simp only [pureL, pureB, avs_pure, Bool.and_self, Bool.and_true]) rfl ?_
  simp only [run0, run1, run2, run3, run4, run5, run6, run7, run8, run9, run10, run11, run12, run13, run14, run15, run16, run17, run18, run19, run20, run21, run22, reduceCtorEq, Nat.reduceEqDiff, Nat.reduceAdd, Nat.reduceSub, Nat.reduceLeDiff, indexAddrA, indexRefA, appendA, strA, Nat.reduceMul, Nat.zero_mul, Nat.reduceMod, Int.reduceEq, Int.reduceLT, Int.reduceLE, Nat.reduceLT, Nat.lt_irrefl, Nat.reduceBEq, tys0, tys1, tys2, tys3, tys4, tys5, tys6, tys7, tys8, tys9, tys10, tys11, tys12, tys13, tys14, tys15, tys16, tys17, tys18, Try.ntmps6, Try.results6]
  refine RunL.callp rfl rfl ok_f28 (implDes_ok es hl hall) (by simp only [pureL, pureB, avs_pure, Bool.and_self, Bool.and_true]) rfl ?_
  simp only [run0, run1, run2, run3, run4, run5, run6, run7, run8, run9, run10, run11, run12, run13, run14, run15, run16, run17, run18, run19, run20, run21, run22, reduceCtorEq, Nat.reduceEqDiff, Nat.reduceAdd, Nat.reduceSub, Nat.reduceLeDiff, indexAddrA, indexRefA, appendA, strA, Nat.reduceMul, Nat.zero_mul, Nat.reduceMod, Int.reduceEq, Int.reduceLT, Int.reduceLE, Nat.reduceLT, Nat.lt_irrefl, Nat.reduceBEq, tys0, tys1, tys2, tys3, tys4, tys5, tys6, tys7, tys8, tys9, tys10, tys11, tys12, tys13, tys14, tys15, tys16, tys17, tys18, Try.ntmps6, Try.results6, bne_self_eq_false]
  refine RunL.callp rfl rfl ok_f27 (toOrdinalS_ok es hl hall) (by simp only [pureL, pureB, avs_pure, Bool.and_self, Bool.and_true]) rfl ?_
  simp only [run0, run1, run2, run3, run4, run5, run6, run7, run8, run9, run10, run11, run12, run13, run14, run15, run16, run17, run18, run19, run20, run21, run22, reduceCtorEq, Nat.reduceEqDiff, Nat.reduceAdd, Nat.reduceSub, Nat.reduceLeDiff, indexAddrA, indexRefA, appendA, strA, Nat.reduceMul, Nat.zero_mul, Nat.reduceMod, Int.reduceEq, Int.reduceLT, Int.reduceLE, Nat.reduceLT, Nat.lt_irrefl, Nat.reduceBEq, tys0, tys1, tys2, tys3, tys4, tys5, tys6, tys7, tys8, tys9, tys10, tys11, tys12, tys13, tys14, tys15, tys16, tys17, tys18, Try.ntmps6, Try.results6]
  refine RunL.callp rfl rfl ok_f29 (eqOrdinalS_ok es hl hall) (by simp only [pureL, pureB, avs_pure, Bool.and_self, Bool.and_true]) rfl ?_
  simp only [run0, run1, run2, run3, run4, run5, run6, run7, run8, run9, run10, run11, run12, run13, run14, run15, run16, run17, run18, run19, run20, run21, run22, reduceCtorEq, Nat.reduceEqDiff, Nat.reduceAdd, Nat.reduceSub, Nat.reduceLeDiff, indexAddrA, indexRefA, appendA, strA, Nat.reduceMul, Nat.zero_mul, Nat.reduceMod, Int.reduceEq, Int.reduceLT, Int.reduceLE, Nat.reduceLT, Nat.lt_irrefl, Nat.reduceBEq, tys0, tys1, tys2, tys3, tys4, tys5, tys6, tys7, tys8, tys9, tys10, tys11, tys12, tys13, tys14, tys15, tys16, tys17, tys18, Try.ntmps6, Try.results6]
  exact Fin.eq rfl rfl

end Go.Proofs.Ytphmkhaboghagaa
