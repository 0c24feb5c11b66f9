/-
  Rows of fractions: of a call's own, compared, marked.
-/
import Derived.Test.YtolfjeedgedblaaF18
namespace Go.Proofs.Ytolfjeedgedblaa
open Go K
set_option linter.unusedSimpArgs false
set_option linter.unusedVariables false
set_option maxHeartbeats 800000

abbrev Fr := Int × Int
def frE (x : Fr) : AV := .agg [.int .i64 x.1, .int .i64 x.2]
theorem frs_get (d r : List Fr) (e : Fr) : ((d ++ e :: r).map frE)[d.length]? = some (.agg [.int .i64 e.1, .int .i64 e.2]) := by simp [frE]
theorem frs_pure : ∀ l : List Fr, pureL (l.map frE) = true
  | [] => rfl
  | e :: r => by simp [frE, pureL, pureB, frs_pure r]
theorem frs_noOwn (l : List Fr) : noOwn (l.map frE) = true := by
  refine List.all_eq_true.2 fun x hx => ?_
  obtain ⟨e, _, rfl⟩ := List.mem_map.1 hx
  rfl
theorem frs_okTL (l : List Fr) : okTL (l.map frE) = true := by
  rw [okTL_mem]
  intro x hx
  obtain ⟨e, _, rfl⟩ := List.mem_map.1 hx
  rfl
theorem frs_okTO (l : List Fr) (T : TypeId) (z g : Nat) : okTO (.vec T z g (l.map frE)) = true := by
  simp only [okTO, frs_okTL, frs_noOwn, Bool.and_self]

/-- A row of fractions of a call's own, or none. -/
def OwnF (L : List AObj) (l : List Fr) (x : AV) (S : List Nat) : Prop := (l = [] ∧ x = nilV ∧ S = []) ∨ ∃ id g, x = .ref id [] g l.length ∧ L[id]? = some (.vec 26 2 g (l.map frE)) ∧ S = [id]
theorem OwnF.mono {L L' : List AObj} {l : List Fr} {x : AV} {S : List Nat} (h : OwnF L l x S) (hf : ∀ id ∈ S, ∀ g es, L[id]? = some (.vec 26 2 g es) → L'[id]? = some (.vec 26 2 g es)) : OwnF L' l x S := by
  rcases h with h | ⟨id, g, h1, h2, rfl⟩
  · exact .inl h
  · exact .inr ⟨id, g, h1, hf id (by simp) _ _ h2, rfl⟩
theorem OwnF.more {L : List AObj} {l : List Fr} {x : AV} {S : List Nat} (h : OwnF L l x S) (X : List AObj) : OwnF (L ++ X) l x S :=
  h.mono fun id hid g es hL => by rw [List.getElem?_append_left (List.getElem?_eq_some_iff.1 hL).1]; exact hL
theorem OwnF.keep {L : List AObj} {l : List Fr} {x : AV} {S S' : List Nat} (h : OwnF L l x S) (hS : ∀ id ∈ S, id ∈ S') : OwnF (keepS S' L) l x S := by
  rcases h with h | ⟨id, g, h1, h2, rfl⟩
  · exact .inl h
  · exact .inr ⟨id, g, h1, keepS_in (hS id (by simp)) (frs_okTO _ _ _ _) h2, rfl⟩
theorem OwnF.sh {M L' : List AObj} {k : Nat} (hg : ∀ id, L'[id + k]? = (M[id]?).map (shO k)) {l : List Fr} {x : AV} {S : List Nat} (h : OwnF M l x S) : OwnF L' l (shA k x) (S.map (· + k)) := by
  rcases h with ⟨h5, rfl, rfl⟩ | ⟨id, g, rfl, h2, rfl⟩
  · exact .inl ⟨h5, rfl, rfl⟩
  · refine .inr ⟨id + k, g, by simp [shA], ?_, by simp⟩
    rw [hg, h2]
    simp [shO, shL_eq, frE, shA, Function.comp_def]
theorem OwnF.lt {L : List AObj} {l : List Fr} {x : AV} {S : List Nat} (h : OwnF L l x S) : ∀ id ∈ S, id < L.length := fun i hi => by
  rcases h with ⟨_, _, rfl⟩ | ⟨id, g, rfl, h2, rfl⟩
  · simp at hi
  · simp at hi; subst hi; exact (List.getElem?_eq_some_iff.1 h2).1
theorem OwnF.nobox {L : List AObj} {l : List Fr} {x : AV} {S : List Nat} (h : OwnF L l x S) {i : Nat} {T : TypeId} {cs : List AV} (hb : L[i]? = some (.box T cs)) : i ∉ S := fun hi => by
  rcases h with ⟨_, _, rfl⟩ | ⟨id, g, rfl, h2, rfl⟩
  · simp at hi
  · simp at hi; subst hi; rw [hb] at h2; cases h2
theorem OwnF.okT {L : List AObj} {l : List Fr} {x : AV} {S : List Nat} (h : OwnF L l x S) : okT x = true := by
  rcases h with ⟨_, rfl, _⟩ | ⟨id, g, rfl, h2, rfl⟩ <;> rfl
theorem OwnF.view {L : List AObj} {l : List Fr} {x : AV} {S : List Nat} (h : OwnF L l x S) : Vw L x (.sl false (l.map frE)) := by
  rcases h with ⟨rfl, rfl, _⟩ | ⟨id, g, rfl, h2, _⟩
  · exact Vw.nil false
  · have := Vw.refPur (L := L) (id := id) (g := g) (n := l.length) (o := false) h2 (by simp) (fun e he c hc => by
      obtain ⟨e', _, rfl⟩ := List.mem_map.1 he
      simp only [frE, AV.cells, List.mem_cons, List.not_mem_nil, or_false] at hc
      rcases hc with rfl | rfl <;> exact ⟨.of rfl, fun xs h => by cases h⟩)
    rw [List.take_of_length_le (by simp)] at this
    exact this

theorem eqFractionS_ok (l : List Fr) (hl : l.length ≤ 1048576) : Ct Try.prog 41 [.sl false (l.map frE), .sl false (l.map frE)] [] (.bool true) [] := by
  refine Ct.by_ hmix [] Try.func41 rfl ?_
  simp only [run0, run1, run2, run3, run4, run5, run6, run7, run8, run9, run10, run11, run12, run13, run14, run15, run16, run17, run18, run19, run20, run21, run22, reduceCtorEq, Nat.reduceEqDiff, Nat.reduceAdd, Nat.reduceSub, Nat.reduceLeDiff, indexAddrA, indexRefA, appendA, strA, Nat.reduceMul, Nat.zero_mul, Nat.reduceMod, Int.reduceEq, Int.reduceLT, Int.reduceLE, Nat.reduceLT, Nat.lt_irrefl, Nat.reduceBEq, tys0, tys1, tys2, tys3, tys4, tys5, tys6, tys7, tys8, tys9, tys10, tys11, Try.ntmps41, Try.results41, bne_self_eq_false]
  refine AWp.loop_inv (ι := List Fr × List Fr) (fun p => ⟨[.sl false (l.map frE), .sl false (l.map frE), .junk, .junk, .bool false, .int .i64 p.1.length, .junk, .junk, .junk, .junk, .junk, .junk, .junk, .junk, .junk, .junk, .junk, .junk, .junk, .junk, .junk, .junk, .junk, .junk, .junk, .junk, .junk], []⟩)
    (fun p => l = p.1 ++ p.2) (fun p => p.2.length) ([], l) rfl ⟨by simp only [List.length_nil, Int.natCast_zero]; repeat constructor, rfl⟩ ?_
  rintro ⟨d, r⟩ ha
  refine W.sound hmix (E := []) ?_
  simp only at ha
  have hda : d.length + r.length = l.length := by rw [ha, List.length_append]
  cases r with
  | nil =>
    have e1 : ¬ ((d.length : Int) < (l.length : Int)) := by simp at hda; omega
    simp only [run0, run1, run2, run3, run4, run5, run6, run7, run8, run9, run10, run11, run12, run13, run14, run15, run16, run17, run18, run19, run20, run21, run22, reduceCtorEq, Nat.reduceEqDiff, Nat.reduceAdd, Nat.reduceSub, Nat.reduceLeDiff, indexAddrA, indexRefA, appendA, strA, Nat.reduceMul, Nat.zero_mul, Nat.reduceMod, Int.reduceEq, Int.reduceLT, Int.reduceLE, Nat.reduceLT, Nat.lt_irrefl, Nat.reduceBEq, tys0, tys1, tys2, tys3, tys4, tys5, tys6, tys7, tys8, tys9, tys10, tys11, Try.ntmps41, Try.results41, e1]
    exact Fin.eq rfl rfl
  | cons e r =>
    simp only [List.length_cons] at hda
    have e1 : (d.length : Int) < (l.length : Int) := by omega
    have e2 : (l.map frE)[d.length]? = some (.agg [.int .i64 e.1, .int .i64 e.2]) := by rw [ha]; exact frs_get d r e
    have e5 : IntKind.i64.wrap ((d.length : Int) + 1) = ((d ++ [e]).length : Int) := by
      have := w64_id (x := (d.length : Int) + 1) (by omega) (by omega)
      simp only [w64] at this
      rw [this]; simp
    simp only [run0, run1, run2, run3, run4, run5, run6, run7, run8, run9, run10, run11, run12, run13, run14, run15, run16, run17, run18, run19, run20, run21, run22, reduceCtorEq, Nat.reduceEqDiff, Nat.reduceAdd, Nat.reduceSub, Nat.reduceLeDiff, indexAddrA, indexRefA, appendA, strA, Nat.reduceMul, Nat.zero_mul, Nat.reduceMod, Int.reduceEq, Int.reduceLT, Int.reduceLE, Nat.reduceLT, Nat.lt_irrefl, Nat.reduceBEq, tys0, tys1, tys2, tys3, tys4, tys5, tys6, tys7, tys8, tys9, tys10, tys11, Try.ntmps41, Try.results41, e1, e2, Int.toNat_natCast, Int.natCast_nonneg]
    refine ⟨by kernel_rfl, ?_⟩
    refine RunL.callp rfl rfl ok_f20 (eqFraction_ok _ _) (by first | rfl | simp only [pureL, pureB, Bool.and_self, Bool.and_true, Bool.true_and]) rfl ?_
    simp only [run0, run1, run2, run3, run4, run5, run6, run7, run8, run9, run10, run11, run12, run13, run14, run15, run16, run17, run18, run19, run20, run21, run22, reduceCtorEq, Nat.reduceEqDiff, Nat.reduceAdd, Nat.reduceSub, Nat.reduceLeDiff, indexAddrA, indexRefA, appendA, strA, Nat.reduceMul, Nat.zero_mul, Nat.reduceMod, Int.reduceEq, Int.reduceLT, Int.reduceLE, Nat.reduceLT, Nat.lt_irrefl, Nat.reduceBEq, tys0, tys1, tys2, tys3, tys4, tys5, tys6, tys7, tys8, tys9, tys10, tys11, Try.ntmps41, Try.results41, e5, beq_self_eq_true]
    exact ⟨(d ++ [e], r), by simp [ha], by simp, by simp only [List.length_append, List.length_cons, List.length_nil]; repeat constructor⟩

/-- The marks from 'k' on. -/
def mkF : List Fr → Int → List Fr
  | [], _ => []
  | _ :: r, k => (k, k + 1) :: mkF r (k + 2)
theorem mkF_len : ∀ (l : List Fr) (k : Int), (mkF l k).length = l.length
  | [], _ => rfl
  | e :: r, k => by simp [mkF, mkF_len r]
theorem mkF_app : ∀ (d r : List Fr) (k : Int), mkF (d ++ r) k = mkF d k ++ mkF r (k + 2 * d.length)
  | [], r, k => by simp [mkF]
  | e :: d, r, k => by
    simp only [mkF, List.cons_append, mkF_app d r, List.length_cons]
    rw [show k + 2 + 2 * (d.length : Int) = k + 2 * ((d.length + 1 : Nat) : Int) by omega]
theorem heldFractionS_ok (l : List Fr) (k : Int) (hl : l.length ≤ 1048576) (h0 : 0 ≤ k) (hk : k ≤ 4611686018427387904) : Ct Try.prog 43 [.sl false ((mkF l k).map frE), .int .i64 k] [] (.int .i64 (k + 2 * l.length)) [] := by
  have hml := mkF_len l k
  refine Ct.by_ hmix [] Try.func43 rfl ?_
  simp only [run0, run1, run2, run3, run4, run5, run6, run7, run8, run9, run10, run11, run12, run13, run14, run15, run16, run17, run18, run19, run20, run21, run22, reduceCtorEq, Nat.reduceEqDiff, Nat.reduceAdd, Nat.reduceSub, Nat.reduceLeDiff, indexAddrA, indexRefA, appendA, strA, Nat.reduceMul, Nat.zero_mul, Nat.reduceMod, Int.reduceEq, Int.reduceLT, Int.reduceLE, Nat.reduceLT, Nat.lt_irrefl, Nat.reduceBEq, tys0, tys1, tys2, tys3, tys4, tys5, tys6, tys7, tys8, tys9, tys10, tys11, Try.ntmps43, Try.results43, hml, List.length_map]
  refine AWp.loop_inv (ι := List Fr × List Fr) (fun p => ⟨[.sl false ((mkF l k).map frE), .int .i64 (k + 2 * p.1.length), .junk, .junk, .int .i64 0, .int .i64 p.1.length, .junk, .junk, .junk, .junk, .junk, .junk, .junk, .junk, .junk, .junk, .junk, .junk, .junk, .junk, .junk, .junk, .junk, .junk, .junk, .junk, .junk, .junk, .junk, .junk, .junk], []⟩)
    (fun p => l = p.1 ++ p.2) (fun p => p.2.length) ([], l) rfl ⟨by simp only [List.length_nil, Int.natCast_zero, Int.mul_zero, Int.add_zero]; repeat constructor, rfl⟩ ?_
  rintro ⟨d, r⟩ ha
  refine W.sound hmix (E := []) ?_
  simp only at ha
  have hda : d.length + r.length = l.length := by rw [ha, List.length_append]
  cases r with
  | nil =>
    have e1 : ¬ ((d.length : Int) < (l.length : Int)) := by simp at hda; omega
    simp only [run0, run1, run2, run3, run4, run5, run6, run7, run8, run9, run10, run11, run12, run13, run14, run15, run16, run17, run18, run19, run20, run21, run22, reduceCtorEq, Nat.reduceEqDiff, Nat.reduceAdd, Nat.reduceSub, Nat.reduceLeDiff, indexAddrA, indexRefA, appendA, strA, Nat.reduceMul, Nat.zero_mul, Nat.reduceMod, Int.reduceEq, Int.reduceLT, Int.reduceLE, Nat.reduceLT, Nat.lt_irrefl, Nat.reduceBEq, tys0, tys1, tys2, tys3, tys4, tys5, tys6, tys7, tys8, tys9, tys10, tys11, Try.ntmps43, Try.results43, e1, hml, List.length_map]
    refine Fin.eq ?_ rfl
    rw [ha]; simp
  | cons e r =>
    simp only [List.length_cons] at hda
    have e1 : (d.length : Int) < (l.length : Int) := by omega
    have e2 : ((mkF l k).map frE)[d.length]? = some (.agg [.int .i64 (k + 2 * d.length), .int .i64 (k + 2 * d.length + 1)]) := by
      rw [ha, mkF_app, mkF, ← mkF_len d k]; exact frs_get _ _ _
    have e5 : IntKind.i64.wrap ((d.length : Int) + 1) = ((d ++ [e]).length : Int) := by
      have := w64_id (x := (d.length : Int) + 1) (by omega) (by omega)
      simp only [w64] at this
      rw [this]; simp
    have e6 : IntKind.i64.wrap (k + 2 * (d.length : Int) + 1) = k + 2 * (d.length : Int) + 1 := w64_id (by omega) (by omega)
    have e7 : IntKind.i64.wrap (k + 2 * (d.length : Int) + 1 + 1) = k + 2 * ((d ++ [e]).length : Int) := by
      have := w64_id (x := k + 2 * (d.length : Int) + 1 + 1) (by omega) (by omega)
      simp only [w64] at this
      rw [this]; simp; omega
    simp only [run0, run1, run2, run3, run4, run5, run6, run7, run8, run9, run10, run11, run12, run13, run14, run15, run16, run17, run18, run19, run20, run21, run22, reduceCtorEq, Nat.reduceEqDiff, Nat.reduceAdd, Nat.reduceSub, Nat.reduceLeDiff, indexAddrA, indexRefA, appendA, strA, Nat.reduceMul, Nat.zero_mul, Nat.reduceMod, Int.reduceEq, Int.reduceLT, Int.reduceLE, Nat.reduceLT, Nat.lt_irrefl, Nat.reduceBEq, tys0, tys1, tys2, tys3, tys4, tys5, tys6, tys7, tys8, tys9, tys10, tys11, Try.ntmps43, Try.results43, e1, e2, hml, List.length_map, Int.toNat_natCast, Int.natCast_nonneg, bne_self_eq_false, e5, e6, e7]
    exact ⟨(d ++ [e], r), by simp [ha], by simp, by simp only [List.length_append, List.length_cons, List.length_nil]; repeat constructor⟩

theorem markFractionS_ok (l : List Fr) (x : AV) (S : List Nat) (L0 : List AObj) (k : Int) (ho : OwnF L0 l x S) (hl : l.length ≤ 1048576) (h0 : 0 ≤ k) (hk : k ≤ 4611686018427387904) :
    ∃ L', Ct Try.prog 42 [x, .int .i64 k] L0 (.int .i64 (k + 2 * l.length)) L' ∧ OwnF L' (mkF l k) x S ∧ (∀ id, id ∉ S → L'[id]? = L0[id]?) ∧ L'.length = L0.length := by
  rcases ho with ⟨rfl, rfl, rfl⟩ | ⟨id, g, rfl, hL, rfl⟩
  · refine ⟨L0, ?_, .inl ⟨rfl, rfl, rfl⟩, fun _ _ => rfl, rfl⟩
    refine Ct.by_ hmix [] Try.func42 rfl ?_
    simp only [run0, run1, run2, run3, run4, run5, run6, run7, run8, run9, run10, run11, run12, run13, run14, run15, run16, run17, run18, run19, run20, run21, run22, reduceCtorEq, Nat.reduceEqDiff, Nat.reduceAdd, Nat.reduceSub, Nat.reduceLeDiff, indexAddrA, indexRefA, appendA, strA, Nat.reduceMul, Nat.zero_mul, Nat.reduceMod, Int.reduceEq, Int.reduceLT, Int.reduceLE, Nat.reduceLT, Nat.lt_irrefl, Nat.reduceBEq, tys0, tys1, tys2, tys3, tys4, tys5, tys6, tys7, tys8, tys9, tys10, tys11, Try.ntmps42, Try.results42, nilV]
    refine AWp.loop_inv (ι := Unit) (fun _ => ⟨[.lit (.slice none 0 0), .int .i64 k, .junk, .junk, .int .i64 0, .int .i64 0, .junk, .junk, .junk, .junk, .junk, .junk, .junk, .junk, .junk, .junk, .junk, .junk, .junk, .junk, .junk, .junk, .junk, .junk, .junk, .junk, .junk], L0⟩) (fun _ => True) (fun _ => 0) () trivial ⟨by repeat constructor, rfl⟩ ?_
    rintro _ _
    refine W.sound hmix (E := []) ?_
    simp only [run0, run1, run2, run3, run4, run5, run6, run7, run8, run9, run10, run11, run12, run13, run14, run15, run16, run17, run18, run19, run20, run21, run22, reduceCtorEq, Nat.reduceEqDiff, Nat.reduceAdd, Nat.reduceSub, Nat.reduceLeDiff, indexAddrA, indexRefA, appendA, strA, Nat.reduceMul, Nat.zero_mul, Nat.reduceMod, Int.reduceEq, Int.reduceLT, Int.reduceLE, Nat.reduceLT, Nat.lt_irrefl, Nat.reduceBEq, tys0, tys1, tys2, tys3, tys4, tys5, tys6, tys7, tys8, tys9, tys10, tys11, Try.ntmps42, Try.results42, Int.lt_irrefl]
    exact Fin.own rfl (by simp)
  have hid := (List.getElem?_eq_some_iff.1 hL).1
  have hget : ∀ X, (L0.set id X)[id]? = some X := fun X => List.getElem?_set_self hid
  refine ⟨L0.set id (.vec 26 2 g ((mkF l k).map frE)), ?_, .inr ⟨id, g, by rw [mkF_len], hget _, rfl⟩, fun id1 h1 => by rw [List.getElem?_set_ne (fun q => h1 (by simp [q]))], by simp⟩
  have hsame : L0 = L0.set id (.vec 26 2 g (l.map frE)) := by
    apply List.ext_getElem?
    intro i
    by_cases hi : id = i
    · subst hi; rw [hget, hL]
    · rw [List.getElem?_set_ne hi]
  refine Ct.by_ hmix [] Try.func42 rfl ?_
  simp only [run0, run1, run2, run3, run4, run5, run6, run7, run8, run9, run10, run11, run12, run13, run14, run15, run16, run17, run18, run19, run20, run21, run22, reduceCtorEq, Nat.reduceEqDiff, Nat.reduceAdd, Nat.reduceSub, Nat.reduceLeDiff, indexAddrA, indexRefA, appendA, strA, Nat.reduceMul, Nat.zero_mul, Nat.reduceMod, Int.reduceEq, Int.reduceLT, Int.reduceLE, Nat.reduceLT, Nat.lt_irrefl, Nat.reduceBEq, tys0, tys1, tys2, tys3, tys4, tys5, tys6, tys7, tys8, tys9, tys10, tys11, Try.ntmps42, Try.results42]
  refine AWp.loop_inv (ι := List Fr × List Fr) (fun p => ⟨[.ref id [] g l.length, .int .i64 (k + 2 * p.1.length), .junk, .junk, .int .i64 0, .int .i64 p.1.length, .junk, .junk, .junk, .junk, .junk, .junk, .junk, .junk, .junk, .junk, .junk, .junk, .junk, .junk, .junk, .junk, .junk, .junk, .junk, .junk, .junk], L0.set id (.vec 26 2 g ((mkF p.1 k).map frE ++ p.2.map frE))⟩)
    (fun p => l = p.1 ++ p.2) (fun p => p.2.length) ([], l) rfl ⟨by simp only [List.length_nil, Int.natCast_zero, Int.mul_zero, Int.add_zero]; repeat constructor, by simpa [mkF] using hsame⟩ ?_
  rintro ⟨d, r⟩ ha
  refine W.sound hmix (E := []) ?_
  simp only at ha
  have hda : d.length + r.length = l.length := by rw [ha, List.length_append]
  have hml := mkF_len d k
  cases r with
  | nil =>
    have e1 : ¬ ((d.length : Int) < (l.length : Int)) := by simp at hda; omega
    simp only [run0, run1, run2, run3, run4, run5, run6, run7, run8, run9, run10, run11, run12, run13, run14, run15, run16, run17, run18, run19, run20, run21, run22, reduceCtorEq, Nat.reduceEqDiff, Nat.reduceAdd, Nat.reduceSub, Nat.reduceLeDiff, indexAddrA, indexRefA, appendA, strA, Nat.reduceMul, Nat.zero_mul, Nat.reduceMod, Int.reduceEq, Int.reduceLT, Int.reduceLE, Nat.reduceLT, Nat.lt_irrefl, Nat.reduceBEq, tys0, tys1, tys2, tys3, tys4, tys5, tys6, tys7, tys8, tys9, tys10, tys11, Try.ntmps42, Try.results42, e1, hget]
    have hd : d = l := by rw [ha, List.append_nil]
    subst hd
    exact Fin.own (by simp) rfl
  | cons e r =>
    simp only [List.length_cons] at hda
    have e1 : (d.length : Int) < (l.length : Int) := by omega
    have e2 : ((mkF d k).map frE ++ frE e :: r.map frE)[d.length]? = some (.agg [.int .i64 e.1, .int .i64 e.2]) := by rw [← hml]; simp [frE]
    have e3 : noOwn ((mkF d k).map frE ++ frE e :: r.map frE) = true := by
      have := frs_noOwn (mkF d k ++ e :: r)
      simpa using this
    have e4 : ((mkF d k).map frE ++ frE e :: r.map frE).set d.length (.agg [.int .i64 (k + 2 * d.length), .int .i64 e.2]) = (mkF d k).map frE ++ frE (k + 2 * d.length, e.2) :: r.map frE := by rw [← hml]; simp [frE]
    have f2 : ((mkF d k).map frE ++ frE (k + 2 * d.length, e.2) :: r.map frE)[d.length]? = some (.agg [.int .i64 (k + 2 * d.length), .int .i64 e.2]) := by rw [← hml]; simp [frE]
    have f3 : noOwn ((mkF d k).map frE ++ frE (k + 2 * d.length, e.2) :: r.map frE) = true := by
      have := frs_noOwn (mkF d k ++ (k + 2 * (d.length : Int), e.2) :: r)
      simpa using this
    have f4 : ((mkF d k).map frE ++ frE (k + 2 * d.length, e.2) :: r.map frE).set d.length (.agg [.int .i64 (k + 2 * d.length), .int .i64 (k + 2 * d.length + 1)]) = (mkF d k).map frE ++ frE (k + 2 * d.length, k + 2 * d.length + 1) :: r.map frE := by rw [← hml]; simp [frE]
    have e5 : IntKind.i64.wrap ((d.length : Int) + 1) = ((d ++ [e]).length : Int) := by
      have := w64_id (x := (d.length : Int) + 1) (by omega) (by omega)
      simp only [w64] at this
      rw [this]; simp
    have e6 : IntKind.i64.wrap (k + 2 * (d.length : Int) + 1) = k + 2 * (d.length : Int) + 1 := w64_id (by omega) (by omega)
    have e7 : IntKind.i64.wrap (k + 2 * (d.length : Int) + 1 + 1) = k + 2 * ((d ++ [e]).length : Int) := by
      have := w64_id (x := k + 2 * (d.length : Int) + 1 + 1) (by omega) (by omega)
      simp only [w64] at this
      rw [this]; simp; omega
    simp only [run0, run1, run2, run3, run4, run5, run6, run7, run8, run9, run10, run11, run12, run13, run14, run15, run16, run17, run18, run19, run20, run21, run22, reduceCtorEq, Nat.reduceEqDiff, Nat.reduceAdd, Nat.reduceSub, Nat.reduceLeDiff, indexAddrA, indexRefA, appendA, strA, Nat.reduceMul, Nat.zero_mul, Nat.reduceMod, Int.reduceEq, Int.reduceLT, Int.reduceLE, Nat.reduceLT, Nat.lt_irrefl, Nat.reduceBEq, tys0, tys1, tys2, tys3, tys4, tys5, tys6, tys7, tys8, tys9, tys10, tys11, Try.ntmps42, Try.results42, List.map_cons, e1, hget, e2, e3, e4, f2, f3, f4, e5, e6, e7, List.set_set, Int.toNat_natCast, Int.natCast_nonneg, setE]
    exact ⟨(d ++ [e], r), by simp [ha], by simp, by simp only [List.length_append, List.length_cons, List.length_nil]; repeat constructor, by simp [mkF_app, mkF, frE]⟩

end Go.Proofs.Ytolfjeedgedblaa
