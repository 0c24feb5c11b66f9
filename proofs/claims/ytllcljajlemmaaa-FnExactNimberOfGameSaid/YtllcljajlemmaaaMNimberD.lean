/-
  Texts joined in one: PO1, PO2, PO3, K24, PO4, PO5, PO6, K25, K26, GS1, GS2, GS3.
-/
import Derived.Test.YtllcljajlemmaaaMNimberC
/-
  Games: positions as data: sizes, copies, compared; which are games, by both.
-/
namespace Go.Proofs.Ytllcljajlemmaaa
open Go K
set_option linter.unusedSimpArgs false
set_option linter.unusedVariables false
set_option maxHeartbeats 1600000
set_option maxRecDepth 8000

abbrev GP := List Int × List Int
def posE (p : GP) : AV := .agg [.sl false (ints p.1), .sl false (ints p.2)]
theorem pos_get (d r : List GP) (e : GP) : ((d ++ e :: r).map posE)[d.length]? = some (.agg [.sl false (ints e.1), .sl false (ints e.2)]) := by simp [posE]
theorem posL_pure : ∀ l : List GP, pureL (l.map posE) = true
  | [] => rfl
  | x :: r => by simp [posE, pureL, pureB, ints_pure, posL_pure r]
theorem posL_noOwn (l : List GP) : noOwn (l.map posE) = true := by
  refine List.all_eq_true.2 fun x hx => ?_
  obtain ⟨e, _, rfl⟩ := List.mem_map.1 hx
  rfl
theorem pos_split {l d r : List GP} {e : GP} (ha : l = d ++ e :: r) (hl : l.length ≤ 1048576) : (d.length : Int) < (l.length : Int) ∧ (l.map posE)[d.length]? = some (.agg [.sl false (ints e.1), .sl false (ints e.2)]) ∧ IntKind.i64.wrap ((d.length : Int) + 1) = ((d ++ [e]).length : Int) := by
  have hda : l.length = d.length + (r.length + 1) := by rw [ha]; simp
  refine ⟨by omega, by rw [ha]; exact pos_get d r e, by rw [i64_id (by omega) (by omega)]; simp⟩
theorem pos_end {l d : List GP} (ha : l = d ++ []) : ¬ ((d.length : Int) < (l.length : Int)) := by rw [ha]; simp
theorem int_split {l d r : List Int} {e : Int} (ha : l = d ++ e :: r) (hl : l.length ≤ 1048576) : (d.length : Int) < (l.length : Int) ∧ (ints l)[d.length]? = some (.int .i64 e) ∧ IntKind.i64.wrap ((d.length : Int) + 1) = ((d ++ [e]).length : Int) := by
  have hda : l.length = d.length + (r.length + 1) := by rw [ha]; simp
  refine ⟨by omega, by rw [ha]; exact ints_get d r e, by rw [i64_id (by omega) (by omega)]; simp⟩
theorem int_end {l d : List Int} (ha : l = d ++ []) : ¬ ((d.length : Int) < (l.length : Int)) := by rw [ha]; simp

/-! ### what comes in -/
def fitP (p : GP) : Prop := p.1.length ≤ 9223372036854775807 ∧ p.2.length ≤ 9223372036854775807
theorem pos_in : ∀ es : List AV, (∀ x ∈ es, IsOf Try.prog 68 x) → ∃ l : List GP, es = l.map posE ∧ ∀ p ∈ l, fitP p
  | [], _ => ⟨[], rfl, by simp⟩
  | x :: es, hes => by
    obtain ⟨l, rfl, h2⟩ := pos_in es fun y hy => hes y (List.mem_cons_of_mem _ hy)
    obtain ⟨k, cs, rfl, hcl, hx⟩ := (hes x (List.mem_cons_self ..)).agg ty_a68
    rw [ty_c68] at hcl
    match cs, hcl with
    | [u, v], _ =>
      obtain ⟨_, g0⟩ := hx.field ty_f68_0
      obtain ⟨_, g1⟩ := hx.field ty_f68_1
      rw [ty_c66] at g0
      rw [ty_c66] at g1
      simp only [List.drop_zero, List.take_succ_cons, List.take_zero, List.drop_succ_cons] at g0 g1
      obtain ⟨e0, q0, l0, s0⟩ := g0.slice Try.underlying66
      obtain ⟨e1, q1, l1, s1⟩ := g1.slice Try.underlying66
      simp only [List.cons.injEq, and_true] at q0 q1
      subst q0 q1
      obtain ⟨a, rfl⟩ := ints_in e0 s0
      obtain ⟨b, rfl⟩ := ints_in e1 s1
      rw [mx_len] at l0 l1
      refine ⟨(a, b) :: l, rfl, fun p hp => ?_⟩
      rcases List.mem_cons.1 hp with rfl | hp
      · exact ⟨by simpa using l0, by simpa using l1⟩
      · exact h2 p hp
theorem laws_isPoS {x : AV} (h : IsOf Try.prog 22 x) : ∃ g : List GP, x = .sl false (g.map posE) ∧ g.length ≤ 9223372036854775807 ∧ ∀ p ∈ g, fitP p := by
  obtain ⟨n, h0⟩ := h.one ty_a22
  obtain ⟨es, e0, hel, hes⟩ := h0.slice Try.underlying22
  simp only [List.cons.injEq, and_true] at e0
  subst e0
  obtain ⟨l, rfl, h2⟩ := pos_in es hes
  rw [mx_len] at hel
  exact ⟨l, rfl, by simpa using hel, h2⟩

/-! ### sizes -/
def psz (p : GP) : Nat := p.1.length + p.2.length
def gsz : List GP → Nat
  | [] => 0
  | p :: r => psz p + gsz r
theorem szPosition_ok (p : GP) (k : Int) (hf : fitP p) (h0 : 0 ≤ k) (h1 : k ≤ 1048576) : Ct Try.prog 45 [.agg [.sl false (ints p.1), .sl false (ints p.2)], .int .i64 k] [] (.int .i64 (szN (psz p) k)) [] := by
  have p1 := ints_pure p.1
  have p2 := ints_pure p.2
  have s3 := szN_spec (psz p) k
  unfold psz at s3
  refine Ct.by_ hmix [] Try.func45 rfl ?_
  simp only [run0, run1, run2, run3, run4, run5, run6, run7, run8, run9, run10, run11, run12, run13, run14, run15, run16, run17, run18, run19, run20, run21, run22, reduceCtorEq, Nat.reduceEqDiff, Nat.reduceAdd, Nat.reduceSub, Nat.reduceLeDiff, indexAddrA, indexRefA, appendA, strA, Nat.reduceMul, Nat.zero_mul, Nat.reduceMod, Int.reduceEq, Int.reduceLT, Int.reduceLE, Nat.reduceLT, Nat.lt_irrefl, Nat.reduceBEq, tys0, tys1, tys2, tys3, tys4, tys5, tys6, tys7, tys8, tys9, tys10, tys11, tys12, tys13, tys14, tys15, tys16, tys17, tys18, tys19, tys20, tys21, tys22, tys23, Try.ntmps45, Try.results45]
  refine RunL.callp rfl rfl ok_f89 (szIntS_ok p.1 k hf.1 h0 h1) (by simp only [pureL, pureB, p1, Bool.and_self]) rfl ?_
  rcases szN_spec p.1.length k with ⟨a, b⟩ | ⟨a, b⟩
  · have e : ¬ szN p.1.length k < 0 := by omega
    simp only [run0, run1, run2, run3, run4, run5, run6, run7, run8, run9, run10, run11, run12, run13, run14, run15, run16, run17, run18, run19, run20, run21, run22, reduceCtorEq, Nat.reduceEqDiff, Nat.reduceAdd, Nat.reduceSub, Nat.reduceLeDiff, indexAddrA, indexRefA, appendA, strA, Nat.reduceMul, Nat.zero_mul, Nat.reduceMod, Int.reduceEq, Int.reduceLT, Int.reduceLE, Nat.reduceLT, Nat.lt_irrefl, Nat.reduceBEq, tys0, tys1, tys2, tys3, tys4, tys5, tys6, tys7, tys8, tys9, tys10, tys11, tys12, tys13, tys14, tys15, tys16, tys17, tys18, tys19, tys20, tys21, tys22, tys23, Try.ntmps45, Try.results45, e]
    refine RunL.callp rfl rfl ok_f89 (szIntS_ok p.2 _ hf.2 (by omega) (by omega)) (by simp only [pureL, pureB, p2, Bool.and_self]) rfl ?_
    rcases szN_spec p.2.length (szN p.1.length k) with ⟨c, d⟩ | ⟨c, d⟩
    · have e : ¬ szN p.2.length (szN p.1.length k) < 0 := by omega
      simp only [run0, run1, run2, run3, run4, run5, run6, run7, run8, run9, run10, run11, run12, run13, run14, run15, run16, run17, run18, run19, run20, run21, run22, reduceCtorEq, Nat.reduceEqDiff, Nat.reduceAdd, Nat.reduceSub, Nat.reduceLeDiff, indexAddrA, indexRefA, appendA, strA, Nat.reduceMul, Nat.zero_mul, Nat.reduceMod, Int.reduceEq, Int.reduceLT, Int.reduceLE, Nat.reduceLT, Nat.lt_irrefl, Nat.reduceBEq, tys0, tys1, tys2, tys3, tys4, tys5, tys6, tys7, tys8, tys9, tys10, tys11, tys12, tys13, tys14, tys15, tys16, tys17, tys18, tys19, tys20, tys21, tys22, tys23, Try.ntmps45, Try.results45, e]
      exact Fin.eq (by unfold psz; congr 1; omega) rfl
    · have e : szN p.2.length (szN p.1.length k) < 0 := by omega
      simp only [run0, run1, run2, run3, run4, run5, run6, run7, run8, run9, run10, run11, run12, run13, run14, run15, run16, run17, run18, run19, run20, run21, run22, reduceCtorEq, Nat.reduceEqDiff, Nat.reduceAdd, Nat.reduceSub, Nat.reduceLeDiff, indexAddrA, indexRefA, appendA, strA, Nat.reduceMul, Nat.zero_mul, Nat.reduceMod, Int.reduceEq, Int.reduceLT, Int.reduceLE, Nat.reduceLT, Nat.lt_irrefl, Nat.reduceBEq, tys0, tys1, tys2, tys3, tys4, tys5, tys6, tys7, tys8, tys9, tys10, tys11, tys12, tys13, tys14, tys15, tys16, tys17, tys18, tys19, tys20, tys21, tys22, tys23, Try.ntmps45, Try.results45, e]
      exact Fin.eq (by unfold psz; congr 1; omega) rfl
  · have e : szN p.1.length k < 0 := by omega
    simp only [run0, run1, run2, run3, run4, run5, run6, run7, run8, run9, run10, run11, run12, run13, run14, run15, run16, run17, run18, run19, run20, run21, run22, reduceCtorEq, Nat.reduceEqDiff, Nat.reduceAdd, Nat.reduceSub, Nat.reduceLeDiff, indexAddrA, indexRefA, appendA, strA, Nat.reduceMul, Nat.zero_mul, Nat.reduceMod, Int.reduceEq, Int.reduceLT, Int.reduceLE, Nat.reduceLT, Nat.lt_irrefl, Nat.reduceBEq, tys0, tys1, tys2, tys3, tys4, tys5, tys6, tys7, tys8, tys9, tys10, tys11, tys12, tys13, tys14, tys15, tys16, tys17, tys18, tys19, tys20, tys21, tys22, tys23, Try.ntmps45, Try.results45, e]
    exact Fin.eq (by unfold psz; congr 1; omega) rfl
theorem szPositionS_ok (g : List GP) (k : Int) (hl : g.length ≤ 9223372036854775807) (hf : ∀ p ∈ g, fitP p) (h0 : 0 ≤ k) (h1 : k ≤ 1048576) : Ct Try.prog 13 [.sl false (g.map posE), .int .i64 k] [] (.int .i64 (szN (g.length + gsz g) k)) [] := by
  have hw : IntKind.i64.wrap (k - (g.length : Int)) = k - g.length := i64_id (by omega) (by omega)
  have s3 := szN_spec (g.length + gsz g) k
  refine Ct.by_ hmix [] Try.func13 rfl ?_
  simp only [run0, run1, run2, run3, run4, run5, run6, run7, run8, run9, run10, run11, run12, run13, run14, run15, run16, run17, run18, run19, run20, run21, run22, reduceCtorEq, Nat.reduceEqDiff, Nat.reduceAdd, Nat.reduceSub, Nat.reduceLeDiff, indexAddrA, indexRefA, appendA, strA, Nat.reduceMul, Nat.zero_mul, Nat.reduceMod, Int.reduceEq, Int.reduceLT, Int.reduceLE, Nat.reduceLT, Nat.lt_irrefl, Nat.reduceBEq, tys0, tys1, tys2, tys3, tys4, tys5, tys6, tys7, tys8, tys9, tys10, tys11, tys12, tys13, tys14, tys15, tys16, tys17, tys18, tys19, tys20, tys21, tys22, tys23, Try.ntmps13, Try.results13, hw, List.length_map]
  by_cases hn : k - (g.length : Int) < 0
  · simp only [run0, run1, run2, run3, run4, run5, run6, run7, run8, run9, run10, run11, run12, run13, run14, run15, run16, run17, run18, run19, run20, run21, run22, reduceCtorEq, Nat.reduceEqDiff, Nat.reduceAdd, Nat.reduceSub, Nat.reduceLeDiff, indexAddrA, indexRefA, appendA, strA, Nat.reduceMul, Nat.zero_mul, Nat.reduceMod, Int.reduceEq, Int.reduceLT, Int.reduceLE, Nat.reduceLT, Nat.lt_irrefl, Nat.reduceBEq, tys0, tys1, tys2, tys3, tys4, tys5, tys6, tys7, tys8, tys9, tys10, tys11, tys12, tys13, tys14, tys15, tys16, tys17, tys18, tys19, tys20, tys21, tys22, tys23, Try.ntmps13, Try.results13, hn]
    exact Fin.eq (by congr 1; omega) rfl
  simp only [run0, run1, run2, run3, run4, run5, run6, run7, run8, run9, run10, run11, run12, run13, run14, run15, run16, run17, run18, run19, run20, run21, run22, reduceCtorEq, Nat.reduceEqDiff, Nat.reduceAdd, Nat.reduceSub, Nat.reduceLeDiff, indexAddrA, indexRefA, appendA, strA, Nat.reduceMul, Nat.zero_mul, Nat.reduceMod, Int.reduceEq, Int.reduceLT, Int.reduceLE, Nat.reduceLT, Nat.lt_irrefl, Nat.reduceBEq, tys0, tys1, tys2, tys3, tys4, tys5, tys6, tys7, tys8, tys9, tys10, tys11, tys12, tys13, tys14, tys15, tys16, tys17, tys18, tys19, tys20, tys21, tys22, tys23, Try.ntmps13, Try.results13, hn]
  refine AWp.loop_inv (ι := List GP × List GP × Int) (fun p => ⟨[.sl false (g.map posE), .int .i64 p.2.2, .junk, .junk, .int .i64 0, .int .i64 p.1.length, .junk, .junk, .junk, .junk, .junk, .junk, .junk, .junk, .junk, .junk, .junk, .junk, .junk, .junk, .junk, .junk, .junk, .junk, .junk, .junk, .junk], []⟩)
    (fun p => g = p.1 ++ p.2.1 ∧ 0 ≤ p.2.2 ∧ p.2.2 ≤ 1048576 ∧ szN (gsz p.2.1) p.2.2 = szN (g.length + gsz g) k) (fun p => p.2.1.length) ([], g, k - g.length)
    ⟨rfl, by simp only; omega, by simp only; omega, by have := szN_spec (gsz g) (k - g.length); simp only; omega⟩ ⟨by simp only [List.length_nil, Int.natCast_zero]; repeat constructor, rfl⟩ ?_
  rintro ⟨d, r, l'⟩ ⟨ha, h2, h3, h4⟩
  refine W.sound hmix (E := []) ?_
  simp only at ha h2 h3 h4
  cases r with
  | nil =>
    have e1 := pos_end ha
    simp only [run0, run1, run2, run3, run4, run5, run6, run7, run8, run9, run10, run11, run12, run13, run14, run15, run16, run17, run18, run19, run20, run21, run22, reduceCtorEq, Nat.reduceEqDiff, Nat.reduceAdd, Nat.reduceSub, Nat.reduceLeDiff, indexAddrA, indexRefA, appendA, strA, Nat.reduceMul, Nat.zero_mul, Nat.reduceMod, Int.reduceEq, Int.reduceLT, Int.reduceLE, Nat.reduceLT, Nat.lt_irrefl, Nat.reduceBEq, tys0, tys1, tys2, tys3, tys4, tys5, tys6, tys7, tys8, tys9, tys10, tys11, tys12, tys13, tys14, tys15, tys16, tys17, tys18, tys19, tys20, tys21, tys22, tys23, Try.ntmps13, Try.results13, e1, List.length_map]
    exact Fin.eq (by rw [← h4]; have := szN_spec (gsz []) l'; simp only [gsz] at this; congr 1; simp only [gsz]; omega) rfl
  | cons e r =>
    have hgl : g.length ≤ 1048576 := by omega
    obtain ⟨e1, e2, e5⟩ := pos_split ha hgl
    have hz := szPosition_ok e l' (hf e (by rw [ha]; simp)) h2 h3
    simp only [run0, run1, run2, run3, run4, run5, run6, run7, run8, run9, run10, run11, run12, run13, run14, run15, run16, run17, run18, run19, run20, run21, run22, reduceCtorEq, Nat.reduceEqDiff, Nat.reduceAdd, Nat.reduceSub, Nat.reduceLeDiff, indexAddrA, indexRefA, appendA, strA, Nat.reduceMul, Nat.zero_mul, Nat.reduceMod, Int.reduceEq, Int.reduceLT, Int.reduceLE, Nat.reduceLT, Nat.lt_irrefl, Nat.reduceBEq, tys0, tys1, tys2, tys3, tys4, tys5, tys6, tys7, tys8, tys9, tys10, tys11, tys12, tys13, tys14, tys15, tys16, tys17, tys18, tys19, tys20, tys21, tys22, tys23, Try.ntmps13, Try.results13, e1, e2, List.length_map, Int.toNat_natCast, Int.natCast_nonneg]
    have q1 := ints_pure e.1
    have q2 := ints_pure e.2
    refine RunL.callp rfl rfl ok_f45 hz (by simp only [pureL, pureB, q1, q2, Bool.and_self]) rfl ?_
    simp only [gsz] at h4
    have k1 := szN_spec (psz e) l'
    have k2 := szN_spec (psz e + gsz r) l'
    have k3 := szN_spec (gsz r) (szN (psz e) l')
    by_cases hneg : szN (psz e) l' < 0
    · simp only [run0, run1, run2, run3, run4, run5, run6, run7, run8, run9, run10, run11, run12, run13, run14, run15, run16, run17, run18, run19, run20, run21, run22, reduceCtorEq, Nat.reduceEqDiff, Nat.reduceAdd, Nat.reduceSub, Nat.reduceLeDiff, indexAddrA, indexRefA, appendA, strA, Nat.reduceMul, Nat.zero_mul, Nat.reduceMod, Int.reduceEq, Int.reduceLT, Int.reduceLE, Nat.reduceLT, Nat.lt_irrefl, Nat.reduceBEq, tys0, tys1, tys2, tys3, tys4, tys5, tys6, tys7, tys8, tys9, tys10, tys11, tys12, tys13, tys14, tys15, tys16, tys17, tys18, tys19, tys20, tys21, tys22, tys23, Try.ntmps13, Try.results13, hneg]
      exact Fin.eq (by rw [← h4]; congr 1; omega) rfl
    · simp only [run0, run1, run2, run3, run4, run5, run6, run7, run8, run9, run10, run11, run12, run13, run14, run15, run16, run17, run18, run19, run20, run21, run22, reduceCtorEq, Nat.reduceEqDiff, Nat.reduceAdd, Nat.reduceSub, Nat.reduceLeDiff, indexAddrA, indexRefA, appendA, strA, Nat.reduceMul, Nat.zero_mul, Nat.reduceMod, Int.reduceEq, Int.reduceLT, Int.reduceLE, Nat.reduceLT, Nat.lt_irrefl, Nat.reduceBEq, tys0, tys1, tys2, tys3, tys4, tys5, tys6, tys7, tys8, tys9, tys10, tys11, tys12, tys13, tys14, tys15, tys16, tys17, tys18, tys19, tys20, tys21, tys22, tys23, Try.ntmps13, Try.results13, hneg, e5]
      exact ⟨(d ++ [e], r, szN (psz e) l'), ⟨by simp [ha], by simp only; omega, by simp only; omega, by rw [← h4]; simp only; omega⟩, by simp, by simp only [List.length_append, List.length_cons, List.length_nil]; repeat constructor⟩
theorem gsz_mem : ∀ {g : List GP} {p : GP}, p ∈ g → psz p ≤ gsz g
  | q :: r, p, h => by
    simp only [gsz]
    rcases List.mem_cons.1 h with rfl | h
    · omega
    · have := gsz_mem h; omega

/-! ### copies, as values -/
def smallP (p : GP) : Prop := p.1.length ≤ 1048576 ∧ p.2.length ≤ 1048576
theorem toPosition_ok (p : GP) (h : smallP p) : Ct Try.prog 48 [.agg [.sl false (ints p.1), .sl false (ints p.2)]] [] (.agg [.sl false (ints p.1), .sl false (ints p.2)]) [] := by
  have p1 := ints_pure p.1
  have p2 := ints_pure p.2
  refine Ct.by_ hmix [] Try.func48 rfl ?_
  simp only [run0, run1, run2, run3, run4, run5, run6, run7, run8, run9, run10, run11, run12, run13, run14, run15, run16, run17, run18, run19, run20, run21, run22, reduceCtorEq, Nat.reduceEqDiff, Nat.reduceAdd, Nat.reduceSub, Nat.reduceLeDiff, indexAddrA, indexRefA, appendA, strA, Nat.reduceMul, Nat.zero_mul, Nat.reduceMod, Int.reduceEq, Int.reduceLT, Int.reduceLE, Nat.reduceLT, Nat.lt_irrefl, Nat.reduceBEq, tys0, tys1, tys2, tys3, tys4, tys5, tys6, tys7, tys8, tys9, tys10, tys11, tys12, tys13, tys14, tys15, tys16, tys17, tys18, tys19, tys20, tys21, tys22, tys23, Try.ntmps48, Try.results48]
  refine RunL.callp rfl rfl ok_f92 (toIntS_ok p.1 h.1) (by simp only [pureL, pureB, p1, Bool.and_self]) rfl ?_
  simp only [run0, run1, run2, run3, run4, run5, run6, run7, run8, run9, run10, run11, run12, run13, run14, run15, run16, run17, run18, run19, run20, run21, run22, reduceCtorEq, Nat.reduceEqDiff, Nat.reduceAdd, Nat.reduceSub, Nat.reduceLeDiff, indexAddrA, indexRefA, appendA, strA, Nat.reduceMul, Nat.zero_mul, Nat.reduceMod, Int.reduceEq, Int.reduceLT, Int.reduceLE, Nat.reduceLT, Nat.lt_irrefl, Nat.reduceBEq, tys0, tys1, tys2, tys3, tys4, tys5, tys6, tys7, tys8, tys9, tys10, tys11, tys12, tys13, tys14, tys15, tys16, tys17, tys18, tys19, tys20, tys21, tys22, tys23, Try.ntmps48, Try.results48]
  refine RunL.callp rfl rfl ok_f92 (toIntS_ok p.2 h.2) (by simp only [pureL, pureB, p2, Bool.and_self]) rfl ?_
  simp only [run0, run1, run2, run3, run4, run5, run6, run7, run8, run9, run10, run11, run12, run13, run14, run15, run16, run17, run18, run19, run20, run21, run22, reduceCtorEq, Nat.reduceEqDiff, Nat.reduceAdd, Nat.reduceSub, Nat.reduceLeDiff, indexAddrA, indexRefA, appendA, strA, Nat.reduceMul, Nat.zero_mul, Nat.reduceMod, Int.reduceEq, Int.reduceLT, Int.reduceLE, Nat.reduceLT, Nat.lt_irrefl, Nat.reduceBEq, tys0, tys1, tys2, tys3, tys4, tys5, tys6, tys7, tys8, tys9, tys10, tys11, tys12, tys13, tys14, tys15, tys16, tys17, tys18, tys19, tys20, tys21, tys22, tys23, Try.ntmps48, Try.results48]
  exact Fin.eq rfl (by simp only [pureB, pureL, p1, p2, Bool.and_self])
def zP : AV := .agg [nilV, nilV]
theorem zP_noOwn (es : List GP) (n : Nat) : noOwn (es.map posE ++ List.replicate n zP) = true := by
  refine List.all_eq_true.2 fun e he => ?_
  rcases List.mem_append.1 he with he | he
  · exact List.all_eq_true.1 (posL_noOwn es) e he
  · rw [(List.mem_replicate.1 he).2]; rfl
theorem zP_c : zP.cells = [.lit (.slice none 0 0), .lit (.slice none 0 0)] := rfl
theorem zP_a : aggB zP = true := rfl
theorem zP_s (a b : AV) : setE zP 0 2 (.agg [a, b]) = .agg [a, b] := rfl
abbrev posZ (d : List GP) (n : Nat) : List AV := d.map posE ++ List.replicate n zP
theorem Vw_poss {L : List AObj} {id g n : Nat} {T : TypeId} {es : List AV} {l : List GP} {o : Bool} (hL : L[id]? = some (.vec T 2 g es)) (he : es = l.map posE) (hn : n = l.length) : Vw L (.ref id [] g n) (.sl o (l.map posE)) := by
  subst he hn
  have := Vw.refPur (L := L) (id := id) (g := g) (n := l.length) (o := o) hL (by simp) (fun e he c hc => by
    obtain ⟨e', _, rfl⟩ := List.mem_map.1 he
    simp only [posE, AV.cells, List.mem_cons, List.not_mem_nil, or_false] at hc
    rcases hc with rfl | rfl <;> exact ⟨.of (by simp only [pureB, ints_pure]), fun xs h => by cases h⟩)
  rwa [List.take_of_length_le (by simp)] at this
theorem toPositionS_ok (g : List GP) (hl : g.length ≤ 1048576) (hs : ∀ p ∈ g, smallP p) : Ct Try.prog 15 [.sl false (g.map posE)] [] (.sl false (g.map posE)) [] := by
  have b0 : (g.length : Int) ≤ 137438953472 := by omega
  have b1 : (g.length : Int) ≤ 17592186044416 := by omega
  have b2 : (g.length : Int) ≤ 8796093022208 := by omega
  have b3 : (g.length : Int) ≤ 2932031007402 := by omega
  refine Ct.by_ hmix [] Try.func15 rfl ?_
  simp only [run0, run1, run2, run3, run4, run5, run6, run7, run8, run9, run10, run11, run12, run13, run14, run15, run16, run17, run18, run19, run20, run21, run22, reduceCtorEq, Nat.reduceEqDiff, Nat.reduceAdd, Nat.reduceSub, Nat.reduceLeDiff, indexAddrA, indexRefA, appendA, strA, Nat.reduceMul, Nat.zero_mul, Nat.reduceMod, Int.reduceEq, Int.reduceLT, Int.reduceLE, Nat.reduceLT, Nat.lt_irrefl, Nat.reduceBEq, tys0, tys1, tys2, tys3, tys4, tys5, tys6, tys7, tys8, tys9, tys10, tys11, tys12, tys13, tys14, tys15, tys16, tys17, tys18, tys19, tys20, tys21, tys22, tys23, Try.ntmps15, Try.results15, b0, b1, b2, b3, List.length_map, Int.natCast_nonneg, Int.le_refl, Int.toNat_natCast]
  refine AWp.loop_inv (ι := List GP × List GP) (fun p => ⟨[.sl false (g.map posE), .junk, .junk, .ref 0 [] 0 g.length, .int .i64 p.1.length, .junk, .junk, .junk, .junk, .junk, .junk, .junk, .junk, .junk, .junk, .junk, .junk, .junk, .junk, .junk, .junk, .junk, .junk], [.vec 70 2 0 (posZ p.1 p.2.length)]⟩)
    (fun p => g = p.1 ++ p.2) (fun p => p.2.length) ([], g) rfl ⟨by simp only [List.length_nil, Int.natCast_zero]; repeat constructor, rfl⟩ ?_
  rintro ⟨d, r⟩ ha
  refine W.sound hmix (E := []) ?_
  simp only at ha
  cases r with
  | nil =>
    have e1 := pos_end ha
    simp only [run0, run1, run2, run3, run4, run5, run6, run7, run8, run9, run10, run11, run12, run13, run14, run15, run16, run17, run18, run19, run20, run21, run22, reduceCtorEq, Nat.reduceEqDiff, Nat.reduceAdd, Nat.reduceSub, Nat.reduceLeDiff, indexAddrA, indexRefA, appendA, strA, Nat.reduceMul, Nat.zero_mul, Nat.reduceMod, Int.reduceEq, Int.reduceLT, Int.reduceLE, Nat.reduceLT, Nat.lt_irrefl, Nat.reduceBEq, tys0, tys1, tys2, tys3, tys4, tys5, tys6, tys7, tys8, tys9, tys10, tys11, tys12, tys13, tys14, tys15, tys16, tys17, tys18, tys19, tys20, tys21, tys22, tys23, Try.ntmps15, Try.results15, e1, List.length_map]
    have hd : d = g := by rw [ha, List.append_nil]
    subst hd
    exact Fin.value (Vw_poss rfl (by simp) rfl)
  | cons e r =>
    obtain ⟨e1, e2, e5⟩ := pos_split ha hl
    have e6 : (posZ d (r.length + 1))[d.length]? = some zP := by simp [posZ, List.replicate_succ]
    have e7 : noOwn (posZ d (r.length + 1)) = true := zP_noOwn d (r.length + 1)
    have e8 : (posZ d (r.length + 1)).set d.length (.agg [.sl false (ints e.1), .sl false (ints e.2)]) = posZ (d ++ [e]) r.length := by
      unfold posZ
      rw [List.set_append_right _ _ (by simp)]; simp [List.replicate_succ, posE]
    have hc := toPosition_ok e (hs e (by rw [ha]; simp))
    have p1 := ints_pure e.1
    have p2 := ints_pure e.2
    simp only [run0, run1, run2, run3, run4, run5, run6, run7, run8, run9, run10, run11, run12, run13, run14, run15, run16, run17, run18, run19, run20, run21, run22, reduceCtorEq, Nat.reduceEqDiff, Nat.reduceAdd, Nat.reduceSub, Nat.reduceLeDiff, indexAddrA, indexRefA, appendA, strA, Nat.reduceMul, Nat.zero_mul, Nat.reduceMod, Int.reduceEq, Int.reduceLT, Int.reduceLE, Nat.reduceLT, Nat.lt_irrefl, Nat.reduceBEq, tys0, tys1, tys2, tys3, tys4, tys5, tys6, tys7, tys8, tys9, tys10, tys11, tys12, tys13, tys14, tys15, tys16, tys17, tys18, tys19, tys20, tys21, tys22, tys23, Try.ntmps15, Try.results15, List.length_map, e1, e2, Int.toNat_natCast, Int.natCast_nonneg]
    refine RunL.callp rfl rfl ok_f48 hc (by simp only [pureL, pureB, p1, p2, Bool.and_self]) rfl ?_
    simp only [run0, run1, run2, run3, run4, run5, run6, run7, run8, run9, run10, run11, run12, run13, run14, run15, run16, run17, run18, run19, run20, run21, run22, reduceCtorEq, Nat.reduceEqDiff, Nat.reduceAdd, Nat.reduceSub, Nat.reduceLeDiff, indexAddrA, indexRefA, appendA, strA, Nat.reduceMul, Nat.zero_mul, Nat.reduceMod, Int.reduceEq, Int.reduceLT, Int.reduceLE, Nat.reduceLT, Nat.lt_irrefl, Nat.reduceBEq, tys0, tys1, tys2, tys3, tys4, tys5, tys6, tys7, tys8, tys9, tys10, tys11, tys12, tys13, tys14, tys15, tys16, tys17, tys18, tys19, tys20, tys21, tys22, tys23, Try.ntmps15, Try.results15, List.length_map, e1, e5, e6, e7, e8, zP_c, zP_a, zP_s, Int.toNat_natCast, Int.natCast_nonneg]
    exact ⟨(d ++ [e], r), by simp [ha], by simp, by simp only [List.length_append, List.length_cons, List.length_nil]; repeat constructor, rfl⟩
theorem eqPosition_ok (p : GP) (h : smallP p) : Ct Try.prog 52 [.agg [.sl false (ints p.1), .sl false (ints p.2)], .agg [.sl false (ints p.1), .sl false (ints p.2)]] [] (.bool true) [] := by
  have p1 := ints_pure p.1
  have p2 := ints_pure p.2
  refine Ct.by_ hmix [] Try.func52 rfl ?_
  simp only [run0, run1, run2, run3, run4, run5, run6, run7, run8, run9, run10, run11, run12, run13, run14, run15, run16, run17, run18, run19, run20, run21, run22, reduceCtorEq, Nat.reduceEqDiff, Nat.reduceAdd, Nat.reduceSub, Nat.reduceLeDiff, indexAddrA, indexRefA, appendA, strA, Nat.reduceMul, Nat.zero_mul, Nat.reduceMod, Int.reduceEq, Int.reduceLT, Int.reduceLE, Nat.reduceLT, Nat.lt_irrefl, Nat.reduceBEq, tys0, tys1, tys2, tys3, tys4, tys5, tys6, tys7, tys8, tys9, tys10, tys11, tys12, tys13, tys14, tys15, tys16, tys17, tys18, tys19, tys20, tys21, tys22, tys23, Try.ntmps52, Try.results52]
  refine RunL.callp rfl rfl ok_f97 (eqIntS_ok p.1 h.1) (by simp only [pureL, pureB, p1, Bool.and_self]) rfl ?_
  simp only [run0, run1, run2, run3, run4, run5, run6, run7, run8, run9, run10, run11, run12, run13, run14, run15, run16, run17, run18, run19, run20, run21, run22, reduceCtorEq, Nat.reduceEqDiff, Nat.reduceAdd, Nat.reduceSub, Nat.reduceLeDiff, indexAddrA, indexRefA, appendA, strA, Nat.reduceMul, Nat.zero_mul, Nat.reduceMod, Int.reduceEq, Int.reduceLT, Int.reduceLE, Nat.reduceLT, Nat.lt_irrefl, Nat.reduceBEq, tys0, tys1, tys2, tys3, tys4, tys5, tys6, tys7, tys8, tys9, tys10, tys11, tys12, tys13, tys14, tys15, tys16, tys17, tys18, tys19, tys20, tys21, tys22, tys23, Try.ntmps52, Try.results52]
  refine RunL.callp rfl rfl ok_f97 (eqIntS_ok p.2 h.2) (by simp only [pureL, pureB, p2, Bool.and_self]) rfl ?_
  simp only [run0, run1, run2, run3, run4, run5, run6, run7, run8, run9, run10, run11, run12, run13, run14, run15, run16, run17, run18, run19, run20, run21, run22, reduceCtorEq, Nat.reduceEqDiff, Nat.reduceAdd, Nat.reduceSub, Nat.reduceLeDiff, indexAddrA, indexRefA, appendA, strA, Nat.reduceMul, Nat.zero_mul, Nat.reduceMod, Int.reduceEq, Int.reduceLT, Int.reduceLE, Nat.reduceLT, Nat.lt_irrefl, Nat.reduceBEq, tys0, tys1, tys2, tys3, tys4, tys5, tys6, tys7, tys8, tys9, tys10, tys11, tys12, tys13, tys14, tys15, tys16, tys17, tys18, tys19, tys20, tys21, tys22, tys23, Try.ntmps52, Try.results52]
  exact Fin.eq rfl rfl
theorem eqPositionS_ok (g : List GP) (hl : g.length ≤ 1048576) (hs : ∀ p ∈ g, smallP p) : Ct Try.prog 17 [.sl false (g.map posE), .sl false (g.map posE)] [] (.bool true) [] := by
  refine Ct.by_ hmix [] Try.func17 rfl ?_
  simp only [run0, run1, run2, run3, run4, run5, run6, run7, run8, run9, run10, run11, run12, run13, run14, run15, run16, run17, run18, run19, run20, run21, run22, reduceCtorEq, Nat.reduceEqDiff, Nat.reduceAdd, Nat.reduceSub, Nat.reduceLeDiff, indexAddrA, indexRefA, appendA, strA, Nat.reduceMul, Nat.zero_mul, Nat.reduceMod, Int.reduceEq, Int.reduceLT, Int.reduceLE, Nat.reduceLT, Nat.lt_irrefl, Nat.reduceBEq, tys0, tys1, tys2, tys3, tys4, tys5, tys6, tys7, tys8, tys9, tys10, tys11, tys12, tys13, tys14, tys15, tys16, tys17, tys18, tys19, tys20, tys21, tys22, tys23, Try.ntmps17, Try.results17, bne_self_eq_false, List.length_map]
  refine AWp.loop_inv (ι := List GP × List GP) (fun p => ⟨[.sl false (g.map posE), .sl false (g.map posE), .junk, .junk, .bool false, .int .i64 p.1.length, .junk, .junk, .junk, .junk, .junk, .junk, .junk, .junk, .junk, .junk, .junk, .junk, .junk, .junk, .junk, .junk, .junk, .junk, .junk, .junk, .junk], []⟩)
    (fun p => g = p.1 ++ p.2) (fun p => p.2.length) ([], g) rfl ⟨by simp only [List.length_nil, Int.natCast_zero]; repeat constructor, rfl⟩ ?_
  rintro ⟨d, r⟩ ha
  refine W.sound hmix (E := []) ?_
  simp only at ha
  cases r with
  | nil =>
    have e1 := pos_end ha
    simp only [run0, run1, run2, run3, run4, run5, run6, run7, run8, run9, run10, run11, run12, run13, run14, run15, run16, run17, run18, run19, run20, run21, run22, reduceCtorEq, Nat.reduceEqDiff, Nat.reduceAdd, Nat.reduceSub, Nat.reduceLeDiff, indexAddrA, indexRefA, appendA, strA, Nat.reduceMul, Nat.zero_mul, Nat.reduceMod, Int.reduceEq, Int.reduceLT, Int.reduceLE, Nat.reduceLT, Nat.lt_irrefl, Nat.reduceBEq, tys0, tys1, tys2, tys3, tys4, tys5, tys6, tys7, tys8, tys9, tys10, tys11, tys12, tys13, tys14, tys15, tys16, tys17, tys18, tys19, tys20, tys21, tys22, tys23, Try.ntmps17, Try.results17, e1, List.length_map]
    exact Fin.eq rfl rfl
  | cons e r =>
    obtain ⟨e1, e2, e5⟩ := pos_split ha hl
    have p1 := ints_pure e.1
    have p2 := ints_pure e.2
    simp only [run0, run1, run2, run3, run4, run5, run6, run7, run8, run9, run10, run11, run12, run13, run14, run15, run16, run17, run18, run19, run20, run21, run22, reduceCtorEq, Nat.reduceEqDiff, Nat.reduceAdd, Nat.reduceSub, Nat.reduceLeDiff, indexAddrA, indexRefA, appendA, strA, Nat.reduceMul, Nat.zero_mul, Nat.reduceMod, Int.reduceEq, Int.reduceLT, Int.reduceLE, Nat.reduceLT, Nat.lt_irrefl, Nat.reduceBEq, tys0, tys1, tys2, tys3, tys4, tys5, tys6, tys7, tys8, tys9, tys10, tys11, tys12, tys13, tys14, tys15, tys16, tys17, tys18, tys19, tys20, tys21, tys22, tys23, Try.ntmps17, Try.results17, List.length_map, e1, e2, Int.toNat_natCast, Int.natCast_nonneg]
    refine ⟨by kernel_rfl, ?_⟩
    refine RunL.callp rfl rfl ok_f52 (eqPosition_ok e (hs e (by rw [ha]; simp))) (by simp only [pureL, pureB, p1, p2, Bool.and_self]) rfl ?_
    simp only [run0, run1, run2, run3, run4, run5, run6, run7, run8, run9, run10, run11, run12, run13, run14, run15, run16, run17, run18, run19, run20, run21, run22, reduceCtorEq, Nat.reduceEqDiff, Nat.reduceAdd, Nat.reduceSub, Nat.reduceLeDiff, indexAddrA, indexRefA, appendA, strA, Nat.reduceMul, Nat.zero_mul, Nat.reduceMod, Int.reduceEq, Int.reduceLT, Int.reduceLE, Nat.reduceLT, Nat.lt_irrefl, Nat.reduceBEq, tys0, tys1, tys2, tys3, tys4, tys5, tys6, tys7, tys8, tys9, tys10, tys11, tys12, tys13, tys14, tys15, tys16, tys17, tys18, tys19, tys20, tys21, tys22, tys23, Try.ntmps17, Try.results17, e5]
    exact ⟨(d ++ [e], r), by simp [ha], by simp, by simp only [List.length_append, List.length_cons, List.length_nil]; repeat constructor⟩

/-! ### which are games -/
def ris (n : Int) : Option Int → List Int → Bool
  | _, [] => true
  | p, k :: r => inB k 0 n && (match p with | none => true | some q => decide (q < k)) && ris n (some k) r
def gmI : Nat → List GP → Bool
  | _, [] => true
  | i, p :: r => ris ((i : Int) - 1) none p.1 && ris ((i : Int) - 1) none p.2 && gmI (i + 1) r
def gameB (g : List GP) : Bool := gmI 0 g && inB g.length 1 40
theorem ris_cons (n : Int) (p : Option Int) (k : Int) (r : List Int) : ris n p (k :: r) = (inB k 0 n && (match p with | none => true | some q => decide (q < k)) && ris n (some k) r) := rfl
theorem rising_ok (l : List Int) (n : Nat) (hl : l.length ≤ 1048576) (hn : n ≤ 1048576) : Ct Try.prog 93 [.sl false (ints l), .int .i64 n] [] (.bool (ris ((n : Int) - 1) none l)) [] := by
  have hw : IntKind.i64.wrap ((n : Int) - 1) = (n : Int) - 1 := i64_id (by omega) (by omega)
  refine Ct.by_ hmix [] Try.func93 rfl ?_
  simp only [run0, run1, run2, run3, run4, run5, run6, run7, run8, run9, run10, run11, run12, run13, run14, run15, run16, run17, run18, run19, run20, run21, run22, reduceCtorEq, Nat.reduceEqDiff, Nat.reduceAdd, Nat.reduceSub, Nat.reduceLeDiff, indexAddrA, indexRefA, appendA, strA, Nat.reduceMul, Nat.zero_mul, Nat.reduceMod, Int.reduceEq, Int.reduceLT, Int.reduceLE, Nat.reduceLT, Nat.lt_irrefl, Nat.reduceBEq, tys0, tys1, tys2, tys3, tys4, tys5, tys6, tys7, tys8, tys9, tys10, tys11, tys12, tys13, tys14, tys15, tys16, tys17, tys18, tys19, tys20, tys21, tys22, tys23, Try.ntmps93, Try.results93, List.length_map]
  refine AWp.loop_inv (ι := List Int × List Int) (fun p => ⟨[.sl false (ints l), .int .i64 n, .junk, .junk, .bool false, .junk, .junk, .sl false (ints l), .int .i64 l.length, .int .i64 p.1.length, .junk, .junk, .junk, .junk, .junk, .junk, .junk, .junk, .junk, .junk, .junk, .junk, .junk, .junk, .junk, .junk, .junk, .junk, .junk, .junk, .junk, .junk, .junk], []⟩)
    (fun p => l = p.1 ++ p.2 ∧ ris ((n : Int) - 1) p.1.getLast? p.2 = ris ((n : Int) - 1) none l) (fun p => p.2.length) ([], l) ⟨rfl, rfl⟩ ⟨by simp only [List.length_nil, Int.natCast_zero]; repeat constructor, rfl⟩ ?_
  rintro ⟨d, r⟩ ⟨ha, h2⟩
  refine W.sound hmix (E := []) ?_
  simp only at ha h2
  cases r with
  | nil =>
    have e1 := int_end ha
    simp only [run0, run1, run2, run3, run4, run5, run6, run7, run8, run9, run10, run11, run12, run13, run14, run15, run16, run17, run18, run19, run20, run21, run22, reduceCtorEq, Nat.reduceEqDiff, Nat.reduceAdd, Nat.reduceSub, Nat.reduceLeDiff, indexAddrA, indexRefA, appendA, strA, Nat.reduceMul, Nat.zero_mul, Nat.reduceMod, Int.reduceEq, Int.reduceLT, Int.reduceLE, Nat.reduceLT, Nat.lt_irrefl, Nat.reduceBEq, tys0, tys1, tys2, tys3, tys4, tys5, tys6, tys7, tys8, tys9, tys10, tys11, tys12, tys13, tys14, tys15, tys16, tys17, tys18, tys19, tys20, tys21, tys22, tys23, Try.ntmps93, Try.results93, e1, List.length_map]
    exact Fin.eq (by rw [← h2]; rfl) rfl
  | cons k r =>
    obtain ⟨e1, e2, e5⟩ := int_split ha hl
    rw [ris_cons] at h2
    simp only [run0, run1, run2, run3, run4, run5, run6, run7, run8, run9, run10, run11, run12, run13, run14, run15, run16, run17, run18, run19, run20, run21, run22, reduceCtorEq, Nat.reduceEqDiff, Nat.reduceAdd, Nat.reduceSub, Nat.reduceLeDiff, indexAddrA, indexRefA, appendA, strA, Nat.reduceMul, Nat.zero_mul, Nat.reduceMod, Int.reduceEq, Int.reduceLT, Int.reduceLE, Nat.reduceLT, Nat.lt_irrefl, Nat.reduceBEq, tys0, tys1, tys2, tys3, tys4, tys5, tys6, tys7, tys8, tys9, tys10, tys11, tys12, tys13, tys14, tys15, tys16, tys17, tys18, tys19, tys20, tys21, tys22, tys23, Try.ntmps93, Try.results93, List.length_map, hw, e1, e2, Int.toNat_natCast, Int.natCast_nonneg]
    refine RunL.callp rfl rfl ok_f94 (in_ok k 0 ((n : Int) - 1)) (by first | rfl | simp only [pureL, pureB, Bool.and_self, Bool.and_true, Bool.true_and]) rfl ?_
    cases hb : inB k 0 ((n : Int) - 1)
    · simp only [run0, run1, run2, run3, run4, run5, run6, run7, run8, run9, run10, run11, run12, run13, run14, run15, run16, run17, run18, run19, run20, run21, run22, reduceCtorEq, Nat.reduceEqDiff, Nat.reduceAdd, Nat.reduceSub, Nat.reduceLeDiff, indexAddrA, indexRefA, appendA, strA, Nat.reduceMul, Nat.zero_mul, Nat.reduceMod, Int.reduceEq, Int.reduceLT, Int.reduceLE, Nat.reduceLT, Nat.lt_irrefl, Nat.reduceBEq, tys0, tys1, tys2, tys3, tys4, tys5, tys6, tys7, tys8, tys9, tys10, tys11, tys12, tys13, tys14, tys15, tys16, tys17, tys18, tys19, tys20, tys21, tys22, tys23, Try.ntmps93, Try.results93]
      exact Fin.eq (by rw [← h2, hb]; rfl) rfl
    rcases List.eq_nil_or_concat d with rfl | ⟨d', q, rfl⟩
    · simp only [run0, run1, run2, run3, run4, run5, run6, run7, run8, run9, run10, run11, run12, run13, run14, run15, run16, run17, run18, run19, run20, run21, run22, reduceCtorEq, Nat.reduceEqDiff, Nat.reduceAdd, Nat.reduceSub, Nat.reduceLeDiff, indexAddrA, indexRefA, appendA, strA, Nat.reduceMul, Nat.zero_mul, Nat.reduceMod, Int.reduceEq, Int.reduceLT, Int.reduceLE, Nat.reduceLT, Nat.lt_irrefl, Nat.reduceBEq, tys0, tys1, tys2, tys3, tys4, tys5, tys6, tys7, tys8, tys9, tys10, tys11, tys12, tys13, tys14, tys15, tys16, tys17, tys18, tys19, tys20, tys21, tys22, tys23, Try.ntmps93, Try.results93, List.length_nil, Int.natCast_zero, Int.lt_irrefl, e5]
      exact ⟨([k], r), ⟨ha, by rw [← h2, hb]; rfl⟩, by simp, by simp only [List.length_append, List.length_cons, List.length_nil]; repeat constructor⟩
    · have hda : l.length = d'.length + 1 + (r.length + 1) := by rw [ha]; simp; try omega
      have k0 : (0 : Int) < ((d'.concat q).length : Int) := by simp; try omega
      have k1 : IntKind.i64.wrap (((d'.concat q).length : Int) - 1) = (d'.length : Int) := by rw [i64_id (by simp; try omega) (by simp; try omega)]; simp
      have k2 : (ints l)[d'.length]? = some (.int .i64 q) := by rw [ha]; simp
      have k3 : (d'.length : Int) < (l.length : Int) := by omega
      rw [hb] at h2
      simp only [List.concat_eq_append, List.getLast?_concat, Bool.true_and] at h2
      by_cases hq : k ≤ q
      · simp only [run0, run1, run2, run3, run4, run5, run6, run7, run8, run9, run10, run11, run12, run13, run14, run15, run16, run17, run18, run19, run20, run21, run22, reduceCtorEq, Nat.reduceEqDiff, Nat.reduceAdd, Nat.reduceSub, Nat.reduceLeDiff, indexAddrA, indexRefA, appendA, strA, Nat.reduceMul, Nat.zero_mul, Nat.reduceMod, Int.reduceEq, Int.reduceLT, Int.reduceLE, Nat.reduceLT, Nat.lt_irrefl, Nat.reduceBEq, tys0, tys1, tys2, tys3, tys4, tys5, tys6, tys7, tys8, tys9, tys10, tys11, tys12, tys13, tys14, tys15, tys16, tys17, tys18, tys19, tys20, tys21, tys22, tys23, Try.ntmps93, Try.results93, List.length_map, k0, k1, k2, k3, hq, Int.toNat_natCast, Int.natCast_nonneg]
        exact Fin.eq (by rw [← h2, show decide (q < k) = false by simp; omega]; rfl) rfl
      · simp only [run0, run1, run2, run3, run4, run5, run6, run7, run8, run9, run10, run11, run12, run13, run14, run15, run16, run17, run18, run19, run20, run21, run22, reduceCtorEq, Nat.reduceEqDiff, Nat.reduceAdd, Nat.reduceSub, Nat.reduceLeDiff, indexAddrA, indexRefA, appendA, strA, Nat.reduceMul, Nat.zero_mul, Nat.reduceMod, Int.reduceEq, Int.reduceLT, Int.reduceLE, Nat.reduceLT, Nat.lt_irrefl, Nat.reduceBEq, tys0, tys1, tys2, tys3, tys4, tys5, tys6, tys7, tys8, tys9, tys10, tys11, tys12, tys13, tys14, tys15, tys16, tys17, tys18, tys19, tys20, tys21, tys22, tys23, Try.ntmps93, Try.results93, List.length_map, k0, k1, k2, k3, hq, e5, Int.toNat_natCast, Int.natCast_nonneg]
        rw [show decide (q < k) = true by simp; omega, Bool.true_and] at h2
        exact ⟨(d'.concat q ++ [k], r), ⟨by simp [ha], by simp only [List.getLast?_concat]; exact h2⟩, by simp, by simp only [List.length_append, List.length_cons, List.length_nil]; repeat constructor⟩
theorem l1Rising_ok (l : List Int) (n : Int) (hl : l.length ≤ 1048576) : Ct Try.prog 90 [.sl false (ints l), .int .i64 0, .int .i64 n] [] (.bool (ris n none l)) [] := by
  refine Ct.by_ hmix [] Try.func90 rfl ?_
  simp only [run0, run1, run2, run3, run4, run5, run6, run7, run8, run9, run10, run11, run12, run13, run14, run15, run16, run17, run18, run19, run20, run21, run22, reduceCtorEq, Nat.reduceEqDiff, Nat.reduceAdd, Nat.reduceSub, Nat.reduceLeDiff, indexAddrA, indexRefA, appendA, strA, Nat.reduceMul, Nat.zero_mul, Nat.reduceMod, Int.reduceEq, Int.reduceLT, Int.reduceLE, Nat.reduceLT, Nat.lt_irrefl, Nat.reduceBEq, tys0, tys1, tys2, tys3, tys4, tys5, tys6, tys7, tys8, tys9, tys10, tys11, tys12, tys13, tys14, tys15, tys16, tys17, tys18, tys19, tys20, tys21, tys22, tys23, Try.ntmps90, Try.results90, List.length_map]
  refine AWp.loop_inv (ι := List Int × List Int) (fun p => ⟨[.sl false (ints l), .int .i64 0, .int .i64 n, .junk, .junk, .junk, .bool false, .junk, .junk, .sl false (ints l), .int .i64 l.length, .int .i64 p.1.length, .junk, .junk, .junk, .junk, .junk, .junk, .junk, .junk, .junk, .junk, .junk, .junk, .junk, .junk, .junk, .junk, .junk, .junk, .junk, .junk, .junk, .junk, .junk], []⟩)
    (fun p => l = p.1 ++ p.2 ∧ ris n p.1.getLast? p.2 = ris n none l) (fun p => p.2.length) ([], l) ⟨rfl, rfl⟩ ⟨by simp only [List.length_nil, Int.natCast_zero]; repeat constructor, rfl⟩ ?_
  rintro ⟨d, r⟩ ⟨ha, h2⟩
  refine W.sound hmix (E := []) ?_
  simp only at ha h2
  cases r with
  | nil =>
    have e1 := int_end ha
    simp only [run0, run1, run2, run3, run4, run5, run6, run7, run8, run9, run10, run11, run12, run13, run14, run15, run16, run17, run18, run19, run20, run21, run22, reduceCtorEq, Nat.reduceEqDiff, Nat.reduceAdd, Nat.reduceSub, Nat.reduceLeDiff, indexAddrA, indexRefA, appendA, strA, Nat.reduceMul, Nat.zero_mul, Nat.reduceMod, Int.reduceEq, Int.reduceLT, Int.reduceLE, Nat.reduceLT, Nat.lt_irrefl, Nat.reduceBEq, tys0, tys1, tys2, tys3, tys4, tys5, tys6, tys7, tys8, tys9, tys10, tys11, tys12, tys13, tys14, tys15, tys16, tys17, tys18, tys19, tys20, tys21, tys22, tys23, Try.ntmps90, Try.results90, e1, List.length_map]
    exact Fin.eq (by rw [← h2]; rfl) rfl
  | cons k r =>
    obtain ⟨e1, e2, e5⟩ := int_split ha hl
    rw [ris_cons] at h2
    simp only [run0, run1, run2, run3, run4, run5, run6, run7, run8, run9, run10, run11, run12, run13, run14, run15, run16, run17, run18, run19, run20, run21, run22, reduceCtorEq, Nat.reduceEqDiff, Nat.reduceAdd, Nat.reduceSub, Nat.reduceLeDiff, indexAddrA, indexRefA, appendA, strA, Nat.reduceMul, Nat.zero_mul, Nat.reduceMod, Int.reduceEq, Int.reduceLT, Int.reduceLE, Nat.reduceLT, Nat.lt_irrefl, Nat.reduceBEq, tys0, tys1, tys2, tys3, tys4, tys5, tys6, tys7, tys8, tys9, tys10, tys11, tys12, tys13, tys14, tys15, tys16, tys17, tys18, tys19, tys20, tys21, tys22, tys23, Try.ntmps90, Try.results90, List.length_map, e1, e2, Int.toNat_natCast, Int.natCast_nonneg]
    refine RunL.callp rfl rfl ok_f64 (l1In_ok k 0 n) (by first | rfl | simp only [pureL, pureB, Bool.and_self, Bool.and_true, Bool.true_and]) rfl ?_
    cases hb : inB k 0 n
    · simp only [run0, run1, run2, run3, run4, run5, run6, run7, run8, run9, run10, run11, run12, run13, run14, run15, run16, run17, run18, run19, run20, run21, run22, reduceCtorEq, Nat.reduceEqDiff, Nat.reduceAdd, Nat.reduceSub, Nat.reduceLeDiff, indexAddrA, indexRefA, appendA, strA, Nat.reduceMul, Nat.zero_mul, Nat.reduceMod, Int.reduceEq, Int.reduceLT, Int.reduceLE, Nat.reduceLT, Nat.lt_irrefl, Nat.reduceBEq, tys0, tys1, tys2, tys3, tys4, tys5, tys6, tys7, tys8, tys9, tys10, tys11, tys12, tys13, tys14, tys15, tys16, tys17, tys18, tys19, tys20, tys21, tys22, tys23, Try.ntmps90, Try.results90]
      exact Fin.eq (by rw [← h2, hb]; rfl) rfl
    rcases List.eq_nil_or_concat d with rfl | ⟨d', q, rfl⟩
    · simp only [run0, run1, run2, run3, run4, run5, run6, run7, run8, run9, run10, run11, run12, run13, run14, run15, run16, run17, run18, run19, run20, run21, run22, reduceCtorEq, Nat.reduceEqDiff, Nat.reduceAdd, Nat.reduceSub, Nat.reduceLeDiff, indexAddrA, indexRefA, appendA, strA, Nat.reduceMul, Nat.zero_mul, Nat.reduceMod, Int.reduceEq, Int.reduceLT, Int.reduceLE, Nat.reduceLT, Nat.lt_irrefl, Nat.reduceBEq, tys0, tys1, tys2, tys3, tys4, tys5, tys6, tys7, tys8, tys9, tys10, tys11, tys12, tys13, tys14, tys15, tys16, tys17, tys18, tys19, tys20, tys21, tys22, tys23, Try.ntmps90, Try.results90, List.length_nil, Int.natCast_zero, Int.lt_irrefl, e5]
      exact ⟨([k], r), ⟨ha, by rw [← h2, hb]; rfl⟩, by simp, by simp only [List.length_append, List.length_cons, List.length_nil]; repeat constructor⟩
    · have hda : l.length = d'.length + 1 + (r.length + 1) := by rw [ha]; simp; try omega
      have k0 : (0 : Int) < ((d'.concat q).length : Int) := by simp; try omega
      have k1 : IntKind.i64.wrap (((d'.concat q).length : Int) - 1) = (d'.length : Int) := by rw [i64_id (by simp; try omega) (by simp; try omega)]; simp
      have k2 : (ints l)[d'.length]? = some (.int .i64 q) := by rw [ha]; simp
      have k3 : (d'.length : Int) < (l.length : Int) := by omega
      rw [hb] at h2
      simp only [List.concat_eq_append, List.getLast?_concat, Bool.true_and] at h2
      by_cases hq : k ≤ q
      · simp only [run0, run1, run2, run3, run4, run5, run6, run7, run8, run9, run10, run11, run12, run13, run14, run15, run16, run17, run18, run19, run20, run21, run22, reduceCtorEq, Nat.reduceEqDiff, Nat.reduceAdd, Nat.reduceSub, Nat.reduceLeDiff, indexAddrA, indexRefA, appendA, strA, Nat.reduceMul, Nat.zero_mul, Nat.reduceMod, Int.reduceEq, Int.reduceLT, Int.reduceLE, Nat.reduceLT, Nat.lt_irrefl, Nat.reduceBEq, tys0, tys1, tys2, tys3, tys4, tys5, tys6, tys7, tys8, tys9, tys10, tys11, tys12, tys13, tys14, tys15, tys16, tys17, tys18, tys19, tys20, tys21, tys22, tys23, Try.ntmps90, Try.results90, List.length_map, k0, k1, k2, k3, hq, Int.toNat_natCast, Int.natCast_nonneg]
        exact Fin.eq (by rw [← h2, show decide (q < k) = false by simp; omega]; rfl) rfl
      · simp only [run0, run1, run2, run3, run4, run5, run6, run7, run8, run9, run10, run11, run12, run13, run14, run15, run16, run17, run18, run19, run20, run21, run22, reduceCtorEq, Nat.reduceEqDiff, Nat.reduceAdd, Nat.reduceSub, Nat.reduceLeDiff, indexAddrA, indexRefA, appendA, strA, Nat.reduceMul, Nat.zero_mul, Nat.reduceMod, Int.reduceEq, Int.reduceLT, Int.reduceLE, Nat.reduceLT, Nat.lt_irrefl, Nat.reduceBEq, tys0, tys1, tys2, tys3, tys4, tys5, tys6, tys7, tys8, tys9, tys10, tys11, tys12, tys13, tys14, tys15, tys16, tys17, tys18, tys19, tys20, tys21, tys22, tys23, Try.ntmps90, Try.results90, List.length_map, k0, k1, k2, k3, hq, e5, Int.toNat_natCast, Int.natCast_nonneg]
        rw [show decide (q < k) = true by simp; omega, Bool.true_and] at h2
        exact ⟨(d'.concat q ++ [k], r), ⟨by simp [ha], by simp only [List.getLast?_concat]; exact h2⟩, by simp, by simp only [List.length_append, List.length_cons, List.length_nil]; repeat constructor⟩

structure GmS where
  d : List GP
  r : List GP
  X : List AObj
end Go.Proofs.Ytllcljajlemmaaa
/-
  Games: which are right, by both; the order of positions, plain; the program's memory of it.
-/
namespace Go.Proofs.Ytllcljajlemmaaa
open Go K
set_option linter.unusedSimpArgs false
set_option linter.unusedVariables false
set_option maxHeartbeats 1600000
set_option maxRecDepth 8000

theorem isGame_ok (g : List GP) (hl : g.length ≤ 1048576) (hs : ∀ p ∈ g, smallP p) : Ct Try.prog 49 [.sl false (g.map posE)] [] (.bool (gameB g)) [] := by
  refine Ct.by_ hmix [] Try.func49 rfl ?_
  simp only [run0, run1, run2, run3, run4, run5, run6, run7, run8, run9, run10, run11, run12, run13, run14, run15, run16, run17, run18, run19, run20, run21, run22, reduceCtorEq, Nat.reduceEqDiff, Nat.reduceAdd, Nat.reduceSub, Nat.reduceLeDiff, indexAddrA, indexRefA, appendA, strA, Nat.reduceMul, Nat.zero_mul, Nat.reduceMod, Int.reduceEq, Int.reduceLT, Int.reduceLE, Nat.reduceLT, Nat.lt_irrefl, Nat.reduceBEq, tys0, tys1, tys2, tys3, tys4, tys5, tys6, tys7, tys8, tys9, tys10, tys11, tys12, tys13, tys14, tys15, tys16, tys17, tys18, tys19, tys20, tys21, tys22, tys23, Try.ntmps49, Try.results49, List.length_map]
  refine AWp.loop_inv (ι := GmS) (fun q => ⟨[.sl false (g.map posE), .junk, .bool false, .junk, .junk, .sl false (g.map posE), .int .i64 g.length, .int .i64 q.d.length, .junk, .junk, .junk, .junk, .junk, .junk, .junk, .junk, .junk, .junk, .junk, .junk, .junk, .junk, .junk, .junk, .junk, .junk, .junk, .junk], q.X⟩)
    (fun q => g = q.d ++ q.r ∧ gmI q.d.length q.r = gmI 0 g) (fun q => q.r.length) ⟨[], g, []⟩ ⟨rfl, rfl⟩ ⟨by simp only [List.length_nil, Int.natCast_zero]; repeat constructor, rfl⟩ ?_
  rintro ⟨d, r, X⟩ ⟨ha, h2⟩
  refine W.sound hmix (E := []) ?_
  simp only at ha h2
  cases r with
  | nil =>
    have e1 := pos_end ha
    simp only [run0, run1, run2, run3, run4, run5, run6, run7, run8, run9, run10, run11, run12, run13, run14, run15, run16, run17, run18, run19, run20, run21, run22, reduceCtorEq, Nat.reduceEqDiff, Nat.reduceAdd, Nat.reduceSub, Nat.reduceLeDiff, indexAddrA, indexRefA, appendA, strA, Nat.reduceMul, Nat.zero_mul, Nat.reduceMod, Int.reduceEq, Int.reduceLT, Int.reduceLE, Nat.reduceLT, Nat.lt_irrefl, Nat.reduceBEq, tys0, tys1, tys2, tys3, tys4, tys5, tys6, tys7, tys8, tys9, tys10, tys11, tys12, tys13, tys14, tys15, tys16, tys17, tys18, tys19, tys20, tys21, tys22, tys23, Try.ntmps49, Try.results49, List.length_map, e1]
    refine RunL.callp rfl rfl ok_f94 (in_ok g.length 1 40) (by first | rfl | simp only [pureL, pureB, Bool.and_self, Bool.and_true, Bool.true_and]) rfl ?_
    simp only [run0, run1, run2, run3, run4, run5, run6, run7, run8, run9, run10, run11, run12, run13, run14, run15, run16, run17, run18, run19, run20, run21, run22, reduceCtorEq, Nat.reduceEqDiff, Nat.reduceAdd, Nat.reduceSub, Nat.reduceLeDiff, indexAddrA, indexRefA, appendA, strA, Nat.reduceMul, Nat.zero_mul, Nat.reduceMod, Int.reduceEq, Int.reduceLT, Int.reduceLE, Nat.reduceLT, Nat.lt_irrefl, Nat.reduceBEq, tys0, tys1, tys2, tys3, tys4, tys5, tys6, tys7, tys8, tys9, tys10, tys11, tys12, tys13, tys14, tys15, tys16, tys17, tys18, tys19, tys20, tys21, tys22, tys23, Try.ntmps49, Try.results49]
    exact Fin.eq (by rw [gameB, ← h2]; rfl) rfl
  | cons e r =>
    obtain ⟨e1, e2, e5⟩ := pos_split ha hl
    have hse := hs e (by rw [ha]; simp)
    have hdl : d.length ≤ 1048576 := by omega
    have p1 := ints_pure e.1
    have p2 := ints_pure e.2
    simp only [gmI] at h2
    simp only [run0, run1, run2, run3, run4, run5, run6, run7, run8, run9, run10, run11, run12, run13, run14, run15, run16, run17, run18, run19, run20, run21, run22, reduceCtorEq, Nat.reduceEqDiff, Nat.reduceAdd, Nat.reduceSub, Nat.reduceLeDiff, indexAddrA, indexRefA, appendA, strA, Nat.reduceMul, Nat.zero_mul, Nat.reduceMod, Int.reduceEq, Int.reduceLT, Int.reduceLE, Nat.reduceLT, Nat.lt_irrefl, Nat.reduceBEq, tys0, tys1, tys2, tys3, tys4, tys5, tys6, tys7, tys8, tys9, tys10, tys11, tys12, tys13, tys14, tys15, tys16, tys17, tys18, tys19, tys20, tys21, tys22, tys23, Try.ntmps49, Try.results49, List.length_map, e1, e2, Int.toNat_natCast, Int.natCast_nonneg, List.getElem?_append_right, Nat.sub_self]
    refine RunL.callp rfl rfl ok_f93 (rising_ok e.1 d.length hse.1 hdl) (by simp only [pureL, pureB, p1, Bool.and_self]) rfl ?_
    cases h3 : ris ((d.length : Int) - 1) none e.1
    · simp only [run0, run1, run2, run3, run4, run5, run6, run7, run8, run9, run10, run11, run12, run13, run14, run15, run16, run17, run18, run19, run20, run21, run22, reduceCtorEq, Nat.reduceEqDiff, Nat.reduceAdd, Nat.reduceSub, Nat.reduceLeDiff, indexAddrA, indexRefA, appendA, strA, Nat.reduceMul, Nat.zero_mul, Nat.reduceMod, Int.reduceEq, Int.reduceLT, Int.reduceLE, Nat.reduceLT, Nat.lt_irrefl, Nat.reduceBEq, tys0, tys1, tys2, tys3, tys4, tys5, tys6, tys7, tys8, tys9, tys10, tys11, tys12, tys13, tys14, tys15, tys16, tys17, tys18, tys19, tys20, tys21, tys22, tys23, Try.ntmps49, Try.results49]
      exact Fin.eq (by rw [gameB, ← h2, h3]; rfl) rfl
    simp only [run0, run1, run2, run3, run4, run5, run6, run7, run8, run9, run10, run11, run12, run13, run14, run15, run16, run17, run18, run19, run20, run21, run22, reduceCtorEq, Nat.reduceEqDiff, Nat.reduceAdd, Nat.reduceSub, Nat.reduceLeDiff, indexAddrA, indexRefA, appendA, strA, Nat.reduceMul, Nat.zero_mul, Nat.reduceMod, Int.reduceEq, Int.reduceLT, Int.reduceLE, Nat.reduceLT, Nat.lt_irrefl, Nat.reduceBEq, tys0, tys1, tys2, tys3, tys4, tys5, tys6, tys7, tys8, tys9, tys10, tys11, tys12, tys13, tys14, tys15, tys16, tys17, tys18, tys19, tys20, tys21, tys22, tys23, Try.ntmps49, Try.results49, List.length_map, List.getElem?_append_right, Nat.sub_self]
    refine RunL.callp rfl rfl ok_f93 (rising_ok e.2 d.length hse.2 hdl) (by simp only [pureL, pureB, p2, Bool.and_self]) rfl ?_
    cases h4 : ris ((d.length : Int) - 1) none e.2
    · simp only [run0, run1, run2, run3, run4, run5, run6, run7, run8, run9, run10, run11, run12, run13, run14, run15, run16, run17, run18, run19, run20, run21, run22, reduceCtorEq, Nat.reduceEqDiff, Nat.reduceAdd, Nat.reduceSub, Nat.reduceLeDiff, indexAddrA, indexRefA, appendA, strA, Nat.reduceMul, Nat.zero_mul, Nat.reduceMod, Int.reduceEq, Int.reduceLT, Int.reduceLE, Nat.reduceLT, Nat.lt_irrefl, Nat.reduceBEq, tys0, tys1, tys2, tys3, tys4, tys5, tys6, tys7, tys8, tys9, tys10, tys11, tys12, tys13, tys14, tys15, tys16, tys17, tys18, tys19, tys20, tys21, tys22, tys23, Try.ntmps49, Try.results49]
      exact Fin.eq (by rw [gameB, ← h2, h3, h4]; rfl) rfl
    simp only [run0, run1, run2, run3, run4, run5, run6, run7, run8, run9, run10, run11, run12, run13, run14, run15, run16, run17, run18, run19, run20, run21, run22, reduceCtorEq, Nat.reduceEqDiff, Nat.reduceAdd, Nat.reduceSub, Nat.reduceLeDiff, indexAddrA, indexRefA, appendA, strA, Nat.reduceMul, Nat.zero_mul, Nat.reduceMod, Int.reduceEq, Int.reduceLT, Int.reduceLE, Nat.reduceLT, Nat.lt_irrefl, Nat.reduceBEq, tys0, tys1, tys2, tys3, tys4, tys5, tys6, tys7, tys8, tys9, tys10, tys11, tys12, tys13, tys14, tys15, tys16, tys17, tys18, tys19, tys20, tys21, tys22, tys23, Try.ntmps49, Try.results49, e5]
    rw [h3, h4, Bool.true_and, Bool.true_and] at h2
    exact ⟨⟨d ++ [e], r, _⟩, ⟨by simp [ha], by simp only [List.length_append, List.length_cons, List.length_nil]; exact h2⟩, by simp, by simp only [List.length_append, List.length_cons, List.length_nil]; repeat constructor, rfl⟩
theorem gaGood_ok (g : List GP) (hl : g.length ≤ 1048576) (hs : ∀ p ∈ g, smallP p) : Ct Try.prog 46 [.sl false (g.map posE)] [] (.bool (gameB g)) [] := by
  refine Ct.by_ hmix [] Try.func46 rfl ?_
  simp only [run0, run1, run2, run3, run4, run5, run6, run7, run8, run9, run10, run11, run12, run13, run14, run15, run16, run17, run18, run19, run20, run21, run22, reduceCtorEq, Nat.reduceEqDiff, Nat.reduceAdd, Nat.reduceSub, Nat.reduceLeDiff, indexAddrA, indexRefA, appendA, strA, Nat.reduceMul, Nat.zero_mul, Nat.reduceMod, Int.reduceEq, Int.reduceLT, Int.reduceLE, Nat.reduceLT, Nat.lt_irrefl, Nat.reduceBEq, tys0, tys1, tys2, tys3, tys4, tys5, tys6, tys7, tys8, tys9, tys10, tys11, tys12, tys13, tys14, tys15, tys16, tys17, tys18, tys19, tys20, tys21, tys22, tys23, Try.ntmps46, Try.results46, List.length_map]
  refine AWp.loop_inv (ι := GmS) (fun q => ⟨[.sl false (g.map posE), .junk, .bool false, .junk, .junk, .sl false (g.map posE), .int .i64 g.length, .int .i64 q.d.length, .junk, .junk, .junk, .junk, .junk, .junk, .junk, .junk, .junk, .junk, .junk, .junk, .junk, .junk, .junk, .junk, .junk, .junk, .junk, .junk, .junk, .junk], q.X⟩)
    (fun q => g = q.d ++ q.r ∧ gmI q.d.length q.r = gmI 0 g) (fun q => q.r.length) ⟨[], g, []⟩ ⟨rfl, rfl⟩ ⟨by simp only [List.length_nil, Int.natCast_zero]; repeat constructor, rfl⟩ ?_
  rintro ⟨d, r, X⟩ ⟨ha, h2⟩
  refine W.sound hmix (E := []) ?_
  simp only at ha h2
  cases r with
  | nil =>
    have e1 := pos_end ha
    simp only [run0, run1, run2, run3, run4, run5, run6, run7, run8, run9, run10, run11, run12, run13, run14, run15, run16, run17, run18, run19, run20, run21, run22, reduceCtorEq, Nat.reduceEqDiff, Nat.reduceAdd, Nat.reduceSub, Nat.reduceLeDiff, indexAddrA, indexRefA, appendA, strA, Nat.reduceMul, Nat.zero_mul, Nat.reduceMod, Int.reduceEq, Int.reduceLT, Int.reduceLE, Nat.reduceLT, Nat.lt_irrefl, Nat.reduceBEq, tys0, tys1, tys2, tys3, tys4, tys5, tys6, tys7, tys8, tys9, tys10, tys11, tys12, tys13, tys14, tys15, tys16, tys17, tys18, tys19, tys20, tys21, tys22, tys23, Try.ntmps46, Try.results46, List.length_map, e1]
    refine RunL.callp rfl rfl ok_f64 (l1In_ok g.length 1 40) (by first | rfl | simp only [pureL, pureB, Bool.and_self, Bool.and_true, Bool.true_and]) rfl ?_
    simp only [run0, run1, run2, run3, run4, run5, run6, run7, run8, run9, run10, run11, run12, run13, run14, run15, run16, run17, run18, run19, run20, run21, run22, reduceCtorEq, Nat.reduceEqDiff, Nat.reduceAdd, Nat.reduceSub, Nat.reduceLeDiff, indexAddrA, indexRefA, appendA, strA, Nat.reduceMul, Nat.zero_mul, Nat.reduceMod, Int.reduceEq, Int.reduceLT, Int.reduceLE, Nat.reduceLT, Nat.lt_irrefl, Nat.reduceBEq, tys0, tys1, tys2, tys3, tys4, tys5, tys6, tys7, tys8, tys9, tys10, tys11, tys12, tys13, tys14, tys15, tys16, tys17, tys18, tys19, tys20, tys21, tys22, tys23, Try.ntmps46, Try.results46]
    exact Fin.eq (by rw [gameB, ← h2]; rfl) rfl
  | cons e r =>
    obtain ⟨e1, e2, e5⟩ := pos_split ha hl
    have hse := hs e (by rw [ha]; simp)
    have hw : IntKind.i64.wrap ((d.length : Int) - 1) = (d.length : Int) - 1 := i64_id (by omega) (by omega)
    have p1 := ints_pure e.1
    have p2 := ints_pure e.2
    simp only [gmI] at h2
    simp only [run0, run1, run2, run3, run4, run5, run6, run7, run8, run9, run10, run11, run12, run13, run14, run15, run16, run17, run18, run19, run20, run21, run22, reduceCtorEq, Nat.reduceEqDiff, Nat.reduceAdd, Nat.reduceSub, Nat.reduceLeDiff, indexAddrA, indexRefA, appendA, strA, Nat.reduceMul, Nat.zero_mul, Nat.reduceMod, Int.reduceEq, Int.reduceLT, Int.reduceLE, Nat.reduceLT, Nat.lt_irrefl, Nat.reduceBEq, tys0, tys1, tys2, tys3, tys4, tys5, tys6, tys7, tys8, tys9, tys10, tys11, tys12, tys13, tys14, tys15, tys16, tys17, tys18, tys19, tys20, tys21, tys22, tys23, Try.ntmps46, Try.results46, List.length_map, hw, e1, e2, Int.toNat_natCast, Int.natCast_nonneg, List.getElem?_append_right, Nat.sub_self]
    refine RunL.callp rfl rfl ok_f90 (l1Rising_ok e.1 _ hse.1) (by simp only [pureL, pureB, p1, Bool.and_self]) rfl ?_
    cases h3 : ris ((d.length : Int) - 1) none e.1
    · simp only [run0, run1, run2, run3, run4, run5, run6, run7, run8, run9, run10, run11, run12, run13, run14, run15, run16, run17, run18, run19, run20, run21, run22, reduceCtorEq, Nat.reduceEqDiff, Nat.reduceAdd, Nat.reduceSub, Nat.reduceLeDiff, indexAddrA, indexRefA, appendA, strA, Nat.reduceMul, Nat.zero_mul, Nat.reduceMod, Int.reduceEq, Int.reduceLT, Int.reduceLE, Nat.reduceLT, Nat.lt_irrefl, Nat.reduceBEq, tys0, tys1, tys2, tys3, tys4, tys5, tys6, tys7, tys8, tys9, tys10, tys11, tys12, tys13, tys14, tys15, tys16, tys17, tys18, tys19, tys20, tys21, tys22, tys23, Try.ntmps46, Try.results46]
      exact Fin.eq (by rw [gameB, ← h2, h3]; rfl) rfl
    simp only [run0, run1, run2, run3, run4, run5, run6, run7, run8, run9, run10, run11, run12, run13, run14, run15, run16, run17, run18, run19, run20, run21, run22, reduceCtorEq, Nat.reduceEqDiff, Nat.reduceAdd, Nat.reduceSub, Nat.reduceLeDiff, indexAddrA, indexRefA, appendA, strA, Nat.reduceMul, Nat.zero_mul, Nat.reduceMod, Int.reduceEq, Int.reduceLT, Int.reduceLE, Nat.reduceLT, Nat.lt_irrefl, Nat.reduceBEq, tys0, tys1, tys2, tys3, tys4, tys5, tys6, tys7, tys8, tys9, tys10, tys11, tys12, tys13, tys14, tys15, tys16, tys17, tys18, tys19, tys20, tys21, tys22, tys23, Try.ntmps46, Try.results46, List.length_map, hw, List.getElem?_append_right, Nat.sub_self]
    refine RunL.callp rfl rfl ok_f90 (l1Rising_ok e.2 _ hse.2) (by simp only [pureL, pureB, p2, Bool.and_self]) rfl ?_
    cases h4 : ris ((d.length : Int) - 1) none e.2
    · simp only [run0, run1, run2, run3, run4, run5, run6, run7, run8, run9, run10, run11, run12, run13, run14, run15, run16, run17, run18, run19, run20, run21, run22, reduceCtorEq, Nat.reduceEqDiff, Nat.reduceAdd, Nat.reduceSub, Nat.reduceLeDiff, indexAddrA, indexRefA, appendA, strA, Nat.reduceMul, Nat.zero_mul, Nat.reduceMod, Int.reduceEq, Int.reduceLT, Int.reduceLE, Nat.reduceLT, Nat.lt_irrefl, Nat.reduceBEq, tys0, tys1, tys2, tys3, tys4, tys5, tys6, tys7, tys8, tys9, tys10, tys11, tys12, tys13, tys14, tys15, tys16, tys17, tys18, tys19, tys20, tys21, tys22, tys23, Try.ntmps46, Try.results46]
      exact Fin.eq (by rw [gameB, ← h2, h3, h4]; rfl) rfl
    simp only [run0, run1, run2, run3, run4, run5, run6, run7, run8, run9, run10, run11, run12, run13, run14, run15, run16, run17, run18, run19, run20, run21, run22, reduceCtorEq, Nat.reduceEqDiff, Nat.reduceAdd, Nat.reduceSub, Nat.reduceLeDiff, indexAddrA, indexRefA, appendA, strA, Nat.reduceMul, Nat.zero_mul, Nat.reduceMod, Int.reduceEq, Int.reduceLT, Int.reduceLE, Nat.reduceLT, Nat.lt_irrefl, Nat.reduceBEq, tys0, tys1, tys2, tys3, tys4, tys5, tys6, tys7, tys8, tys9, tys10, tys11, tys12, tys13, tys14, tys15, tys16, tys17, tys18, tys19, tys20, tys21, tys22, tys23, Try.ntmps46, Try.results46, e5]
    rw [h3, h4, Bool.true_and, Bool.true_and] at h2
    exact ⟨⟨d ++ [e], r, _⟩, ⟨by simp [ha], by simp only [List.length_append, List.length_cons, List.length_nil]; exact h2⟩, by simp, by simp only [List.length_append, List.length_cons, List.length_nil]; repeat constructor, rfl⟩
/-- Is it a game with that position? -/
def hasB (g : List GP) (a : Int) : Bool := gameB g && inB a 0 ((g.length : Int) - 1)
theorem hasPosition_ok (g : List GP) (a : Int) (hl : g.length ≤ 1048576) (hs : ∀ p ∈ g, smallP p) : Ct Try.prog 66 [.sl false (g.map posE), .int .i64 a] [] (.bool (hasB g a)) [] := by
  have pg := posL_pure g
  have hw : IntKind.i64.wrap ((g.length : Int) - 1) = (g.length : Int) - 1 := i64_id (by omega) (by omega)
  refine Ct.by_ hmix [] Try.func66 rfl ?_
  simp only [run0, run1, run2, run3, run4, run5, run6, run7, run8, run9, run10, run11, run12, run13, run14, run15, run16, run17, run18, run19, run20, run21, run22, reduceCtorEq, Nat.reduceEqDiff, Nat.reduceAdd, Nat.reduceSub, Nat.reduceLeDiff, indexAddrA, indexRefA, appendA, strA, Nat.reduceMul, Nat.zero_mul, Nat.reduceMod, Int.reduceEq, Int.reduceLT, Int.reduceLE, Nat.reduceLT, Nat.lt_irrefl, Nat.reduceBEq, tys0, tys1, tys2, tys3, tys4, tys5, tys6, tys7, tys8, tys9, tys10, tys11, tys12, tys13, tys14, tys15, tys16, tys17, tys18, tys19, tys20, tys21, tys22, tys23, Try.ntmps66, Try.results66]
  refine RunL.callp rfl rfl ok_f49 (isGame_ok g hl hs) (by simp only [pureL, pureB, pg, Bool.and_self]) rfl ?_
  cases h : gameB g
  · simp only [run0, run1, run2, run3, run4, run5, run6, run7, run8, run9, run10, run11, run12, run13, run14, run15, run16, run17, run18, run19, run20, run21, run22, reduceCtorEq, Nat.reduceEqDiff, Nat.reduceAdd, Nat.reduceSub, Nat.reduceLeDiff, indexAddrA, indexRefA, appendA, strA, Nat.reduceMul, Nat.zero_mul, Nat.reduceMod, Int.reduceEq, Int.reduceLT, Int.reduceLE, Nat.reduceLT, Nat.lt_irrefl, Nat.reduceBEq, tys0, tys1, tys2, tys3, tys4, tys5, tys6, tys7, tys8, tys9, tys10, tys11, tys12, tys13, tys14, tys15, tys16, tys17, tys18, tys19, tys20, tys21, tys22, tys23, Try.ntmps66, Try.results66]
    exact Fin.eq (by simp [hasB, h]) rfl
  simp only [run0, run1, run2, run3, run4, run5, run6, run7, run8, run9, run10, run11, run12, run13, run14, run15, run16, run17, run18, run19, run20, run21, run22, reduceCtorEq, Nat.reduceEqDiff, Nat.reduceAdd, Nat.reduceSub, Nat.reduceLeDiff, indexAddrA, indexRefA, appendA, strA, Nat.reduceMul, Nat.zero_mul, Nat.reduceMod, Int.reduceEq, Int.reduceLT, Int.reduceLE, Nat.reduceLT, Nat.lt_irrefl, Nat.reduceBEq, tys0, tys1, tys2, tys3, tys4, tys5, tys6, tys7, tys8, tys9, tys10, tys11, tys12, tys13, tys14, tys15, tys16, tys17, tys18, tys19, tys20, tys21, tys22, tys23, Try.ntmps66, Try.results66, List.length_map, hw]
  refine RunL.callp rfl rfl ok_f94 (in_ok a 0 ((g.length : Int) - 1)) (by first | rfl | simp only [pureL, pureB, Bool.and_self, Bool.and_true, Bool.true_and]) rfl ?_
  simp only [run0, run1, run2, run3, run4, run5, run6, run7, run8, run9, run10, run11, run12, run13, run14, run15, run16, run17, run18, run19, run20, run21, run22, reduceCtorEq, Nat.reduceEqDiff, Nat.reduceAdd, Nat.reduceSub, Nat.reduceLeDiff, indexAddrA, indexRefA, appendA, strA, Nat.reduceMul, Nat.zero_mul, Nat.reduceMod, Int.reduceEq, Int.reduceLT, Int.reduceLE, Nat.reduceLT, Nat.lt_irrefl, Nat.reduceBEq, tys0, tys1, tys2, tys3, tys4, tys5, tys6, tys7, tys8, tys9, tys10, tys11, tys12, tys13, tys14, tys15, tys16, tys17, tys18, tys19, tys20, tys21, tys22, tys23, Try.ntmps66, Try.results66]
  exact Fin.eq (by simp [hasB, h]) rfl
theorem gaHas_ok (g : List GP) (a : Int) (hl : g.length ≤ 1048576) (hs : ∀ p ∈ g, smallP p) : Ct Try.prog 63 [.sl false (g.map posE), .int .i64 a] [] (.bool (hasB g a)) [] := by
  have pg := posL_pure g
  have hw : IntKind.i64.wrap ((g.length : Int) - 1) = (g.length : Int) - 1 := i64_id (by omega) (by omega)
  refine Ct.by_ hmix [] Try.func63 rfl ?_
  simp only [run0, run1, run2, run3, run4, run5, run6, run7, run8, run9, run10, run11, run12, run13, run14, run15, run16, run17, run18, run19, run20, run21, run22, reduceCtorEq, Nat.reduceEqDiff, Nat.reduceAdd, Nat.reduceSub, Nat.reduceLeDiff, indexAddrA, indexRefA, appendA, strA, Nat.reduceMul, Nat.zero_mul, Nat.reduceMod, Int.reduceEq, Int.reduceLT, Int.reduceLE, Nat.reduceLT, Nat.lt_irrefl, Nat.reduceBEq, tys0, tys1, tys2, tys3, tys4, tys5, tys6, tys7, tys8, tys9, tys10, tys11, tys12, tys13, tys14, tys15, tys16, tys17, tys18, tys19, tys20, tys21, tys22, tys23, Try.ntmps63, Try.results63]
  refine RunL.callp rfl rfl ok_f46 (gaGood_ok g hl hs) (by simp only [pureL, pureB, pg, Bool.and_self]) rfl ?_
  cases h : gameB g
  · simp only [run0, run1, run2, run3, run4, run5, run6, run7, run8, run9, run10, run11, run12, run13, run14, run15, run16, run17, run18, run19, run20, run21, run22, reduceCtorEq, Nat.reduceEqDiff, Nat.reduceAdd, Nat.reduceSub, Nat.reduceLeDiff, indexAddrA, indexRefA, appendA, strA, Nat.reduceMul, Nat.zero_mul, Nat.reduceMod, Int.reduceEq, Int.reduceLT, Int.reduceLE, Nat.reduceLT, Nat.lt_irrefl, Nat.reduceBEq, tys0, tys1, tys2, tys3, tys4, tys5, tys6, tys7, tys8, tys9, tys10, tys11, tys12, tys13, tys14, tys15, tys16, tys17, tys18, tys19, tys20, tys21, tys22, tys23, Try.ntmps63, Try.results63]
    exact Fin.eq (by simp [hasB, h]) rfl
  simp only [run0, run1, run2, run3, run4, run5, run6, run7, run8, run9, run10, run11, run12, run13, run14, run15, run16, run17, run18, run19, run20, run21, run22, reduceCtorEq, Nat.reduceEqDiff, Nat.reduceAdd, Nat.reduceSub, Nat.reduceLeDiff, indexAddrA, indexRefA, appendA, strA, Nat.reduceMul, Nat.zero_mul, Nat.reduceMod, Int.reduceEq, Int.reduceLT, Int.reduceLE, Nat.reduceLT, Nat.lt_irrefl, Nat.reduceBEq, tys0, tys1, tys2, tys3, tys4, tys5, tys6, tys7, tys8, tys9, tys10, tys11, tys12, tys13, tys14, tys15, tys16, tys17, tys18, tys19, tys20, tys21, tys22, tys23, Try.ntmps63, Try.results63, List.length_map, hw]
  refine RunL.callp rfl rfl ok_f64 (l1In_ok a 0 ((g.length : Int) - 1)) (by first | rfl | simp only [pureL, pureB, Bool.and_self, Bool.and_true, Bool.true_and]) rfl ?_
  simp only [run0, run1, run2, run3, run4, run5, run6, run7, run8, run9, run10, run11, run12, run13, run14, run15, run16, run17, run18, run19, run20, run21, run22, reduceCtorEq, Nat.reduceEqDiff, Nat.reduceAdd, Nat.reduceSub, Nat.reduceLeDiff, indexAddrA, indexRefA, appendA, strA, Nat.reduceMul, Nat.zero_mul, Nat.reduceMod, Int.reduceEq, Int.reduceLT, Int.reduceLE, Nat.reduceLT, Nat.lt_irrefl, Nat.reduceBEq, tys0, tys1, tys2, tys3, tys4, tys5, tys6, tys7, tys8, tys9, tys10, tys11, tys12, tys13, tys14, tys15, tys16, tys17, tys18, tys19, tys20, tys21, tys22, tys23, Try.ntmps63, Try.results63]
  exact Fin.eq (by simp [hasB, h]) rfl

/-! ### games whose options stand ahead -/
/-- Each option is a position ahead of it. -/
def GameOk (g : List GP) : Prop := ∀ (i : Nat) (p : GP), g[i]? = some p → smallP p ∧ (∀ x ∈ p.1, 0 ≤ x ∧ x < (i : Int)) ∧ ∀ x ∈ p.2, 0 ≤ x ∧ x < (i : Int)
theorem ris_mem {n : Int} : ∀ {l : List Int} {p : Option Int}, ris n p l = true → ∀ x ∈ l, 0 ≤ x ∧ x ≤ n
  | [], p, h, x, hx => by simp at hx
  | k :: r, p, h, x, hx => by
    simp only [ris, Bool.and_eq_true] at h
    rcases List.mem_cons.1 hx with rfl | hx
    · simpa [inB] using h.1.1
    · exact ris_mem h.2 x hx
theorem ris_len {n : Int} : ∀ {l : List Int} {q : Int}, ris n (some q) l = true → 0 ≤ q → q ≤ n → (l.length : Int) + q ≤ n
  | [], q, h, h0, h1 => by simpa using h1
  | k :: r, q, h, h0, h1 => by
    simp only [ris, Bool.and_eq_true, decide_eq_true_eq, inB] at h
    have := ris_len h.2 (by omega) (by omega)
    simp only [List.length_cons]
    omega
theorem ris_small {n : Int} {l : List Int} (h : ris n none l = true) : (l.length : Int) ≤ n + 1 ∨ l = [] := by
  cases l with
  | nil => exact .inr rfl
  | cons k r =>
    left
    simp only [ris, Bool.and_eq_true, decide_eq_true_eq, inB] at h
    have := ris_len h.2 (by omega) (by omega)
    simp only [List.length_cons]
    omega
theorem gmI_at : ∀ {g : List GP} {i : Nat}, gmI i g = true → ∀ (k : Nat) (p : GP), g[k]? = some p → ris (((i + k : Nat) : Int) - 1) none p.1 = true ∧ ris (((i + k : Nat) : Int) - 1) none p.2 = true
  | [], i, h, k, p, hk => by simp at hk
  | q :: r, i, h, k, p, hk => by
    simp only [gmI, Bool.and_eq_true] at h
    cases k with
    | zero => simp at hk; subst hk; exact ⟨h.1.1, h.1.2⟩
    | succ k =>
      have := gmI_at h.2 k p (by simpa using hk)
      rwa [show i + 1 + k = i + (k + 1) by omega] at this
theorem gameB_ok {g : List GP} (h : gameB g = true) : GameOk g ∧ 1 ≤ g.length ∧ g.length ≤ 40 ∧ ∀ p ∈ g, p.1.length ≤ 40 ∧ p.2.length ≤ 40 := by
  simp only [gameB, Bool.and_eq_true, inB, decide_eq_true_eq] at h
  obtain ⟨h1, h2, h3⟩ := h
  have key : ∀ (i : Nat) (p : GP), g[i]? = some p → (p.1.length ≤ 40 ∧ p.2.length ≤ 40) ∧ (∀ x ∈ p.1, 0 ≤ x ∧ x < (i : Int)) ∧ ∀ x ∈ p.2, 0 ≤ x ∧ x < (i : Int) := by
    intro i p hp
    have hi := (List.getElem?_eq_some_iff.1 hp).1
    obtain ⟨a, b⟩ := gmI_at h1 i p hp
    rw [Nat.zero_add] at a b
    refine ⟨⟨?_, ?_⟩, fun x hx => by have := ris_mem a x hx; omega, fun x hx => by have := ris_mem b x hx; omega⟩
    · rcases ris_small a with h | h
      · omega
      · simp [h]
    · rcases ris_small b with h | h
      · omega
      · simp [h]
  refine ⟨fun i p hp => ?_, by omega, by omega, fun p hp => ?_⟩
  · obtain ⟨⟨k1, k2⟩, k3⟩ := key i p hp
    exact ⟨⟨by omega, by omega⟩, k3⟩
  · obtain ⟨i, hi, rfl⟩ := List.getElem_of_mem hp
    exact (key i _ (List.getElem?_eq_getElem hi)).1

/-! ### the order -/
def lefts (g : List GP) (a : Nat) : List Int := (g.getD a ([], [])).1
def rights (g : List GP) (a : Nat) : List Int := (g.getD a ([], [])).2
/-- Is a position at most another one? 'f': how many steps at most. -/
def leF (g : List GP) : Nat → Nat → Nat → Bool
  | 0, _, _ => true
  | f + 1, a, b => (lefts g a).all (fun x => !leF g f b x.toNat) && (rights g b).all (fun y => !leF g f y.toNat a)
def leG (g : List GP) (a b : Nat) : Bool := leF g (a + b + 1) a b
theorem lefts_lt {g : List GP} (hg : GameOk g) {a : Nat} {x : Int} (h : x ∈ lefts g a) : 0 ≤ x ∧ x < (a : Int) := by
  unfold lefts at h
  rw [List.getD_eq_getElem?_getD] at h
  cases hp : g[a]? with
  | none => rw [hp] at h; simp at h
  | some p => rw [hp] at h; exact (hg a p hp).2.1 x h
theorem rights_lt {g : List GP} (hg : GameOk g) {a : Nat} {x : Int} (h : x ∈ rights g a) : 0 ≤ x ∧ x < (a : Int) := by
  unfold rights at h
  rw [List.getD_eq_getElem?_getD] at h
  cases hp : g[a]? with
  | none => rw [hp] at h; simp at h
  | some p => rw [hp] at h; exact (hg a p hp).2.2 x h
theorem all_congr_mem {α : Type} {l : List α} {p q : α → Bool} (h : ∀ x ∈ l, p x = q x) : l.all p = l.all q := by
  induction l with
  | nil => rfl
  | cons a l ih => simp only [List.all_cons, h a (by simp), ih fun x hx => h x (by simp [hx])]
theorem leF_deep {g : List GP} (hg : GameOk g) : ∀ (f h a b : Nat), a + b < f → a + b < h → leF g f a b = leF g h a b
  | 0, h, a, b, h1, _ => by omega
  | f + 1, 0, a, b, _, h2 => by omega
  | f + 1, h + 1, a, b, h1, h2 => by
    simp only [leF]
    congr 1
    · refine all_congr_mem fun x hx => ?_
      have := lefts_lt hg hx
      rw [leF_deep hg f h b x.toNat (by omega) (by omega)]
    · refine all_congr_mem fun x hx => ?_
      have := rights_lt hg hx
      rw [leF_deep hg f h x.toNat a (by omega) (by omega)]
theorem leF_succ (g : List GP) (f a b : Nat) : leF g (f + 1) a b = ((lefts g a).all (fun x => !leF g f b x.toNat) && (rights g b).all (fun y => !leF g f y.toNat a)) := rfl
theorem leG_eq {g : List GP} (hg : GameOk g) (a b : Nat) : leG g a b = ((lefts g a).all (fun x => !leG g b x.toNat) && (rights g b).all (fun y => !leG g y.toNat a)) := by
  unfold leG
  rw [leF_succ g (a + b) a b]
  congr 1
  · refine all_congr_mem fun x hx => ?_
    have := lefts_lt hg hx
    rw [leF_deep hg (a + b) (b + x.toNat + 1) b x.toNat (by omega) (by omega)]
  · refine all_congr_mem fun x hx => ?_
    have := rights_lt hg hx
    rw [leF_deep hg (a + b) (x.toNat + a + 1) x.toNat a (by omega) (by omega)]

/-! ### what is known already -/
abbrev Memo := List ((Int × Int) × Bool)
def keyO (a b : Nat) : AObj := .box 164 [.int .i64 a, .int .i64 b]
def memO (m : Memo) : AObj := mapO 164 4 ekP AV.bool m
abbrev JS := Memo × List AObj
/-- The program's search: the value, and what is known behind it. -/
def atM (g : List GP) : Nat → JS → Nat → Nat → Bool × JS
  | 0, s, _, _ => (true, s)
  | f + 1, s, a, b =>
    match getM s.1 ((a : Int), (b : Int)) with
    | some v => (v, (s.1, s.2 ++ [keyO a b]))
    | none =>
      let r1 := (lefts g a).foldl (fun (q : Bool × JS) x => if q.1 then (!(atM g f q.2 b x.toNat).1, (atM g f q.2 b x.toNat).2) else q) (true, (s.1, s.2 ++ [keyO a b]))
      let r2 := (rights g b).foldl (fun (q : Bool × JS) y => if q.1 then (!(atM g f q.2 y.toNat a).1, (atM g f q.2 y.toNat a).2) else q) r1
      (r2.1, (putM r2.2.1 ((a : Int), (b : Int)) r2.1, r2.2.2))
structure MemOk (g : List GP) (m : Memo) : Prop where
  nd : (m.map Prod.fst).Nodup
  ok : ∀ k v, getM m k = some v → ∃ a b : Nat, k = ((a : Int), (b : Int)) ∧ a < g.length ∧ b < g.length ∧ v = leG g a b
theorem MemOk.nil (g : List GP) : MemOk g [] := ⟨by simp, by simp [getM]⟩
theorem fold_law {g : List GP} {F : JS → Int → Bool × JS} {v : Int → Bool} : ∀ (l : List Int) (q : Bool × JS), MemOk g q.2.1 →
    (∀ x ∈ l, ∀ s : JS, MemOk g s.1 → (F s x).1 = v x ∧ MemOk g (F s x).2.1 ∧ ∃ Y, (F s x).2.2 = s.2 ++ Y) →
    (l.foldl (fun (q : Bool × JS) x => if q.1 then (!(F q.2 x).1, (F q.2 x).2) else q) q).1 = (q.1 && l.all fun x => !v x) ∧
    MemOk g (l.foldl (fun (q : Bool × JS) x => if q.1 then (!(F q.2 x).1, (F q.2 x).2) else q) q).2.1 ∧ ∃ Y, (l.foldl (fun (q : Bool × JS) x => if q.1 then (!(F q.2 x).1, (F q.2 x).2) else q) q).2.2 = q.2.2 ++ Y
  | [], q, hq, _ => ⟨by simp, hq, [], by simp⟩
  | x :: l, q, hq, hF => by
    simp only [List.foldl_cons, List.all_cons]
    obtain ⟨h1, h2, Y, h3⟩ := hF x (by simp) q.2 hq
    cases hb : q.1
    · rw [if_neg (by simp)]
      obtain ⟨k1, k2, k3⟩ := fold_law l q hq (fun y hy => hF y (by simp [hy]))
      refine ⟨by rw [k1, hb]; rfl, k2, k3⟩
    · rw [if_pos rfl]
      obtain ⟨k1, k2, Z, k3⟩ := fold_law l (!(F q.2 x).1, (F q.2 x).2) h2 (fun y hy => hF y (by simp [hy]))
      refine ⟨by rw [k1, h1, Bool.true_and], k2, Y ++ Z, by rw [k3, h3, List.append_assoc]⟩
theorem MemOk.put {g : List GP} {m : Memo} (h : MemOk g m) {a b : Nat} (ha : a < g.length) (hb : b < g.length) : MemOk g (putM m ((a : Int), (b : Int)) (leG g a b)) :=
  ⟨putM_nodup h.nd _ _, fun k v hk => by
    rw [getM_putM] at hk
    split at hk
    · rename_i e
      cases hk
      exact ⟨a, b, e.symm, ha, hb, rfl⟩
    · exact h.ok k v hk⟩
theorem atM_law {g : List GP} (hg : GameOk g) : ∀ (f : Nat) (s : JS) (a b : Nat), a < g.length → b < g.length → a + b < f → MemOk g s.1 →
    (atM g f s a b).1 = leG g a b ∧ MemOk g (atM g f s a b).2.1 ∧ ∃ Y, (atM g f s a b).2.2 = s.2 ++ keyO a b :: Y
  | 0, s, a, b, _, _, h, _ => by omega
  | f + 1, s, a, b, ha, hb, h, hm => by
    unfold atM
    cases hk : getM s.1 ((a : Int), (b : Int)) with
    | some v =>
      obtain ⟨a', b', e, _, _, hv⟩ := hm.ok _ _ hk
      simp only [Prod.mk.injEq, Int.natCast_inj] at e
      obtain ⟨rfl, rfl⟩ := e
      exact ⟨hv, hm, [], rfl⟩
    | none =>
      obtain ⟨r1, r2, Y, r3⟩ := fold_law (g := g) (F := fun s x => atM g f s b x.toNat) (v := fun x => leG g b x.toNat) (lefts g a) (true, (s.1, s.2 ++ [keyO a b])) hm (fun x hx t ht => by
        have := lefts_lt hg hx
        obtain ⟨k1, k2, Y, k3⟩ := atM_law hg f t b x.toNat hb (by omega) (by omega) ht
        exact ⟨k1, k2, _, k3⟩)
      generalize hq : (lefts g a).foldl (fun (q : Bool × JS) x => if q.1 then (!(atM g f q.2 b x.toNat).1, (atM g f q.2 b x.toNat).2) else q) (true, (s.1, s.2 ++ [keyO a b])) = q at *
      obtain ⟨t1, t2, Z, t3⟩ := fold_law (g := g) (F := fun s y => atM g f s y.toNat a) (v := fun y => leG g y.toNat a) (rights g b) q r2 (fun x hx t ht => by
        have := rights_lt hg hx
        obtain ⟨k1, k2, Y, k3⟩ := atM_law hg f t x.toNat a (by omega) ha (by omega) ht
        exact ⟨k1, k2, _, k3⟩)
      have hv : ((rights g b).foldl (fun (q : Bool × JS) y => if q.1 then (!(atM g f q.2 y.toNat a).1, (atM g f q.2 y.toNat a).2) else q) q).1 = leG g a b := by
        rw [t1, r1, leG_eq hg a b, Bool.true_and]
      refine ⟨hv, ?_, Y ++ Z, ?_⟩
      · simp only [hv]
        exact MemOk.put t2 ha hb
      · simp only [t3, r3, List.append_assoc, List.singleton_append, List.cons_append, List.nil_append]

end Go.Proofs.Ytllcljajlemmaaa
/-
  Games: the program's search for the order of positions.
-/
namespace Go.Proofs.Ytllcljajlemmaaa
open Go K
set_option linter.unusedSimpArgs false
set_option linter.unusedVariables false
set_option maxHeartbeats 3200000
set_option maxRecDepth 8000

theorem jArr : WideMaps.ArrKey Try.prog 164 3 2 := ⟨Try.underlying164, by kernel_rfl, by kernel_rfl, by kernel_rfl⟩
theorem jT : MapT Try.prog 164 4 ekP AV.bool false := mapT_pair jArr (fun _ => rfl) (fun _ => rfl) (by kernel_rfl)
theorem wf_nat {a : Nat} (h : a ≤ 1048576) : (Lit.int .i64 (a : Int)).wf = true := by
  simp only [Lit.wf, Bool.and_eq_true, decide_eq_true_eq]
  have h1 : IntKind.i64.min = -9223372036854775808 := by decide
  have h2 : IntKind.i64.max = 9223372036854775807 := by decide
  rw [h1, h2]
  omega
theorem jKey {a b : Nat} (ha : a ≤ 1048576) (hb : b ≤ 1048576) : (keyOf Try.prog 164 (valK (ekP ((a : Int), (b : Int))))).isSome = true := by
  have := WideMaps.keyOf_pair jArr Try.underlying3 ⟨Try.prog.types.size - 1, by kernel_rfl⟩ (wf_nat ha) (wf_nat hb)
  show (keyOf Try.prog 164 (.agg #[.int .i64 (a : Int), .int .i64 (b : Int)])).isSome = true
  rw [this]; rfl
theorem MemOk.map {g : List GP} (hl : g.length ≤ 1048576) {m : Memo} (h : MemOk g m) : MapOk Try.prog 164 ekP m :=
  ⟨h.nd, fun k hk => by
    obtain ⟨p, hp, rfl⟩ := List.mem_map.1 hk
    obtain ⟨j, hj, rfl⟩ := List.getElem_of_mem hp
    have := getM_at h.nd (List.getElem?_eq_getElem hj)
    obtain ⟨a, b, e, ha, hb, _⟩ := h.ok _ _ this
    rw [e]
    exact jKey (by omega) (by omega)⟩

/-- What the call owns while positions are compared. -/
def jsL (L0 : List AObj) (mb : Nat) (s : JS) : List AObj := L0.set mb (memO s.1) ++ s.2
section
variable {L0 : List AObj} {jb mb : Nat} {s : JS}
theorem jsL_len : (jsL L0 mb s).length = L0.length + s.2.length := by simp [jsL]
theorem jsL_old {B : AObj} (h : L0[jb]? = some B) (hne : mb ≠ jb) : (jsL L0 mb s)[jb]? = some B := by
  have := (List.getElem?_eq_some_iff.1 h).1
  unfold jsL
  rw [List.getElem?_append_left (by simpa using this), List.getElem?_set_ne hne]; exact h
theorem jsL_map (h : mb < L0.length) : (jsL L0 mb s)[mb]? = some (memO s.1) := by
  unfold jsL
  rw [List.getElem?_append_left (by simpa using h), List.getElem?_set_self h]
theorem jsL_set (h : mb < L0.length) (m : Memo) : (jsL L0 mb s).set mb (memO m) = jsL L0 mb (m, s.2) := by
  unfold jsL
  rw [List.set_append_left _ _ (by simpa using h), List.set_set]
theorem jsL_app (o : AObj) : jsL L0 mb s ++ [o] = jsL L0 mb (s.1, s.2 ++ [o]) := by simp [jsL]
theorem jsL_app2 (o o2 : AObj) : jsL L0 mb s ++ [o] ++ [o2] = jsL L0 mb (s.1, s.2 ++ [o, o2]) := by simp [jsL]
end

theorem pos_at {g : List GP} {a : Nat} (h : a < g.length) : (g.map posE)[a]? = some (.agg [.sl false (ints (lefts g a)), .sl false (ints (rights g a))]) := by
  simp [lefts, rights, List.getD_eq_getElem?_getD, h, posE]
theorem lefts_len {g : List GP} (hg : GameOk g) {a : Nat} (h : a < g.length) : (lefts g a).length ≤ 1048576 ∧ (rights g a).length ≤ 1048576 := by
  have := (hg a g[a] (List.getElem?_eq_getElem h)).1
  unfold lefts rights
  rw [List.getD_eq_getElem?_getD, List.getElem?_eq_getElem h]
  exact this

structure AtS where
  d : List Int
  r : List Int
  q : Bool × JS

theorem atMost_ok (g : List GP) (hg : GameOk g) (hl : g.length ≤ 1048576) : ∀ (f a b : Nat), a < g.length → b < g.length → a + b < f → ∀ (L0 : List AObj) (jb mb : Nat) (s : JS),
    L0[jb]? = some (.box 126 [.sl false (g.map posE), .map mb]) → mb < L0.length → mb ≠ jb → MemOk g s.1 →
    Ct Try.prog 115 [.ptr jb 0, .int .i64 a, .int .i64 b] (jsL L0 mb s) (.bool (atM g f s a b).1) (jsL L0 mb (atM g f s a b).2)
  | 0, a, b, _, _, h, _, _, _, _, _, _, _, _ => absurd h (Nat.not_lt_zero _)
  | f + 1, a, b, ha, hb, hf, L0, jb, mb, s, hj, hm, hne, hmo => by
    have hJ : (jsL L0 mb s)[jb]? = some (.box 126 [.sl false (g.map posE), .map mb]) := jsL_old hj hne
    have hM : (jsL L0 mb s)[mb]? = some (memO s.1) := jsL_map hm
    have hJl := (List.getElem?_eq_some_iff.1 hJ).1
    have hMl := (List.getElem?_eq_some_iff.1 hM).1
    have hj1 : ∀ B, (jsL L0 mb s ++ [B])[jb]? = some (.box 126 [.sl false (g.map posE), .map mb]) := fun B => by rw [List.getElem?_append_left hJl]; exact hJ
    have hm1 : ∀ B, (jsL L0 mb s ++ [B])[mb]? = some (memO s.1) := fun B => by rw [List.getElem?_append_left hMl]; exact hM
    have hmp := hmo.map hl
    have hky := jKey (a := a) (b := b) (by omega) (by omega)
    have hap := jsL_app (L0 := L0) (mb := mb) (s := s) (keyO a b)
    have hlen := jsL_len (L0 := L0) (mb := mb) (s := s)
    refine Ct.by_ hmix [] Try.func115 rfl ?_
    simp only [run0, run1, run2, run3, run4, run5, run6, run7, run8, run9, run10, run11, run12, run13, run14, run15, run16, run17, run18, run19, run20, run21, run22, reduceCtorEq, Nat.reduceEqDiff, Nat.reduceAdd, Nat.reduceSub, Nat.reduceLeDiff, indexAddrA, indexRefA, appendA, strA, Nat.reduceMul, Nat.zero_mul, Nat.reduceMod, Int.reduceEq, Int.reduceLT, Int.reduceLE, Nat.reduceLT, Nat.lt_irrefl, Nat.reduceBEq, tys0, tys1, tys2, tys3, tys4, tys5, tys6, tys7, tys8, tys9, tys10, tys11, tys12, tys13, tys14, tys15, tys16, tys17, tys18, tys19, tys20, tys21, tys22, tys23, Try.ntmps115, Try.results115, hj1, List.getElem?_append_right, Nat.sub_self]
    refine ⟨by kernel_rfl, ?_⟩
    refine RunL.look jT s.1 ((a : Int), (b : Int)) rfl rfl rfl rfl (hm1 _) Try.underlying124 hmp hky rfl ?_
    cases hk : getM s.1 ((a : Int), (b : Int)) with
    | some v =>
      have hA : atM g (f + 1) s a b = (v, (s.1, s.2 ++ [keyO a b])) := by simp only [atM, hk]
      rw [hA]
      simp only [run0, run1, run2, run3, run4, run5, run6, run7, run8, run9, run10, run11, run12, run13, run14, run15, run16, run17, run18, run19, run20, run21, run22, reduceCtorEq, Nat.reduceEqDiff, Nat.reduceAdd, Nat.reduceSub, Nat.reduceLeDiff, indexAddrA, indexRefA, appendA, strA, Nat.reduceMul, Nat.zero_mul, Nat.reduceMod, Int.reduceEq, Int.reduceLT, Int.reduceLE, Nat.reduceLT, Nat.lt_irrefl, Nat.reduceBEq, tys0, tys1, tys2, tys3, tys4, tys5, tys6, tys7, tys8, tys9, tys10, tys11, tys12, tys13, tys14, tys15, tys16, tys17, tys18, tys19, tys20, tys21, tys22, tys23, Try.ntmps115, Try.results115, lookR, hk, Option.getD_some]
      exact Fin.own hap rfl
    | none =>
      have hA : atM g (f + 1) s a b = ((((rights g b).foldl (fun (q : Bool × JS) y => if q.1 then (!(atM g f q.2 y.toNat a).1, (atM g f q.2 y.toNat a).2) else q) ((lefts g a).foldl (fun (q : Bool × JS) x => if q.1 then (!(atM g f q.2 b x.toNat).1, (atM g f q.2 b x.toNat).2) else q) (true, (s.1, s.2 ++ [keyO a b])))).1), (putM ((rights g b).foldl (fun (q : Bool × JS) y => if q.1 then (!(atM g f q.2 y.toNat a).1, (atM g f q.2 y.toNat a).2) else q) ((lefts g a).foldl (fun (q : Bool × JS) x => if q.1 then (!(atM g f q.2 b x.toNat).1, (atM g f q.2 b x.toNat).2) else q) (true, (s.1, s.2 ++ [keyO a b])))).2.1 ((a : Int), (b : Int)) ((rights g b).foldl (fun (q : Bool × JS) y => if q.1 then (!(atM g f q.2 y.toNat a).1, (atM g f q.2 y.toNat a).2) else q) ((lefts g a).foldl (fun (q : Bool × JS) x => if q.1 then (!(atM g f q.2 b x.toNat).1, (atM g f q.2 b x.toNat).2) else q) (true, (s.1, s.2 ++ [keyO a b])))).1, ((rights g b).foldl (fun (q : Bool × JS) y => if q.1 then (!(atM g f q.2 y.toNat a).1, (atM g f q.2 y.toNat a).2) else q) ((lefts g a).foldl (fun (q : Bool × JS) x => if q.1 then (!(atM g f q.2 b x.toNat).1, (atM g f q.2 b x.toNat).2) else q) (true, (s.1, s.2 ++ [keyO a b])))).2.2)) := by
        simp only [atM, hk]
      rw [hA]
      clear hA
      have hla := lefts_len hg ha
      have hlb := lefts_len hg hb
      have pa := pos_at ha
      have pb := pos_at hb
      have ha1 : (a : Int) < (g.length : Int) := by omega
      have hb1 : (b : Int) < (g.length : Int) := by omega
      have hq0 : ∃ q0 : Bool × JS, q0 = (true, (s.1, s.2 ++ [keyO a b])) := ⟨_, rfl⟩
      obtain ⟨q0, hq0⟩ := hq0
      rw [← hq0]
      simp only [run0, run1, run2, run3, run4, run5, run6, run7, run8, run9, run10, run11, run12, run13, run14, run15, run16, run17, run18, run19, run20, run21, run22, reduceCtorEq, Nat.reduceEqDiff, Nat.reduceAdd, Nat.reduceSub, Nat.reduceLeDiff, indexAddrA, indexRefA, appendA, strA, Nat.reduceMul, Nat.zero_mul, Nat.reduceMod, Int.reduceEq, Int.reduceLT, Int.reduceLE, Nat.reduceLT, Nat.lt_irrefl, Nat.reduceBEq, tys0, tys1, tys2, tys3, tys4, tys5, tys6, tys7, tys8, tys9, tys10, tys11, tys12, tys13, tys14, tys15, tys16, tys17, tys18, tys19, tys20, tys21, tys22, tys23, Try.ntmps115, Try.results115, lookR, hk, Option.getD_none, hj1, pa, ha1, List.length_map, Int.toNat_natCast, Int.natCast_nonneg, List.getElem?_append_right, Nat.sub_self]
      refine AWp.loop_inv (ι := AtS) (fun p => ⟨[.ptr jb 0, .int .i64 a, .int .i64 b, .junk, .junk, .junk, .bool false, .ptr (jsL L0 mb s).length 0, .junk, .junk, .bool p.q.1, .junk, .junk, .junk, .junk, .junk, .junk, .junk, .junk, .junk, .junk, .junk, .junk, .junk, .junk, .junk, .junk, .junk, .junk, .junk, .junk, .junk, .junk, .junk, .junk, .junk, .sl false (ints (lefts g a)), .int .i64 (lefts g a).length, .int .i64 p.d.length, .junk, .junk, .junk, .junk, .junk, .junk, .junk, .junk, .junk, .junk, .junk, .junk, .junk, .junk, .junk, .junk, .junk, .junk, .junk, .junk, .junk, .junk, .junk, .junk, .junk, .junk, .junk, .junk, .junk, .junk, .junk, .junk, .junk, .junk, .junk, .junk, .junk, .junk, .junk, .junk, .junk], jsL L0 mb p.q.2⟩)
        (fun p => lefts g a = p.d ++ p.r ∧ p.q = p.d.foldl (fun (q : Bool × JS) x => if q.1 then (!(atM g f q.2 b x.toNat).1, (atM g f q.2 b x.toNat).2) else q) q0 ∧ MemOk g p.q.2.1 ∧ ∃ Y, p.q.2.2 = s.2 ++ keyO a b :: Y) (fun p => p.r.length) ⟨[], lefts g a, q0⟩ ⟨rfl, rfl, by rw [hq0]; exact hmo, [], by rw [hq0]⟩
        ⟨by rw [hq0]; simp only [List.length_nil, Int.natCast_zero]; repeat constructor, by rw [hq0]; exact hap⟩ ?_
      rintro ⟨d, r, q⟩ ⟨h1, h2, h3, Y, h4⟩
      refine W.sound hmix (E := []) ?_
      simp only at h1 h2 h3 h4
      have hJ2 : (jsL L0 mb q.2)[jb]? = some (.box 126 [.sl false (g.map posE), .map mb]) := jsL_old hj hne
      cases r with
      | cons x r =>
        obtain ⟨e1, e2, e5⟩ := int_split h1 hla.1
        have hx := lefts_lt hg (a := a) (x := x) (by rw [h1]; simp)
        obtain ⟨k, rfl⟩ := Int.eq_ofNat_of_zero_le hx.1
        cases hb2 : q.1
        · simp only [run0, run1, run2, run3, run4, run5, run6, run7, run8, run9, run10, run11, run12, run13, run14, run15, run16, run17, run18, run19, run20, run21, run22, reduceCtorEq, Nat.reduceEqDiff, Nat.reduceAdd, Nat.reduceSub, Nat.reduceLeDiff, indexAddrA, indexRefA, appendA, strA, Nat.reduceMul, Nat.zero_mul, Nat.reduceMod, Int.reduceEq, Int.reduceLT, Int.reduceLE, Nat.reduceLT, Nat.lt_irrefl, Nat.reduceBEq, tys0, tys1, tys2, tys3, tys4, tys5, tys6, tys7, tys8, tys9, tys10, tys11, tys12, tys13, tys14, tys15, tys16, tys17, tys18, tys19, tys20, tys21, tys22, tys23, Try.ntmps115, Try.results115, List.length_map, e1, e2, e5, hb2, Int.toNat_natCast, Int.natCast_nonneg]
          exact ⟨⟨d ++ [(k : Int)], r, q⟩, ⟨by simp [h1], by rw [List.foldl_append, ← h2]; simp [hb2], h3, Y, h4⟩, by simp, by simp only [List.length_append, List.length_cons, List.length_nil, hb2]; repeat constructor, rfl⟩
        · obtain ⟨_, m2, Z, m3⟩ := atM_law hg f q.2 b k hb (by omega) (by omega) h3
          simp only [run0, run1, run2, run3, run4, run5, run6, run7, run8, run9, run10, run11, run12, run13, run14, run15, run16, run17, run18, run19, run20, run21, run22, reduceCtorEq, Nat.reduceEqDiff, Nat.reduceAdd, Nat.reduceSub, Nat.reduceLeDiff, indexAddrA, indexRefA, appendA, strA, Nat.reduceMul, Nat.zero_mul, Nat.reduceMod, Int.reduceEq, Int.reduceLT, Int.reduceLE, Nat.reduceLT, Nat.lt_irrefl, Nat.reduceBEq, tys0, tys1, tys2, tys3, tys4, tys5, tys6, tys7, tys8, tys9, tys10, tys11, tys12, tys13, tys14, tys15, tys16, tys17, tys18, tys19, tys20, tys21, tys22, tys23, Try.ntmps115, Try.results115, List.length_map, e1, e2, hb2, Int.toNat_natCast, Int.natCast_nonneg]
          refine RunL.call rfl rfl rfl ok_f115 rfl (.inl rfl) (atMost_ok g hg hl f b k hb (by omega) (by omega) L0 jb mb q.2 hj hm hne h3) ?_
          simp only [run0, run1, run2, run3, run4, run5, run6, run7, run8, run9, run10, run11, run12, run13, run14, run15, run16, run17, run18, run19, run20, run21, run22, reduceCtorEq, Nat.reduceEqDiff, Nat.reduceAdd, Nat.reduceSub, Nat.reduceLeDiff, indexAddrA, indexRefA, appendA, strA, Nat.reduceMul, Nat.zero_mul, Nat.reduceMod, Int.reduceEq, Int.reduceLT, Int.reduceLE, Nat.reduceLT, Nat.lt_irrefl, Nat.reduceBEq, tys0, tys1, tys2, tys3, tys4, tys5, tys6, tys7, tys8, tys9, tys10, tys11, tys12, tys13, tys14, tys15, tys16, tys17, tys18, tys19, tys20, tys21, tys22, tys23, Try.ntmps115, Try.results115, e5]
          exact ⟨⟨d ++ [(k : Int)], r, (!(atM g f q.2 b k).1, (atM g f q.2 b k).2)⟩, ⟨by simp [h1], by rw [List.foldl_append, ← h2]; simp [hb2], m2, Y ++ keyO b k :: Z, by simp only [m3, h4, List.append_assoc, List.cons_append]⟩, by simp, by simp only [List.length_append, List.length_cons, List.length_nil]; repeat constructor, rfl⟩
      | nil =>
        have e1 := int_end h1
        have hd : d = lefts g a := by rw [h1, List.append_nil]
        subst hd
        rw [← h2]
        clear h1 h2
        simp only [run0, run1, run2, run3, run4, run5, run6, run7, run8, run9, run10, run11, run12, run13, run14, run15, run16, run17, run18, run19, run20, run21, run22, reduceCtorEq, Nat.reduceEqDiff, Nat.reduceAdd, Nat.reduceSub, Nat.reduceLeDiff, indexAddrA, indexRefA, appendA, strA, Nat.reduceMul, Nat.zero_mul, Nat.reduceMod, Int.reduceEq, Int.reduceLT, Int.reduceLE, Nat.reduceLT, Nat.lt_irrefl, Nat.reduceBEq, tys0, tys1, tys2, tys3, tys4, tys5, tys6, tys7, tys8, tys9, tys10, tys11, tys12, tys13, tys14, tys15, tys16, tys17, tys18, tys19, tys20, tys21, tys22, tys23, Try.ntmps115, Try.results115, List.length_map, e1, hJ2, pb, hb1, Int.toNat_natCast, Int.natCast_nonneg]
        refine AWp.loop_inv (ι := AtS) (fun p => ⟨[.ptr jb 0, .int .i64 a, .int .i64 b, .junk, .junk, .junk, .bool false, .ptr (jsL L0 mb s).length 0, .junk, .junk, .bool p.q.1, .junk, .junk, .junk, .junk, .junk, .junk, .junk, .junk, .junk, .junk, .junk, .junk, .junk, .junk, .junk, .junk, .junk, .junk, .junk, .junk, .junk, .junk, .junk, .junk, .junk, .junk, .junk, .junk, .junk, .junk, .junk, .junk, .junk, .junk, .junk, .junk, .junk, .junk, .junk, .junk, .junk, .junk, .junk, .junk, .junk, .junk, .junk, .sl false (ints (rights g b)), .int .i64 (rights g b).length, .int .i64 p.d.length, .junk, .junk, .junk, .junk, .junk, .junk, .junk, .junk, .junk, .junk, .junk, .junk, .junk, .junk, .junk, .junk, .junk, .junk, .junk], jsL L0 mb p.q.2⟩)
          (fun p => rights g b = p.d ++ p.r ∧ p.q = p.d.foldl (fun (q : Bool × JS) y => if q.1 then (!(atM g f q.2 y.toNat a).1, (atM g f q.2 y.toNat a).2) else q) q ∧ MemOk g p.q.2.1 ∧ ∃ Y, p.q.2.2 = s.2 ++ keyO a b :: Y) (fun p => p.r.length) ⟨[], rights g b, q⟩ ⟨rfl, rfl, h3, Y, h4⟩
          ⟨by simp only [List.length_nil, Int.natCast_zero]; repeat constructor, rfl⟩ ?_
        rintro ⟨d, r, p⟩ ⟨h1, h2, k3, Y2, k4⟩
        refine W.sound hmix (E := []) ?_
        simp only at h1 h2 k3 k4
        have hJ3 : (jsL L0 mb p.2)[jb]? = some (.box 126 [.sl false (g.map posE), .map mb]) := jsL_old hj hne
        cases r with
        | cons x r =>
          obtain ⟨e1, e2, e5⟩ := int_split h1 hlb.2
          have hx := rights_lt hg (a := b) (x := x) (by rw [h1]; simp)
          obtain ⟨k, rfl⟩ := Int.eq_ofNat_of_zero_le hx.1
          cases hb2 : p.1
          · simp only [run0, run1, run2, run3, run4, run5, run6, run7, run8, run9, run10, run11, run12, run13, run14, run15, run16, run17, run18, run19, run20, run21, run22, reduceCtorEq, Nat.reduceEqDiff, Nat.reduceAdd, Nat.reduceSub, Nat.reduceLeDiff, indexAddrA, indexRefA, appendA, strA, Nat.reduceMul, Nat.zero_mul, Nat.reduceMod, Int.reduceEq, Int.reduceLT, Int.reduceLE, Nat.reduceLT, Nat.lt_irrefl, Nat.reduceBEq, tys0, tys1, tys2, tys3, tys4, tys5, tys6, tys7, tys8, tys9, tys10, tys11, tys12, tys13, tys14, tys15, tys16, tys17, tys18, tys19, tys20, tys21, tys22, tys23, Try.ntmps115, Try.results115, List.length_map, e1, e2, e5, hb2, Int.toNat_natCast, Int.natCast_nonneg]
            exact ⟨⟨d ++ [(k : Int)], r, p⟩, ⟨by simp [h1], by rw [List.foldl_append, ← h2]; simp [hb2], k3, Y2, k4⟩, by simp, by simp only [List.length_append, List.length_cons, List.length_nil, hb2]; repeat constructor, rfl⟩
          · obtain ⟨_, m2, Z, m3⟩ := atM_law hg f p.2 k a (by omega) ha (by omega) k3
            simp only [run0, run1, run2, run3, run4, run5, run6, run7, run8, run9, run10, run11, run12, run13, run14, run15, run16, run17, run18, run19, run20, run21, run22, reduceCtorEq, Nat.reduceEqDiff, Nat.reduceAdd, Nat.reduceSub, Nat.reduceLeDiff, indexAddrA, indexRefA, appendA, strA, Nat.reduceMul, Nat.zero_mul, Nat.reduceMod, Int.reduceEq, Int.reduceLT, Int.reduceLE, Nat.reduceLT, Nat.lt_irrefl, Nat.reduceBEq, tys0, tys1, tys2, tys3, tys4, tys5, tys6, tys7, tys8, tys9, tys10, tys11, tys12, tys13, tys14, tys15, tys16, tys17, tys18, tys19, tys20, tys21, tys22, tys23, Try.ntmps115, Try.results115, List.length_map, e1, e2, hb2, Int.toNat_natCast, Int.natCast_nonneg]
            refine RunL.call rfl rfl rfl ok_f115 rfl (.inl rfl) (atMost_ok g hg hl f k a (by omega) ha (by omega) L0 jb mb p.2 hj hm hne k3) ?_
            simp only [run0, run1, run2, run3, run4, run5, run6, run7, run8, run9, run10, run11, run12, run13, run14, run15, run16, run17, run18, run19, run20, run21, run22, reduceCtorEq, Nat.reduceEqDiff, Nat.reduceAdd, Nat.reduceSub, Nat.reduceLeDiff, indexAddrA, indexRefA, appendA, strA, Nat.reduceMul, Nat.zero_mul, Nat.reduceMod, Int.reduceEq, Int.reduceLT, Int.reduceLE, Nat.reduceLT, Nat.lt_irrefl, Nat.reduceBEq, tys0, tys1, tys2, tys3, tys4, tys5, tys6, tys7, tys8, tys9, tys10, tys11, tys12, tys13, tys14, tys15, tys16, tys17, tys18, tys19, tys20, tys21, tys22, tys23, Try.ntmps115, Try.results115, e5]
            exact ⟨⟨d ++ [(k : Int)], r, (!(atM g f p.2 k a).1, (atM g f p.2 k a).2)⟩, ⟨by simp [h1], by rw [List.foldl_append, ← h2]; simp [hb2], m2, Y2 ++ keyO k a :: Z, by simp only [m3, k4, List.append_assoc, List.cons_append]⟩, by simp, by simp only [List.length_append, List.length_cons, List.length_nil]; repeat constructor, rfl⟩
        | nil =>
          have e1 := int_end h1
          have hd : d = rights g b := by rw [h1, List.append_nil]
          subst hd
          rw [← h2]
          have hkb : (jsL L0 mb p.2)[(jsL L0 mb s).length]? = some (keyO a b) := by
            rw [hlen]
            unfold jsL
            rw [List.getElem?_append_right (by simp), k4]
            simp
          simp only [keyO] at hkb
          have hM3 : (jsL L0 mb p.2)[mb]? = some (memO p.2.1) := jsL_map hm
          simp only [run0, run1, run2, run3, run4, run5, run6, run7, run8, run9, run10, run11, run12, run13, run14, run15, run16, run17, run18, run19, run20, run21, run22, reduceCtorEq, Nat.reduceEqDiff, Nat.reduceAdd, Nat.reduceSub, Nat.reduceLeDiff, indexAddrA, indexRefA, appendA, strA, Nat.reduceMul, Nat.zero_mul, Nat.reduceMod, Int.reduceEq, Int.reduceLT, Int.reduceLE, Nat.reduceLT, Nat.lt_irrefl, Nat.reduceBEq, tys0, tys1, tys2, tys3, tys4, tys5, tys6, tys7, tys8, tys9, tys10, tys11, tys12, tys13, tys14, tys15, tys16, tys17, tys18, tys19, tys20, tys21, tys22, tys23, Try.ntmps115, Try.results115, List.length_map, e1, hJ3, hkb]
          refine ⟨by kernel_rfl, ?_⟩
          refine RunL.put jT p.2.1 ((a : Int), (b : Int)) p.1 rfl rfl rfl rfl rfl hM3 Try.underlying124 (k3.map hl) hky rfl ?_
          simp only [run0, run1, run2, run3, run4, run5, run6, run7, run8, run9, run10, run11, run12, run13, run14, run15, run16, run17, run18, run19, run20, run21, run22, reduceCtorEq, Nat.reduceEqDiff, Nat.reduceAdd, Nat.reduceSub, Nat.reduceLeDiff, indexAddrA, indexRefA, appendA, strA, Nat.reduceMul, Nat.zero_mul, Nat.reduceMod, Int.reduceEq, Int.reduceLT, Int.reduceLE, Nat.reduceLT, Nat.lt_irrefl, Nat.reduceBEq, tys0, tys1, tys2, tys3, tys4, tys5, tys6, tys7, tys8, tys9, tys10, tys11, tys12, tys13, tys14, tys15, tys16, tys17, tys18, tys19, tys20, tys21, tys22, tys23, Try.ntmps115, Try.results115]
          exact Fin.own (jsL_set hm _) rfl

end Go.Proofs.Ytllcljajlemmaaa
/-
  A logic of values for Go's functions (part 24): a call that is lent what the caller owns, and that only reads it: it may come before or behind other reading steps.
-/
namespace Go.Proofs.Ytllcljajlemmaaa.K
set_option linter.unusedVariables false
set_option linter.unusedSimpArgs false
open Go Go.RowKit

theorem RunL.lendB {P : Program} {k : Oper → Knd} {ops : Array Oper} {K : St → Prop} {o : Oper} {rest : List Oper} {s : St} {f : FuncId} {args : Array Operand} {ats : Array TypeId} {r : AV} {xs ys : List AV}
    (hg : guardA ops s o = some true) (ho : o.op = .call { callee := .value (.func f), args := args, argTypes := ats }) (hf : okFn P f = true) (hkd : Knd.le .B (k o) = true) (hW : ∀ i, isW k i = false ∧ rowsAt k i = false)
    (h : Ct P f ys [] r []) (hx : args.toList.map s.ev = xs) (hy : ∀ X, VwL (s.L ++ X) xs ys) (hr : flatB r = true) (hk : R P k ops rest (s.put o.dst r) K) : RunL P k ops (o :: rest) s K := by
  refine .op ⟨.B, r, []⟩ hkd ⟨⟨fun _ h => (nomatch h), fun h => (nomatch h)⟩, fun s1 ha hL => ⟨by rw [agree_guard ha]; exact hg, ?_⟩⟩ (R.sound hk)
  obtain ⟨L0, X, hX, hlen, hS⟩ := hL
  have e0 : L0 = s.L := by
    apply List.ext_getElem?
    intro i
    obtain ⟨w1, w2⟩ := hW i
    rcases hS i w1 with e | ⟨e, _⟩
    · exact e
    · rw [w2] at e; cases e
  subst e0
  have he : args.toList.map s1.ev = xs := by
    rw [← hx]
    exact map_congr_ev fun x hx => agree_ev ha (by rw [ho]; simp [Op.operands, Call.operands]; exact .inr (by simpa using hx))
  have hc : Ct P f (args.toList.map s1.ev) s1.L r s1.L := by
    rw [he, hX]
    exact Ct.lend h (hy X) hr
  have := call_sound (P := P) (s := s1) ho hf hc
  exact this

end Go.Proofs.Ytllcljajlemmaaa.K
/-
  Games: how two positions are ordered: the program; the reference's table.
-/
namespace Go.Proofs.Ytllcljajlemmaaa
open Go K
set_option linter.unusedSimpArgs false
set_option linter.unusedVariables false
set_option maxHeartbeats 3200000
set_option maxRecDepth 8000

theorem newJudge_ok (g : List GP) (L : List AObj) : Ct Try.prog 59 [.sl false (g.map posE)] L (.ptr (L.length + 1) 0) (L ++ [memO [], .box 126 [.sl false (g.map posE), .map L.length]]) := by
  refine Ct.by_ hmix [] Try.func59 rfl ?_
  simp only [run0, run1, run2, run3, run4, run5, run6, run7, run8, run9, run10, run11, run12, run13, run14, run15, run16, run17, run18, run19, run20, run21, run22, reduceCtorEq, Nat.reduceEqDiff, Nat.reduceAdd, Nat.reduceSub, Nat.reduceLeDiff, indexAddrA, indexRefA, appendA, strA, Nat.reduceMul, Nat.zero_mul, Nat.reduceMod, Int.reduceEq, Int.reduceLT, Int.reduceLE, Nat.reduceLT, Nat.lt_irrefl, Nat.reduceBEq, tys0, tys1, tys2, tys3, tys4, tys5, tys6, tys7, tys8, tys9, tys10, tys11, tys12, tys13, tys14, tys15, tys16, tys17, tys18, tys19, tys20, tys21, tys22, tys23, Try.ntmps59, Try.results59]
  refine RunL.newMap 164 4 rfl rfl rfl ?_
  simp only [run0, run1, run2, run3, run4, run5, run6, run7, run8, run9, run10, run11, run12, run13, run14, run15, run16, run17, run18, run19, run20, run21, run22, reduceCtorEq, Nat.reduceEqDiff, Nat.reduceAdd, Nat.reduceSub, Nat.reduceLeDiff, indexAddrA, indexRefA, appendA, strA, Nat.reduceMul, Nat.zero_mul, Nat.reduceMod, Int.reduceEq, Int.reduceLT, Int.reduceLE, Nat.reduceLT, Nat.lt_irrefl, Nat.reduceBEq, tys0, tys1, tys2, tys3, tys4, tys5, tys6, tys7, tys8, tys9, tys10, tys11, tys12, tys13, tys14, tys15, tys16, tys17, tys18, tys19, tys20, tys21, tys22, tys23, Try.ntmps59, Try.results59]
  exact Fin.own (by simp [memO, mapO]) rfl

def ordI (x y : Bool) : Int := if x && y then 0 else if x then -1 else if y then 1 else 2
def cmpG (g : List GP) (a b : Nat) : Int := ordI (leG g a b) (leG g b a)
def cmpJ (g : List GP) (s : JS) (a b : Nat) : JS := (atM g (b + a + 1) (atM g (a + b + 1) s a b).2 b a).2
theorem cmpJ_law {g : List GP} (hg : GameOk g) {s : JS} {a b : Nat} (ha : a < g.length) (hb : b < g.length) (hm : MemOk g s.1) : MemOk g (cmpJ g s a b).1 := by
  obtain ⟨h1, h2, _⟩ := atM_law hg (a + b + 1) s a b ha hb (by omega) hm
  exact (atM_law hg (b + a + 1) _ b a hb ha (by omega) h2).2.1
theorem compareJ_ok (g : List GP) (hg : GameOk g) (hl : g.length ≤ 1048576) (a b : Nat) (ha : a < g.length) (hb : b < g.length) (L0 : List AObj) (jb mb : Nat) (s : JS)
    (hj : L0[jb]? = some (.box 126 [.sl false (g.map posE), .map mb])) (hm : mb < L0.length) (hne : mb ≠ jb) (hmo : MemOk g s.1) :
    Ct Try.prog 67 [.ptr jb 0, .int .i64 a, .int .i64 b] (jsL L0 mb s) (.int .i64 (cmpG g a b)) (jsL L0 mb (cmpJ g s a b)) := by
  obtain ⟨h1, h2, _⟩ := atM_law hg (a + b + 1) s a b ha hb (by omega) hmo
  obtain ⟨h3, h4, _⟩ := atM_law hg (b + a + 1) _ b a hb ha (by omega) h2
  have c1 := atMost_ok g hg hl (a + b + 1) a b ha hb (by omega) L0 jb mb s hj hm hne hmo
  have c2 := atMost_ok g hg hl (b + a + 1) b a hb ha (by omega) L0 jb mb _ hj hm hne h2
  rw [h1] at c1
  rw [h3] at c2
  refine Ct.by_ hmix [] Try.func67 rfl ?_
  simp only [run0, run1, run2, run3, run4, run5, run6, run7, run8, run9, run10, run11, run12, run13, run14, run15, run16, run17, run18, run19, run20, run21, run22, reduceCtorEq, Nat.reduceEqDiff, Nat.reduceAdd, Nat.reduceSub, Nat.reduceLeDiff, indexAddrA, indexRefA, appendA, strA, Nat.reduceMul, Nat.zero_mul, Nat.reduceMod, Int.reduceEq, Int.reduceLT, Int.reduceLE, Nat.reduceLT, Nat.lt_irrefl, Nat.reduceBEq, tys0, tys1, tys2, tys3, tys4, tys5, tys6, tys7, tys8, tys9, tys10, tys11, tys12, tys13, tys14, tys15, tys16, tys17, tys18, tys19, tys20, tys21, tys22, tys23, Try.ntmps67, Try.results67]
  refine RunL.call rfl rfl rfl ok_f115 rfl (.inl rfl) c1 ?_
  simp only [run0, run1, run2, run3, run4, run5, run6, run7, run8, run9, run10, run11, run12, run13, run14, run15, run16, run17, run18, run19, run20, run21, run22, reduceCtorEq, Nat.reduceEqDiff, Nat.reduceAdd, Nat.reduceSub, Nat.reduceLeDiff, indexAddrA, indexRefA, appendA, strA, Nat.reduceMul, Nat.zero_mul, Nat.reduceMod, Int.reduceEq, Int.reduceLT, Int.reduceLE, Nat.reduceLT, Nat.lt_irrefl, Nat.reduceBEq, tys0, tys1, tys2, tys3, tys4, tys5, tys6, tys7, tys8, tys9, tys10, tys11, tys12, tys13, tys14, tys15, tys16, tys17, tys18, tys19, tys20, tys21, tys22, tys23, Try.ntmps67, Try.results67]
  refine RunL.call rfl rfl rfl ok_f115 rfl (.inl rfl) c2 ?_
  unfold cmpG
  cases leG g a b <;> cases leG g b a <;> simp only [run0, run1, run2, run3, run4, run5, run6, run7, run8, run9, run10, run11, run12, run13, run14, run15, run16, run17, run18, run19, run20, run21, run22, reduceCtorEq, Nat.reduceEqDiff, Nat.reduceAdd, Nat.reduceSub, Nat.reduceLeDiff, indexAddrA, indexRefA, appendA, strA, Nat.reduceMul, Nat.zero_mul, Nat.reduceMod, Int.reduceEq, Int.reduceLT, Int.reduceLE, Nat.reduceLT, Nat.lt_irrefl, Nat.reduceBEq, tys0, tys1, tys2, tys3, tys4, tys5, tys6, tys7, tys8, tys9, tys10, tys11, tys12, tys13, tys14, tys15, tys16, tys17, tys18, tys19, tys20, tys21, tys22, tys23, Try.ntmps67, Try.results67] <;> exact Fin.own rfl rfl

def cmpR (g : List GP) (a b : Int) : AV := .tup [.int .i64 (if hasB g a && hasB g b then cmpG g a.toNat b.toNat else 0), .bool (hasB g a && hasB g b)]
theorem hasB_ok {g : List GP} {a : Int} (h : hasB g a = true) : gameB g = true ∧ ∃ k : Nat, a = (k : Int) ∧ k < g.length := by
  simp only [hasB, Bool.and_eq_true, inB, decide_eq_true_eq] at h
  obtain ⟨k, rfl⟩ := Int.eq_ofNat_of_zero_le h.2.1
  exact ⟨h.1, k, rfl, by omega⟩
theorem implCompareG_ok (g : List GP) (a b : Int) (hl : g.length ≤ 1048576) (hs : ∀ p ∈ g, smallP p) : Ct Try.prog 23 [.sl false (g.map posE), .int .i64 a, .int .i64 b] [] (cmpR g a b) [] := by
  have pg := posL_pure g
  refine Ct.by_ hmix [] Try.func23 rfl ?_
  simp only [run0, run1, run2, run3, run4, run5, run6, run7, run8, run9, run10, run11, run12, run13, run14, run15, run16, run17, run18, run19, run20, run21, run22, reduceCtorEq, Nat.reduceEqDiff, Nat.reduceAdd, Nat.reduceSub, Nat.reduceLeDiff, indexAddrA, indexRefA, appendA, strA, Nat.reduceMul, Nat.zero_mul, Nat.reduceMod, Int.reduceEq, Int.reduceLT, Int.reduceLE, Nat.reduceLT, Nat.lt_irrefl, Nat.reduceBEq, tys0, tys1, tys2, tys3, tys4, tys5, tys6, tys7, tys8, tys9, tys10, tys11, tys12, tys13, tys14, tys15, tys16, tys17, tys18, tys19, tys20, tys21, tys22, tys23, Try.ntmps23, Try.results23]
  refine RunL.callp rfl rfl ok_f66 (hasPosition_ok g a hl hs) (by simp only [pureL, pureB, pg, Bool.and_self]) rfl ?_
  cases h1 : hasB g a
  · simp only [run0, run1, run2, run3, run4, run5, run6, run7, run8, run9, run10, run11, run12, run13, run14, run15, run16, run17, run18, run19, run20, run21, run22, reduceCtorEq, Nat.reduceEqDiff, Nat.reduceAdd, Nat.reduceSub, Nat.reduceLeDiff, indexAddrA, indexRefA, appendA, strA, Nat.reduceMul, Nat.zero_mul, Nat.reduceMod, Int.reduceEq, Int.reduceLT, Int.reduceLE, Nat.reduceLT, Nat.lt_irrefl, Nat.reduceBEq, tys0, tys1, tys2, tys3, tys4, tys5, tys6, tys7, tys8, tys9, tys10, tys11, tys12, tys13, tys14, tys15, tys16, tys17, tys18, tys19, tys20, tys21, tys22, tys23, Try.ntmps23, Try.results23]
    exact Fin.eq (by simp [cmpR, h1]) rfl
  simp only [run0, run1, run2, run3, run4, run5, run6, run7, run8, run9, run10, run11, run12, run13, run14, run15, run16, run17, run18, run19, run20, run21, run22, reduceCtorEq, Nat.reduceEqDiff, Nat.reduceAdd, Nat.reduceSub, Nat.reduceLeDiff, indexAddrA, indexRefA, appendA, strA, Nat.reduceMul, Nat.zero_mul, Nat.reduceMod, Int.reduceEq, Int.reduceLT, Int.reduceLE, Nat.reduceLT, Nat.lt_irrefl, Nat.reduceBEq, tys0, tys1, tys2, tys3, tys4, tys5, tys6, tys7, tys8, tys9, tys10, tys11, tys12, tys13, tys14, tys15, tys16, tys17, tys18, tys19, tys20, tys21, tys22, tys23, Try.ntmps23, Try.results23]
  refine RunL.callp rfl rfl ok_f66 (hasPosition_ok g b hl hs) (by simp only [pureL, pureB, pg, Bool.and_self]) rfl ?_
  cases h2 : hasB g b
  · simp only [run0, run1, run2, run3, run4, run5, run6, run7, run8, run9, run10, run11, run12, run13, run14, run15, run16, run17, run18, run19, run20, run21, run22, reduceCtorEq, Nat.reduceEqDiff, Nat.reduceAdd, Nat.reduceSub, Nat.reduceLeDiff, indexAddrA, indexRefA, appendA, strA, Nat.reduceMul, Nat.zero_mul, Nat.reduceMod, Int.reduceEq, Int.reduceLT, Int.reduceLE, Nat.reduceLT, Nat.lt_irrefl, Nat.reduceBEq, tys0, tys1, tys2, tys3, tys4, tys5, tys6, tys7, tys8, tys9, tys10, tys11, tys12, tys13, tys14, tys15, tys16, tys17, tys18, tys19, tys20, tys21, tys22, tys23, Try.ntmps23, Try.results23]
    exact Fin.eq (by simp [cmpR, h1, h2]) rfl
  obtain ⟨hgb, a, rfl, ha⟩ := hasB_ok h1
  obtain ⟨_, b, rfl, hb⟩ := hasB_ok h2
  have hg := (gameB_ok hgb).1
  simp only [run0, run1, run2, run3, run4, run5, run6, run7, run8, run9, run10, run11, run12, run13, run14, run15, run16, run17, run18, run19, run20, run21, run22, reduceCtorEq, Nat.reduceEqDiff, Nat.reduceAdd, Nat.reduceSub, Nat.reduceLeDiff, indexAddrA, indexRefA, appendA, strA, Nat.reduceMul, Nat.zero_mul, Nat.reduceMod, Int.reduceEq, Int.reduceLT, Int.reduceLE, Nat.reduceLT, Nat.lt_irrefl, Nat.reduceBEq, tys0, tys1, tys2, tys3, tys4, tys5, tys6, tys7, tys8, tys9, tys10, tys11, tys12, tys13, tys14, tys15, tys16, tys17, tys18, tys19, tys20, tys21, tys22, tys23, Try.ntmps23, Try.results23]
  refine RunL.call rfl rfl rfl ok_f59 rfl (.inl rfl) (newJudge_ok g []) ?_
  simp only [run0, run1, run2, run3, run4, run5, run6, run7, run8, run9, run10, run11, run12, run13, run14, run15, run16, run17, run18, run19, run20, run21, run22, reduceCtorEq, Nat.reduceEqDiff, Nat.reduceAdd, Nat.reduceSub, Nat.reduceLeDiff, indexAddrA, indexRefA, appendA, strA, Nat.reduceMul, Nat.zero_mul, Nat.reduceMod, Int.reduceEq, Int.reduceLT, Int.reduceLE, Nat.reduceLT, Nat.lt_irrefl, Nat.reduceBEq, tys0, tys1, tys2, tys3, tys4, tys5, tys6, tys7, tys8, tys9, tys10, tys11, tys12, tys13, tys14, tys15, tys16, tys17, tys18, tys19, tys20, tys21, tys22, tys23, Try.ntmps23, Try.results23]
  have hc := compareJ_ok g hg hl a b ha hb [memO [], .box 126 [.sl false (g.map posE), .map 0]] 1 0 ([], []) rfl (by simp) (by omega) (MemOk.nil g)
  refine RunL.call rfl rfl rfl ok_f67 rfl (.inl rfl) hc ?_
  simp only [run0, run1, run2, run3, run4, run5, run6, run7, run8, run9, run10, run11, run12, run13, run14, run15, run16, run17, run18, run19, run20, run21, run22, reduceCtorEq, Nat.reduceEqDiff, Nat.reduceAdd, Nat.reduceSub, Nat.reduceLeDiff, indexAddrA, indexRefA, appendA, strA, Nat.reduceMul, Nat.zero_mul, Nat.reduceMod, Int.reduceEq, Int.reduceLT, Int.reduceLE, Nat.reduceLT, Nat.lt_irrefl, Nat.reduceBEq, tys0, tys1, tys2, tys3, tys4, tys5, tys6, tys7, tys8, tys9, tys10, tys11, tys12, tys13, tys14, tys15, tys16, tys17, tys18, tys19, tys20, tys21, tys22, tys23, Try.ntmps23, Try.results23]
  exact Fin.eq (by simp [cmpR, h1, h2]) rfl

/-! ### the reference's table -/
abbrev bools (l : List Bool) : List AV := l.map AV.bool
def rowV (l : List Bool) : AV := .sl false (bools l)
theorem bools_pure : ∀ l : List Bool, pureL (bools l) = true
  | [] => rfl
  | x :: r => by
    have := bools_pure r
    simp only [bools, List.map_cons, pureL, pureB, Bool.true_and] at this ⊢
    exact this
theorem rows_pure : ∀ t : List (List Bool), pureL (t.map rowV) = true
  | [] => rfl
  | x :: r => by simp only [List.map_cons, rowV, pureL, pureB, bools_pure, rows_pure r, Bool.and_self]
/-- An entry of a table. -/
def tbl (t : List (List Bool)) (a b : Nat) : Bool := (t.getD a []).getD b false
/-- All rows are so long. -/
def sqr (n : Nat) (t : List (List Bool)) : Prop := t.length = n ∧ ∀ r ∈ t, r.length = n
theorem tbl_row {n : Nat} {t : List (List Bool)} (h : sqr n t) {a : Nat} (ha : a < n) : ∃ r, t[a]? = some r ∧ r.length = n ∧ ∀ b, b < n → (bools r)[b]? = some (.bool (tbl t a b)) := by
  have hlt : a < t.length := by rw [h.1]; exact ha
  refine ⟨t[a], List.getElem?_eq_getElem hlt, h.2 _ (List.getElem_mem hlt), fun b hb => ?_⟩
  have hr := h.2 _ (List.getElem_mem hlt)
  have e : t.getD a [] = t[a] := by simp [List.getD_eq_getElem?_getD, hlt]
  unfold tbl
  rw [e, List.getD_eq_getElem?_getD, List.getElem?_map, List.getElem?_eq_getElem (by omega)]
  rfl
def shownB (g : List GP) (t : List (List Bool)) (a b : Nat) : Bool := (lefts g a).all (fun x => !tbl t b x.toNat) && (rights g b).all (fun y => !tbl t y.toNat a)
theorem gaShown_ok (g : List GP) (hg : GameOk g) (hl : g.length ≤ 1048576) (t : List (List Bool)) (ht : sqr g.length t) (a b : Nat) (ha : a < g.length) (hb : b < g.length) :
    Ct Try.prog 98 [.sl false (g.map posE), .sl false (t.map rowV), .int .i64 a, .int .i64 b] [] (.bool (shownB g t a b)) [] := by
  have hla := lefts_len hg ha
  have hlb := lefts_len hg hb
  have pa := pos_at ha
  have pb := pos_at hb
  have ha1 : (a : Int) < (g.length : Int) := by omega
  have hb1 : (b : Int) < (g.length : Int) := by omega
  have htl : t.length = g.length := ht.1
  obtain ⟨rb, rb1, rb2, rb3⟩ := tbl_row ht hb
  have rb4 : (t.map rowV)[b]? = some (.sl false (bools rb)) := by simp [rb1, rowV]
  refine Ct.by_ hmix [] Try.func98 rfl ?_
  simp only [run0, run1, run2, run3, run4, run5, run6, run7, run8, run9, run10, run11, run12, run13, run14, run15, run16, run17, run18, run19, run20, run21, run22, reduceCtorEq, Nat.reduceEqDiff, Nat.reduceAdd, Nat.reduceSub, Nat.reduceLeDiff, indexAddrA, indexRefA, appendA, strA, Nat.reduceMul, Nat.zero_mul, Nat.reduceMod, Int.reduceEq, Int.reduceLT, Int.reduceLE, Nat.reduceLT, Nat.lt_irrefl, Nat.reduceBEq, tys0, tys1, tys2, tys3, tys4, tys5, tys6, tys7, tys8, tys9, tys10, tys11, tys12, tys13, tys14, tys15, tys16, tys17, tys18, tys19, tys20, tys21, tys22, tys23, Try.ntmps98, Try.results98, pa, ha1, List.length_map, Int.toNat_natCast, Int.natCast_nonneg]
  refine AWp.loop_inv (ι := List Int × List Int) (fun p => ⟨[.sl false (g.map posE), .sl false (t.map rowV), .int .i64 a, .int .i64 b, .junk, .junk, .junk, .junk, .bool false, .junk, .junk, .junk, .junk, .junk, .junk, .junk, .junk, .sl false (ints (lefts g a)), .int .i64 (lefts g a).length, .int .i64 p.1.length, .junk, .junk, .junk, .junk, .junk, .junk, .junk, .junk, .junk, .junk, .junk, .junk, .junk, .junk, .junk, .junk, .junk, .junk, .junk, .junk, .junk, .junk, .junk, .junk, .junk, .junk, .junk, .junk, .junk], []⟩)
    (fun p => lefts g a = p.1 ++ p.2 ∧ p.1.all (fun x => !tbl t b x.toNat) = true) (fun p => p.2.length) ([], lefts g a) ⟨rfl, rfl⟩ ⟨by simp only [List.length_nil, Int.natCast_zero]; repeat constructor, rfl⟩ ?_
  rintro ⟨d, r⟩ ⟨h1, h2⟩
  refine W.sound hmix (E := []) ?_
  simp only at h1 h2
  cases r with
  | cons x r =>
    obtain ⟨e1, e2, e5⟩ := int_split h1 hla.1
    have hx := lefts_lt hg (a := a) (x := x) (by rw [h1]; simp)
    obtain ⟨k, rfl⟩ := Int.eq_ofNat_of_zero_le hx.1
    have hk := rb3 k (by omega)
    have hk1 : (k : Int) < (rb.length : Int) := by omega
    cases hv : tbl t b k
    · rw [hv] at hk
      simp only [run0, run1, run2, run3, run4, run5, run6, run7, run8, run9, run10, run11, run12, run13, run14, run15, run16, run17, run18, run19, run20, run21, run22, reduceCtorEq, Nat.reduceEqDiff, Nat.reduceAdd, Nat.reduceSub, Nat.reduceLeDiff, indexAddrA, indexRefA, appendA, strA, Nat.reduceMul, Nat.zero_mul, Nat.reduceMod, Int.reduceEq, Int.reduceLT, Int.reduceLE, Nat.reduceLT, Nat.lt_irrefl, Nat.reduceBEq, tys0, tys1, tys2, tys3, tys4, tys5, tys6, tys7, tys8, tys9, tys10, tys11, tys12, tys13, tys14, tys15, tys16, tys17, tys18, tys19, tys20, tys21, tys22, tys23, Try.ntmps98, Try.results98, List.length_map, e1, e2, e5, hb1, htl, rb4, hk, hk1, Int.toNat_natCast, Int.natCast_nonneg]
      exact ⟨(d ++ [(k : Int)], r), ⟨by simp [h1], by simp [List.all_append, h2, hv]⟩, by simp, by simp only [List.length_append, List.length_cons, List.length_nil]; repeat constructor⟩
    · rw [hv] at hk
      simp only [run0, run1, run2, run3, run4, run5, run6, run7, run8, run9, run10, run11, run12, run13, run14, run15, run16, run17, run18, run19, run20, run21, run22, reduceCtorEq, Nat.reduceEqDiff, Nat.reduceAdd, Nat.reduceSub, Nat.reduceLeDiff, indexAddrA, indexRefA, appendA, strA, Nat.reduceMul, Nat.zero_mul, Nat.reduceMod, Int.reduceEq, Int.reduceLT, Int.reduceLE, Nat.reduceLT, Nat.lt_irrefl, Nat.reduceBEq, tys0, tys1, tys2, tys3, tys4, tys5, tys6, tys7, tys8, tys9, tys10, tys11, tys12, tys13, tys14, tys15, tys16, tys17, tys18, tys19, tys20, tys21, tys22, tys23, Try.ntmps98, Try.results98, List.length_map, e1, e2, hb1, htl, rb4, hk, hk1, Int.toNat_natCast, Int.natCast_nonneg]
      exact Fin.eq (by unfold shownB; rw [h1]; simp [hv]) rfl
  | nil =>
    have e1 := int_end h1
    have hd : d = lefts g a := by rw [h1, List.append_nil]
    subst hd
    simp only [run0, run1, run2, run3, run4, run5, run6, run7, run8, run9, run10, run11, run12, run13, run14, run15, run16, run17, run18, run19, run20, run21, run22, reduceCtorEq, Nat.reduceEqDiff, Nat.reduceAdd, Nat.reduceSub, Nat.reduceLeDiff, indexAddrA, indexRefA, appendA, strA, Nat.reduceMul, Nat.zero_mul, Nat.reduceMod, Int.reduceEq, Int.reduceLT, Int.reduceLE, Nat.reduceLT, Nat.lt_irrefl, Nat.reduceBEq, tys0, tys1, tys2, tys3, tys4, tys5, tys6, tys7, tys8, tys9, tys10, tys11, tys12, tys13, tys14, tys15, tys16, tys17, tys18, tys19, tys20, tys21, tys22, tys23, Try.ntmps98, Try.results98, e1, pb, hb1, List.length_map, Int.toNat_natCast, Int.natCast_nonneg]
    refine AWp.loop_inv (ι := List Int × List Int) (fun p => ⟨[.sl false (g.map posE), .sl false (t.map rowV), .int .i64 a, .int .i64 b, .junk, .junk, .junk, .junk, .bool false, .junk, .junk, .junk, .junk, .junk, .junk, .junk, .junk, .junk, .junk, .junk, .junk, .junk, .junk, .junk, .junk, .junk, .junk, .junk, .junk, .junk, .junk, .junk, .junk, .junk, .junk, .sl false (ints (rights g b)), .int .i64 (rights g b).length, .int .i64 p.1.length, .junk, .junk, .junk, .junk, .junk, .junk, .junk, .junk, .junk, .junk, .junk], []⟩)
      (fun p => rights g b = p.1 ++ p.2 ∧ p.1.all (fun y => !tbl t y.toNat a) = true) (fun p => p.2.length) ([], rights g b) ⟨rfl, rfl⟩ ⟨by simp only [List.length_nil, Int.natCast_zero]; repeat constructor, rfl⟩ ?_
    rintro ⟨d, r⟩ ⟨k1, k2⟩
    refine W.sound hmix (E := []) ?_
    simp only at k1 k2
    cases r with
    | cons x r =>
      obtain ⟨e1, e2, e5⟩ := int_split k1 hlb.2
      have hx := rights_lt hg (a := b) (x := x) (by rw [k1]; simp)
      obtain ⟨k, rfl⟩ := Int.eq_ofNat_of_zero_le hx.1
      have hkl : k < g.length := by omega
      obtain ⟨rk, rk1, rk2, rk3⟩ := tbl_row ht hkl
      have rk4 : (t.map rowV)[k]? = some (.sl false (bools rk)) := by simp [rk1, rowV]
      have hk := rk3 a (by omega)
      have hk1 : (a : Int) < (rk.length : Int) := by omega
      have hk2 : (k : Int) < (g.length : Int) := by omega
      cases hv : tbl t k a
      · rw [hv] at hk
        simp only [run0, run1, run2, run3, run4, run5, run6, run7, run8, run9, run10, run11, run12, run13, run14, run15, run16, run17, run18, run19, run20, run21, run22, reduceCtorEq, Nat.reduceEqDiff, Nat.reduceAdd, Nat.reduceSub, Nat.reduceLeDiff, indexAddrA, indexRefA, appendA, strA, Nat.reduceMul, Nat.zero_mul, Nat.reduceMod, Int.reduceEq, Int.reduceLT, Int.reduceLE, Nat.reduceLT, Nat.lt_irrefl, Nat.reduceBEq, tys0, tys1, tys2, tys3, tys4, tys5, tys6, tys7, tys8, tys9, tys10, tys11, tys12, tys13, tys14, tys15, tys16, tys17, tys18, tys19, tys20, tys21, tys22, tys23, Try.ntmps98, Try.results98, List.length_map, e1, e2, e5, htl, rk4, hk, hk1, hk2, Int.toNat_natCast, Int.natCast_nonneg]
        exact ⟨(d ++ [(k : Int)], r), ⟨by simp [k1], by simp [List.all_append, k2, hv]⟩, by simp, by simp only [List.length_append, List.length_cons, List.length_nil]; repeat constructor⟩
      · rw [hv] at hk
        simp only [run0, run1, run2, run3, run4, run5, run6, run7, run8, run9, run10, run11, run12, run13, run14, run15, run16, run17, run18, run19, run20, run21, run22, reduceCtorEq, Nat.reduceEqDiff, Nat.reduceAdd, Nat.reduceSub, Nat.reduceLeDiff, indexAddrA, indexRefA, appendA, strA, Nat.reduceMul, Nat.zero_mul, Nat.reduceMod, Int.reduceEq, Int.reduceLT, Int.reduceLE, Nat.reduceLT, Nat.lt_irrefl, Nat.reduceBEq, tys0, tys1, tys2, tys3, tys4, tys5, tys6, tys7, tys8, tys9, tys10, tys11, tys12, tys13, tys14, tys15, tys16, tys17, tys18, tys19, tys20, tys21, tys22, tys23, Try.ntmps98, Try.results98, List.length_map, e1, e2, htl, rk4, hk, hk1, hk2, Int.toNat_natCast, Int.natCast_nonneg]
        exact Fin.eq (by unfold shownB; rw [k1]; simp [hv]) rfl
    | nil =>
      have e1 := int_end k1
      have hd : d = rights g b := by rw [k1, List.append_nil]
      subst hd
      simp only [run0, run1, run2, run3, run4, run5, run6, run7, run8, run9, run10, run11, run12, run13, run14, run15, run16, run17, run18, run19, run20, run21, run22, reduceCtorEq, Nat.reduceEqDiff, Nat.reduceAdd, Nat.reduceSub, Nat.reduceLeDiff, indexAddrA, indexRefA, appendA, strA, Nat.reduceMul, Nat.zero_mul, Nat.reduceMod, Int.reduceEq, Int.reduceLT, Int.reduceLE, Nat.reduceLT, Nat.lt_irrefl, Nat.reduceBEq, tys0, tys1, tys2, tys3, tys4, tys5, tys6, tys7, tys8, tys9, tys10, tys11, tys12, tys13, tys14, tys15, tys16, tys17, tys18, tys19, tys20, tys21, tys22, tys23, Try.ntmps98, Try.results98, e1, List.length_map]
      exact Fin.eq (by unfold shownB; rw [h2, k2]; rfl) rfl
theorem gaOrder_ok (n : Nat) (t : List (List Bool)) (ht : sqr n t) (a b : Nat) (ha : a < n) (hb : b < n) :
    Ct Try.prog 65 [.sl false (t.map rowV), .int .i64 a, .int .i64 b] [] (.int .i64 (ordI (tbl t a b) (tbl t b a))) [] := by
  have htl : t.length = n := ht.1
  obtain ⟨ra, ra1, ra2, ra3⟩ := tbl_row ht ha
  obtain ⟨rb, rb1, rb2, rb3⟩ := tbl_row ht hb
  have ra4 : (t.map rowV)[a]? = some (.sl false (bools ra)) := by simp [ra1, rowV]
  have rb4 : (t.map rowV)[b]? = some (.sl false (bools rb)) := by simp [rb1, rowV]
  have k1 := ra3 b hb
  have k2 := rb3 a ha
  have ha1 : (a : Int) < (n : Int) := by omega
  have hb1 : (b : Int) < (n : Int) := by omega
  refine Ct.by_ hmix [] Try.func65 rfl ?_
  generalize tbl t a b = x at *
  generalize tbl t b a = y at *
  cases x <;> cases y <;> simp only [run0, run1, run2, run3, run4, run5, run6, run7, run8, run9, run10, run11, run12, run13, run14, run15, run16, run17, run18, run19, run20, run21, run22, reduceCtorEq, Nat.reduceEqDiff, Nat.reduceAdd, Nat.reduceSub, Nat.reduceLeDiff, indexAddrA, indexRefA, appendA, strA, Nat.reduceMul, Nat.zero_mul, Nat.reduceMod, Int.reduceEq, Int.reduceLT, Int.reduceLE, Nat.reduceLT, Nat.lt_irrefl, Nat.reduceBEq, tys0, tys1, tys2, tys3, tys4, tys5, tys6, tys7, tys8, tys9, tys10, tys11, tys12, tys13, tys14, tys15, tys16, tys17, tys18, tys19, tys20, tys21, tys22, tys23, Try.ntmps65, Try.results65, List.length_map, htl, ra2, rb2, ra4, rb4, k1, k2, ha1, hb1, Int.toNat_natCast, Int.natCast_nonneg] <;> exact Fin.eq rfl rfl

end Go.Proofs.Ytllcljajlemmaaa
/-
  Games: the reference's table of the order of positions.
-/
namespace Go.Proofs.Ytllcljajlemmaaa
open Go K
set_option linter.unusedSimpArgs false
set_option linter.unusedVariables false
set_option maxHeartbeats 3200000
set_option maxRecDepth 8000

def setT (t : List (List Bool)) (i k : Nat) (v : Bool) : List (List Bool) := t.set i ((t.getD i []).set k v)
theorem setT_sqr {n : Nat} {t : List (List Bool)} (h : sqr n t) (i k : Nat) (v : Bool) (hi : i < n) : sqr n (setT t i k v) := by
  obtain ⟨r, h1, h2, _⟩ := tbl_row h hi
  refine ⟨by simp [setT, h.1], fun q hq => ?_⟩
  unfold setT at hq
  rcases List.mem_or_eq_of_mem_set hq with hq | rfl
  · exact h.2 q hq
  · rw [List.length_set, List.getD_eq_getElem?_getD, h1]; exact h2
theorem tbl_setT {n : Nat} {t : List (List Bool)} (h : sqr n t) {i k : Nat} (v : Bool) (hi : i < n) (hk : k < n) (a b : Nat) : tbl (setT t i k v) a b = if a = i ∧ b = k then v else tbl t a b := by
  obtain ⟨r, h1, h2, _⟩ := tbl_row h hi
  have hl : i < t.length := by rw [h.1]; exact hi
  unfold tbl setT
  by_cases ha : a = i
  · subst ha
    rw [List.getD_eq_getElem?_getD (l := t.set a _), List.getElem?_set_self hl, Option.getD_some, List.getD_eq_getElem?_getD (l := t), h1, Option.getD_some]
    by_cases hb : b = k
    · subst hb
      rw [if_pos ⟨rfl, rfl⟩, List.getD_eq_getElem?_getD, List.getElem?_set_self (by omega)]; rfl
    · rw [if_neg (fun e => hb e.2), List.getD_eq_getElem?_getD, List.getElem?_set_ne (fun e => hb e.symm), List.getD_eq_getElem?_getD]
  · rw [if_neg (fun e => ha e.1), List.getD_eq_getElem?_getD (l := t.set i _), List.getElem?_set_ne (fun e => ha e.symm), List.getD_eq_getElem?_getD (l := t)]
/-- What is right of a table so far. -/
def Kn (g : List GP) (t : List (List Bool)) (i k : Nat) : Prop := ∀ a b, a ≤ i → b ≤ i → (a < i ∧ b < i) ∨ (a < k ∧ b = i) ∨ (b < k ∧ a = i) → tbl t a b = leG g a b
theorem shown_le {g : List GP} (hg : GameOk g) {t : List (List Bool)} {a b : Nat} (h1 : ∀ x : Nat, x < a → tbl t b x = leG g b x) (h2 : ∀ y : Nat, y < b → tbl t y a = leG g y a) : shownB g t a b = leG g a b := by
  rw [leG_eq hg]
  unfold shownB
  congr 1
  · refine all_congr_mem fun x hx => ?_
    have := lefts_lt hg hx
    rw [h1 x.toNat (by omega)]
  · refine all_congr_mem fun y hy => ?_
    have := rights_lt hg hy
    rw [h2 y.toNat (by omega)]
theorem Kn.step {g : List GP} (hg : GameOk g) {n : Nat} {t : List (List Bool)} (ht : sqr n t) {i k : Nat} (hi : i < n) (hk : k ≤ i) (h : Kn g t i k) :
    Kn g (setT (setT t i k (shownB g t i k)) k i (shownB g (setT t i k (shownB g t i k)) k i)) i (k + 1) := by
  have v1 : shownB g t i k = leG g i k := shown_le hg (fun x hx => by
    by_cases hki : k = i
    · exact h k x hk (by omega) (.inr (.inr ⟨by omega, hki⟩))
    · exact h k x hk (by omega) (.inl ⟨by omega, hx⟩)) (fun y hy => h y i (by omega) (Nat.le_refl _) (.inr (.inl ⟨hy, rfl⟩)))
  rw [v1]
  have hs := setT_sqr ht i k (leG g i k) hi
  have v2 : shownB g (setT t i k (leG g i k)) k i = leG g k i := shown_le hg (fun x hx => by
    rw [tbl_setT ht _ hi (by omega)]
    split
    · rename_i e; rw [e.2]
    · exact h i x (Nat.le_refl _) (by omega) (.inr (.inr ⟨hx, rfl⟩))) (fun y hy => by
    rw [tbl_setT ht _ hi (by omega)]
    split
    · rename_i e; omega
    · by_cases hki : k = i
      · exact h y k (by omega) hk (.inr (.inl ⟨by omega, hki⟩))
      · exact h y k (by omega) hk (.inl ⟨hy, by omega⟩))
  rw [v2]
  intro a b ha hb hc
  rw [tbl_setT hs _ (by omega) hi, tbl_setT ht _ hi (by omega)]
  split
  · rename_i e; rw [e.1, e.2]
  · split
    · rename_i e; rw [e.1, e.2]
    · rename_i e1 e2
      refine h a b ha hb ?_
      rcases hc with hc | hc | hc
      · exact .inl hc
      · exact .inr (.inl ⟨by have := hc.1; have : a ≠ k := fun q => e1 ⟨q, hc.2⟩; omega, hc.2⟩)
      · exact .inr (.inr ⟨by have := hc.1; have : b ≠ k := fun q => e2 ⟨hc.2, q⟩; omega, hc.2⟩)

/-! ### the walk -/
def refT (n k : Nat) : List AV := (List.range k).map (fun i => .ref (i + 1) [] 0 n) ++ List.replicate (n - k) nilV
def rowO (r : List Bool) : AObj := .vec 4 1 0 (bools r)
def tabL (n k : Nat) (t : List (List Bool)) : List AObj := .vec 118 1 0 (refT n k) :: t.map rowO
theorem refT_noOwn (n k : Nat) : noOwn (refT n k) = true := by
  refine List.all_eq_true.2 fun e he => ?_
  rcases List.mem_append.1 he with he | he
  · obtain ⟨i, _, rfl⟩ := List.mem_map.1 he; rfl
  · rw [(List.mem_replicate.1 he).2]; rfl
theorem bools_noOwn (l : List Bool) : noOwn (bools l) = true := by
  refine List.all_eq_true.2 fun e he => ?_
  obtain ⟨i, _, rfl⟩ := List.mem_map.1 he; rfl
theorem refT_get {n i : Nat} (h : i < n) : (refT n n)[i]? = some (.ref (i + 1) [] 0 n) := by
  unfold refT
  rw [List.getElem?_append_left (by simpa using h), List.getElem?_map, List.getElem?_range h]; rfl
theorem refT_next {n k : Nat} (h : k < n) : (refT n k)[k]? = some nilV ∧ (refT n k).set k (.ref (k + 1) [] 0 n) = refT n (k + 1) := by
  have hr : List.replicate (n - k) nilV = nilV :: List.replicate (n - (k + 1)) nilV := by rw [show n - k = n - (k + 1) + 1 by omega, List.replicate_succ]
  unfold refT
  rw [hr]
  constructor
  · rw [List.getElem?_append_right (by simp)]; simp
  · rw [List.set_append_right _ _ (by simp)]
    simp [List.range_succ]
theorem Vw_row {L : List AObj} {id n : Nat} {r : List Bool} (h : L[id]? = some (rowO r)) (hn : n = r.length) : Vw L (.ref id [] 0 n) (rowV r) := by
  subst hn
  have := Vw.refPur (o := false) h (n := r.length) (by simp) (fun e he c hc => by
    obtain ⟨y, _, rfl⟩ := List.mem_map.1 he
    simp only [AV.cells, List.mem_cons, List.not_mem_nil, or_false] at hc
    subst hc
    exact ⟨.bool _, fun xs h => by cases h⟩)
  rwa [List.take_of_length_le (by simp)] at this
theorem Vw_tab {n : Nat} {t : List (List Bool)} (ht : sqr n t) (X : List AObj) : Vw (tabL n n t ++ X) (.ref 0 [] 0 n) (.sl false (t.map rowV)) := by
  refine Vw.ref (es := refT n n) (es' := refT n n) (T := 118) (sz := 1) rfl rfl (by simp [ht.1]) fun i e y he hy => ?_
  have hi : i < n := by
    have := (List.getElem?_eq_some_iff.1 hy).1
    simp [ht.1] at this; exact this
  rw [refT_get hi] at he
  cases he
  rw [List.getElem?_map] at hy
  obtain ⟨r, h1, h2, _⟩ := tbl_row ht hi
  rw [h1] at hy
  cases hy
  refine ⟨rfl, fun j c d hc hd => ?_⟩
  cases j with
  | succ j => simp [AV.cells] at hc
  | zero =>
    simp [AV.cells, rowV] at hc hd
    subst hc hd
    have : (tabL n n t ++ X)[i + 1]? = some (rowO r) := by
      unfold tabL
      rw [List.cons_append, List.getElem?_cons_succ, List.getElem?_append_left (by rw [List.length_map, ht.1]; exact hi), List.getElem?_map, h1]; rfl
    exact Vw_row this h2.symm
structure TbS where
  i : Nat
  k : Nat
  t : List (List Bool)
theorem setT_tab {n : Nat} {t : List (List Bool)} {r : List Bool} {i k : Nat} {v : Bool} (h1 : t[i]? = some r) : (tabL n n t).set (i + 1) (.vec 4 1 0 ((bools r).set k (.bool v))) = tabL n n (setT t i k v) := by
  unfold tabL setT
  rw [List.set_cons_succ, List.map_set, List.getD_eq_getElem?_getD, h1, Option.getD_some]
  have e : (bools r).set k (.bool v) = bools (r.set k v) := by simp [bools, List.map_set]
  rw [e]
  rfl

/-- The whole table. -/
def tabG (g : List GP) : List (List Bool) := (List.range g.length).map fun a => (List.range g.length).map fun b => leG g a b
theorem tabG_sqr (g : List GP) : sqr g.length (tabG g) := by
  refine ⟨by simp [tabG], fun r hr => ?_⟩
  obtain ⟨a, _, rfl⟩ := List.mem_map.1 hr
  simp
theorem tbl_tabG (g : List GP) {a b : Nat} (ha : a < g.length) (hb : b < g.length) : tbl (tabG g) a b = leG g a b := by
  unfold tbl tabG
  have e : ((List.range g.length).map fun a => (List.range g.length).map fun b => leG g a b).getD a [] = (List.range g.length).map fun b => leG g a b := by
    rw [List.getD_eq_getElem?_getD, List.getElem?_map, List.getElem?_range ha]; rfl
  rw [e, List.getD_eq_getElem?_getD, List.getElem?_map, List.getElem?_range hb]; rfl
theorem tab_eq {g : List GP} {t : List (List Bool)} (ht : sqr g.length t) (h : ∀ a b, a < g.length → b < g.length → tbl t a b = leG g a b) : t = tabG g := by
  have hs := tabG_sqr g
  apply List.ext_getElem?
  intro a
  by_cases ha : a < g.length
  · obtain ⟨r, r1, r2, r3⟩ := tbl_row ht ha
    obtain ⟨q, q1, q2, q3⟩ := tbl_row hs ha
    rw [r1, q1]
    congr 1
    apply List.ext_getElem?
    intro b
    by_cases hb : b < g.length
    · have k1 := r3 b hb
      have k2 := q3 b hb
      rw [h a b ha hb] at k1
      rw [tbl_tabG g ha hb] at k2
      rw [List.getElem?_map] at k1 k2
      cases hr : r[b]? with
      | none => rw [hr] at k1; cases k1
      | some x =>
        cases hq : q[b]? with
        | none => rw [hq] at k2; cases k2
        | some y =>
          rw [hr] at k1
          rw [hq] at k2
          simp at k1 k2
          rw [k1, k2]
    · rw [List.getElem?_eq_none (by omega), List.getElem?_eq_none (by omega)]
  · rw [List.getElem?_eq_none (by have := ht.1; omega), List.getElem?_eq_none (by have := hs.1; omega)]

theorem le_big {n : Nat} (h : n ≤ 1048576) (c : Int) (hc : 1048576 ≤ c) : (n : Int) ≤ c := by omega
theorem gaAtMost_ok (g : List GP) (hg : GameOk g) (hl : g.length ≤ 1048576) : Ct Try.prog 55 [.sl false (g.map posE)] [] (.sl false ((tabG g).map rowV)) [] := by
  have hbig := le_big hl
  have hW : ∀ i, isW (kindE [3000000 + 98]) i = false ∧ rowsAt (kindE [3000000 + 98]) i = false := fun i => ⟨by rw [isW_none i rfl]; rfl, by rw [rowsAt_E]; rfl⟩
  have pg := posL_pure g
  generalize hn : g.length = n at *
  refine Ct.by_ hmix [ 3000000 + 98] Try.func55 rfl ?_
  simp only [run0, run1, run2, run3, run4, run5, run6, run7, run8, run9, run10, run11, run12, run13, run14, run15, run16, run17, run18, run19, run20, run21, run22, reduceCtorEq, Nat.reduceEqDiff, Nat.reduceAdd, Nat.reduceSub, Nat.reduceLeDiff, indexAddrA, indexRefA, appendA, strA, Nat.reduceMul, Nat.zero_mul, Nat.reduceMod, Int.reduceEq, Int.reduceLT, Int.reduceLE, Nat.reduceLT, Nat.lt_irrefl, Nat.reduceBEq, tys0, tys1, tys2, tys3, tys4, tys5, tys6, tys7, tys8, tys9, tys10, tys11, tys12, tys13, tys14, tys15, tys16, tys17, tys18, tys19, tys20, tys21, tys22, tys23, Try.ntmps55, Try.results55, hbig, hn, List.length_map, Int.natCast_nonneg, Int.le_refl, Int.toNat_natCast]
  refine AWp.loop_inv (ι := Nat) (fun k => ⟨[.sl false (g.map posE), .junk, nilV, .ref 0 [] 0 n, .junk, .junk, .junk, .junk, .junk, .junk, .sl false (g.map posE), .int .i64 n, .int .i64 k, .junk, .junk, .junk, .junk, .junk, .junk, .junk, .junk, .junk, .junk, .junk, .junk, .junk, .junk, .junk, .junk, .junk, .junk, .junk, .junk, .junk, .junk, .junk, .junk, .junk, .junk, .junk, .junk, .junk, .junk, .junk, .junk, .junk, .junk, .junk, .junk, .junk, .junk, .junk, .junk, .junk, .junk, .junk], tabL n k (List.replicate k (List.replicate n false))⟩)
    (fun k => k ≤ n) (fun k => n - k) 0 (Nat.zero_le _) ⟨by simp only [Int.natCast_zero]; repeat constructor, by simp [tabL, refT, nilV]⟩ ?_
  intro k hk
  refine W.sound hmix (E := [3000000 + 98]) ?_
  by_cases hkn : k < n
  · have e1 : (k : Int) < (n : Int) := by omega
    have e5 : IntKind.i64.wrap ((k : Int) + 1) = ((k + 1 : Nat) : Int) := by rw [i64_id (by omega) (by omega)]; simp
    obtain ⟨r1, r2⟩ := refT_next hkn
    have r3 := refT_noOwn n k
    have r4 : (refT n k).length = n := by simp [refT]; omega
    unfold tabL
    simp only [run0, run1, run2, run3, run4, run5, run6, run7, run8, run9, run10, run11, run12, run13, run14, run15, run16, run17, run18, run19, run20, run21, run22, reduceCtorEq, Nat.reduceEqDiff, Nat.reduceAdd, Nat.reduceSub, Nat.reduceLeDiff, indexAddrA, indexRefA, appendA, strA, Nat.reduceMul, Nat.zero_mul, Nat.reduceMod, Int.reduceEq, Int.reduceLT, Int.reduceLE, Nat.reduceLT, Nat.lt_irrefl, Nat.reduceBEq, tys0, tys1, tys2, tys3, tys4, tys5, tys6, tys7, tys8, tys9, tys10, tys11, tys12, tys13, tys14, tys15, tys16, tys17, tys18, tys19, tys20, tys21, tys22, tys23, Try.ntmps55, Try.results55, hbig, hn, e1, e5, r1, r2, r3, r4, nilV, List.length_map, Int.natCast_nonneg, Int.le_refl, Int.toNat_natCast]
    refine ⟨k + 1, by omega, by omega, by repeat constructor, ?_⟩
    simp [tabL, rowO, List.replicate_succ']
  · have e1 : ¬ (k : Int) < (n : Int) := by omega
    obtain rfl : k = n := by omega
    have hs0 : sqr k (List.replicate k (List.replicate k false)) := ⟨by simp, fun r hr => by rw [(List.mem_replicate.1 hr).2]; simp⟩
    simp only [run0, run1, run2, run3, run4, run5, run6, run7, run8, run9, run10, run11, run12, run13, run14, run15, run16, run17, run18, run19, run20, run21, run22, reduceCtorEq, Nat.reduceEqDiff, Nat.reduceAdd, Nat.reduceSub, Nat.reduceLeDiff, indexAddrA, indexRefA, appendA, strA, Nat.reduceMul, Nat.zero_mul, Nat.reduceMod, Int.reduceEq, Int.reduceLT, Int.reduceLE, Nat.reduceLT, Nat.lt_irrefl, Nat.reduceBEq, tys0, tys1, tys2, tys3, tys4, tys5, tys6, tys7, tys8, tys9, tys10, tys11, tys12, tys13, tys14, tys15, tys16, tys17, tys18, tys19, tys20, tys21, tys22, tys23, Try.ntmps55, Try.results55, hn, e1, List.length_map]
    refine AWp.loop_inv (ι := Nat × List (List Bool)) (fun p => ⟨[.sl false (g.map posE), .junk, nilV, .ref 0 [] 0 k, .junk, .junk, .junk, .junk, .junk, .junk, .junk, .junk, .junk, .junk, .junk, .junk, .junk, .junk, .junk, .junk, .junk, .junk, .sl false (g.map posE), .int .i64 k, .int .i64 p.1, .junk, .junk, .junk, .junk, .junk, .junk, .junk, .junk, .junk, .junk, .junk, .junk, .junk, .junk, .junk, .junk, .junk, .junk, .junk, .junk, .junk, .junk, .junk, .junk, .junk, .junk, .junk, .junk, .junk, .junk, .junk], tabL k k p.2⟩)
      (fun p => p.1 ≤ k ∧ sqr k p.2 ∧ Kn g p.2 p.1 0) (fun p => k - p.1) (0, List.replicate k (List.replicate k false)) ⟨Nat.zero_le _, hs0, fun a b ha hb hc => by omega⟩ ⟨by simp only [Int.natCast_zero]; repeat constructor, rfl⟩ ?_
    rintro ⟨i, t⟩ ⟨hi, ht, hK⟩
    refine W.sound hmix (E := [3000000 + 98]) ?_
    simp only at hi ht hK
    by_cases hik : i < k
    · have f1 : (i : Int) < (k : Int) := by omega
      have f5 : IntKind.i64.wrap ((i : Int) + 1) = ((i + 1 : Nat) : Int) := by rw [i64_id (by omega) (by omega)]; simp
      simp only [run0, run1, run2, run3, run4, run5, run6, run7, run8, run9, run10, run11, run12, run13, run14, run15, run16, run17, run18, run19, run20, run21, run22, reduceCtorEq, Nat.reduceEqDiff, Nat.reduceAdd, Nat.reduceSub, Nat.reduceLeDiff, indexAddrA, indexRefA, appendA, strA, Nat.reduceMul, Nat.zero_mul, Nat.reduceMod, Int.reduceEq, Int.reduceLT, Int.reduceLE, Nat.reduceLT, Nat.lt_irrefl, Nat.reduceBEq, tys0, tys1, tys2, tys3, tys4, tys5, tys6, tys7, tys8, tys9, tys10, tys11, tys12, tys13, tys14, tys15, tys16, tys17, tys18, tys19, tys20, tys21, tys22, tys23, Try.ntmps55, Try.results55, f1]
      refine AWp.loop_inv (ι := Nat × List (List Bool)) (fun p => ⟨[.sl false (g.map posE), .junk, nilV, .ref 0 [] 0 k, .junk, .int .i64 i, .int .i64 p.1, .junk, .junk, .junk, .junk, .junk, .junk, .junk, .junk, .junk, .junk, .junk, .junk, .junk, .junk, .junk, .sl false (g.map posE), .int .i64 k, .int .i64 i, .junk, .junk, .junk, .junk, .junk, .junk, .junk, .junk, .junk, .junk, .junk, .junk, .junk, .junk, .junk, .junk, .junk, .junk, .junk, .junk, .junk, .junk, .junk, .junk, .junk, .junk, .junk, .junk, .junk, .junk, .junk], tabL k k p.2⟩)
        (fun p => p.1 ≤ i + 1 ∧ sqr k p.2 ∧ Kn g p.2 i p.1) (fun p => i + 1 - p.1) (0, t) ⟨Nat.zero_le _, ht, hK⟩ ⟨by simp only [Int.natCast_zero]; repeat constructor, rfl⟩ ?_
      rintro ⟨m, t⟩ ⟨hm, ht, hK⟩
      refine W.sound hmix (E := [3000000 + 98]) ?_
      simp only at hm ht hK
      by_cases hmi : m ≤ i
      · have k1 : (m : Int) ≤ (i : Int) := by omega
        have k5 : IntKind.i64.wrap ((m : Int) + 1) = ((m + 1 : Nat) : Int) := by rw [i64_id (by omega) (by omega)]; simp
        have hmk : m < k := by omega
        have hmk1 : (m : Int) < (k : Int) := by omega
        have hst := hK.step hg ht hik hmi
        have ht1 := setT_sqr ht i m (shownB g t i m) hik
        have ht2 := setT_sqr ht1 m i (shownB g (setT t i m (shownB g t i m)) m i) hmk
        obtain ⟨ra, ra1, ra2, ra3⟩ := tbl_row ht hik
        obtain ⟨rb, rb1, rb2, rb3⟩ := tbl_row ht1 hmk
        have sa := setT_tab (k := m) (v := shownB g t i m) (n := k) ra1
        have sb := setT_tab (k := i) (v := shownB g (setT t i m (shownB g t i m)) m i) (n := k) rb1
        have g0 : ∀ t, (tabL k k t)[0]? = some (.vec 118 1 0 (refT k k)) := fun t => rfl
        have ga : (tabL k k t)[i + 1]? = some (.vec 4 1 0 (bools ra)) := by
          unfold tabL; rw [List.getElem?_cons_succ, List.getElem?_map, ra1]; rfl
        have gb : (tabL k k (setT t i m (shownB g t i m)))[m + 1]? = some (.vec 4 1 0 (bools rb)) := by
          unfold tabL; rw [List.getElem?_cons_succ, List.getElem?_map, rb1]; rfl
        have na := bools_noOwn ra
        have nb := bools_noOwn rb
        have nr := refT_noOwn k k
        have ri := refT_get hik
        have rm := refT_get hmk
        have rl : (refT k k).length = k := by simp [refT]
        have ea := ra3 m hmk
        have eb := rb3 i hik
        have lk : k ≤ (bools ra).length := by simp [ra2]
        have lk2 : k ≤ (bools rb).length := by simp [rb2]
        subst hn
        simp only [run0, run1, run2, run3, run4, run5, run6, run7, run8, run9, run10, run11, run12, run13, run14, run15, run16, run17, run18, run19, run20, run21, run22, reduceCtorEq, Nat.reduceEqDiff, Nat.reduceAdd, Nat.reduceSub, Nat.reduceLeDiff, indexAddrA, indexRefA, appendA, strA, Nat.reduceMul, Nat.zero_mul, Nat.reduceMod, Int.reduceEq, Int.reduceLT, Int.reduceLE, Nat.reduceLT, Nat.lt_irrefl, Nat.reduceBEq, tys0, tys1, tys2, tys3, tys4, tys5, tys6, tys7, tys8, tys9, tys10, tys11, tys12, tys13, tys14, tys15, tys16, tys17, tys18, tys19, tys20, tys21, tys22, tys23, Try.ntmps55, Try.results55, k1, f1, g0, ga, na, nr, ri, rl, ea, lk, hmk1, ra2, List.length_map, List.mapIdx_cons, List.mapIdx_nil, viewC, Int.natCast_nonneg, Int.toNat_natCast]
        refine ⟨by kernel_rfl, ?_⟩
        refine RunL.lendB rfl rfl ok_f98 rfl hW (gaShown_ok g hg hl t ht i m hik hmk) rfl (fun X => .cons (.pur (.of (show pureB (.sl false (g.map posE)) = true by simp only [pureB, pg]))) (.cons (Vw_tab ht X) (.cons (.pur (.int _ _)) (.cons (.pur (.int _ _)) .nil)))) rfl ?_
        simp only [run0, run1, run2, run3, run4, run5, run6, run7, run8, run9, run10, run11, run12, run13, run14, run15, run16, run17, run18, run19, run20, run21, run22, reduceCtorEq, Nat.reduceEqDiff, Nat.reduceAdd, Nat.reduceSub, Nat.reduceLeDiff, indexAddrA, indexRefA, appendA, strA, Nat.reduceMul, Nat.zero_mul, Nat.reduceMod, Int.reduceEq, Int.reduceLT, Int.reduceLE, Nat.reduceLT, Nat.lt_irrefl, Nat.reduceBEq, tys0, tys1, tys2, tys3, tys4, tys5, tys6, tys7, tys8, tys9, tys10, tys11, tys12, tys13, tys14, tys15, tys16, tys17, tys18, tys19, tys20, tys21, tys22, tys23, Try.ntmps55, Try.results55, k1, f1, g0, ga, na, nr, ri, rl, ea, lk, hmk1, ra2, sa, gb, nb, rm, eb, lk2, rb2, List.length_map, List.mapIdx_cons, List.mapIdx_nil, viewC, Int.natCast_nonneg, Int.toNat_natCast]
        refine ⟨by kernel_rfl, ?_⟩
        refine RunL.lendB rfl rfl ok_f98 rfl hW (gaShown_ok g hg hl _ ht1 m i hmk hik) rfl (fun X => .cons (.pur (.of (show pureB (.sl false (g.map posE)) = true by simp only [pureB, pg]))) (.cons (Vw_tab ht1 X) (.cons (.pur (.int _ _)) (.cons (.pur (.int _ _)) .nil)))) rfl ?_
        simp only [run0, run1, run2, run3, run4, run5, run6, run7, run8, run9, run10, run11, run12, run13, run14, run15, run16, run17, run18, run19, run20, run21, run22, reduceCtorEq, Nat.reduceEqDiff, Nat.reduceAdd, Nat.reduceSub, Nat.reduceLeDiff, indexAddrA, indexRefA, appendA, strA, Nat.reduceMul, Nat.zero_mul, Nat.reduceMod, Int.reduceEq, Int.reduceLT, Int.reduceLE, Nat.reduceLT, Nat.lt_irrefl, Nat.reduceBEq, tys0, tys1, tys2, tys3, tys4, tys5, tys6, tys7, tys8, tys9, tys10, tys11, tys12, tys13, tys14, tys15, tys16, tys17, tys18, tys19, tys20, tys21, tys22, tys23, Try.ntmps55, Try.results55, k1, f1, g0, gb, nb, nr, rm, rl, eb, lk2, rb2, sb, k5, List.length_map, List.mapIdx_cons, List.mapIdx_nil, viewC, Int.natCast_nonneg, Int.toNat_natCast]
        exact ⟨(m + 1, _), ⟨by simp only; omega, ht2, hst⟩, by simp only; omega, by repeat constructor, rfl⟩
      · have k1 : ¬ (m : Int) ≤ (i : Int) := by omega
        obtain rfl : m = i + 1 := by omega
        simp only [run0, run1, run2, run3, run4, run5, run6, run7, run8, run9, run10, run11, run12, run13, run14, run15, run16, run17, run18, run19, run20, run21, run22, reduceCtorEq, Nat.reduceEqDiff, Nat.reduceAdd, Nat.reduceSub, Nat.reduceLeDiff, indexAddrA, indexRefA, appendA, strA, Nat.reduceMul, Nat.zero_mul, Nat.reduceMod, Int.reduceEq, Int.reduceLT, Int.reduceLE, Nat.reduceLT, Nat.lt_irrefl, Nat.reduceBEq, tys0, tys1, tys2, tys3, tys4, tys5, tys6, tys7, tys8, tys9, tys10, tys11, tys12, tys13, tys14, tys15, tys16, tys17, tys18, tys19, tys20, tys21, tys22, tys23, Try.ntmps55, Try.results55, k1, f5]
        exact ⟨(i + 1, t), ⟨by simp only; omega, ht, fun a b ha hb hc => by
          by_cases hai : a ≤ i
          · by_cases hbi : b ≤ i
            · exact hK a b hai hbi (by omega)
            · omega
          · omega⟩, by simp only; omega, by repeat constructor, rfl⟩
    · have f1 : ¬ (i : Int) < (k : Int) := by omega
      obtain rfl : i = k := by omega
      have := tab_eq (g := g) (by rw [hn]; exact ht) (fun a b ha hb => hK a b (by omega) (by omega) (.inl ⟨by omega, by omega⟩))
      subst this
      simp only [run0, run1, run2, run3, run4, run5, run6, run7, run8, run9, run10, run11, run12, run13, run14, run15, run16, run17, run18, run19, run20, run21, run22, reduceCtorEq, Nat.reduceEqDiff, Nat.reduceAdd, Nat.reduceSub, Nat.reduceLeDiff, indexAddrA, indexRefA, appendA, strA, Nat.reduceMul, Nat.zero_mul, Nat.reduceMod, Int.reduceEq, Int.reduceLT, Int.reduceLE, Nat.reduceLT, Nat.lt_irrefl, Nat.reduceBEq, tys0, tys1, tys2, tys3, tys4, tys5, tys6, tys7, tys8, tys9, tys10, tys11, tys12, tys13, tys14, tys15, tys16, tys17, tys18, tys19, tys20, tys21, tys22, tys23, Try.ntmps55, Try.results55, f1]
      have hv := Vw_tab ht []
      rw [List.append_nil] at hv
      exact Fin.value hv

end Go.Proofs.Ytllcljajlemmaaa
/-
  Games: compared, and who wins: the laws.
-/
namespace Go.Proofs.Ytllcljajlemmaaa
open Go K
set_option linter.unusedSimpArgs false
set_option linter.unusedVariables false
set_option maxHeartbeats 1600000
set_option maxRecDepth 8000

theorem tabG_pure (g : List GP) : pureL ((tabG g).map rowV) = true := rows_pure _
theorem orderG_ok (g : List GP) (a b : Nat) (ha : a < g.length) (hb : b < g.length) : Ct Try.prog 65 [.sl false ((tabG g).map rowV), .int .i64 a, .int .i64 b] [] (.int .i64 (cmpG g a b)) [] := by
  have := gaOrder_ok g.length (tabG g) (tabG_sqr g) a b ha hb
  rw [tbl_tabG g ha hb, tbl_tabG g hb ha] at this
  exact this
theorem specCompareG_ok (g : List GP) (a b : Int) (hl : g.length ≤ 1048576) (hs : ∀ p ∈ g, smallP p) : Ct Try.prog 22 [.sl false (g.map posE), .int .i64 a, .int .i64 b] [] (cmpR g a b) [] := by
  have pg := posL_pure g
  have pt := tabG_pure g
  have hw : IntKind.i64.wrap ((g.length : Int) - 1) = (g.length : Int) - 1 := i64_id (by omega) (by omega)
  refine Ct.by_ hmix [] Try.func22 rfl ?_
  simp only [run0, run1, run2, run3, run4, run5, run6, run7, run8, run9, run10, run11, run12, run13, run14, run15, run16, run17, run18, run19, run20, run21, run22, reduceCtorEq, Nat.reduceEqDiff, Nat.reduceAdd, Nat.reduceSub, Nat.reduceLeDiff, indexAddrA, indexRefA, appendA, strA, Nat.reduceMul, Nat.zero_mul, Nat.reduceMod, Int.reduceEq, Int.reduceLT, Int.reduceLE, Nat.reduceLT, Nat.lt_irrefl, Nat.reduceBEq, tys0, tys1, tys2, tys3, tys4, tys5, tys6, tys7, tys8, tys9, tys10, tys11, tys12, tys13, tys14, tys15, tys16, tys17, tys18, tys19, tys20, tys21, tys22, tys23, Try.ntmps22, Try.results22]
  refine RunL.callp rfl rfl ok_f63 (gaHas_ok g a hl hs) (by simp only [pureL, pureB, pg, Bool.and_self]) rfl ?_
  cases h1 : hasB g a
  · simp only [run0, run1, run2, run3, run4, run5, run6, run7, run8, run9, run10, run11, run12, run13, run14, run15, run16, run17, run18, run19, run20, run21, run22, reduceCtorEq, Nat.reduceEqDiff, Nat.reduceAdd, Nat.reduceSub, Nat.reduceLeDiff, indexAddrA, indexRefA, appendA, strA, Nat.reduceMul, Nat.zero_mul, Nat.reduceMod, Int.reduceEq, Int.reduceLT, Int.reduceLE, Nat.reduceLT, Nat.lt_irrefl, Nat.reduceBEq, tys0, tys1, tys2, tys3, tys4, tys5, tys6, tys7, tys8, tys9, tys10, tys11, tys12, tys13, tys14, tys15, tys16, tys17, tys18, tys19, tys20, tys21, tys22, tys23, Try.ntmps22, Try.results22]
    exact Fin.eq (by simp [cmpR, h1]) rfl
  obtain ⟨hgb, a, rfl, ha⟩ := hasB_ok h1
  simp only [run0, run1, run2, run3, run4, run5, run6, run7, run8, run9, run10, run11, run12, run13, run14, run15, run16, run17, run18, run19, run20, run21, run22, reduceCtorEq, Nat.reduceEqDiff, Nat.reduceAdd, Nat.reduceSub, Nat.reduceLeDiff, indexAddrA, indexRefA, appendA, strA, Nat.reduceMul, Nat.zero_mul, Nat.reduceMod, Int.reduceEq, Int.reduceLT, Int.reduceLE, Nat.reduceLT, Nat.lt_irrefl, Nat.reduceBEq, tys0, tys1, tys2, tys3, tys4, tys5, tys6, tys7, tys8, tys9, tys10, tys11, tys12, tys13, tys14, tys15, tys16, tys17, tys18, tys19, tys20, tys21, tys22, tys23, Try.ntmps22, Try.results22, List.length_map, hw]
  refine RunL.callp rfl rfl ok_f64 (l1In_ok b 0 ((g.length : Int) - 1)) (by first | rfl | simp only [pureL, pureB, Bool.and_self, Bool.and_true, Bool.true_and]) rfl ?_
  have h2' : hasB g b = inB b 0 ((g.length : Int) - 1) := by simp [hasB, hgb]
  cases h2 : inB b 0 ((g.length : Int) - 1)
  · simp only [run0, run1, run2, run3, run4, run5, run6, run7, run8, run9, run10, run11, run12, run13, run14, run15, run16, run17, run18, run19, run20, run21, run22, reduceCtorEq, Nat.reduceEqDiff, Nat.reduceAdd, Nat.reduceSub, Nat.reduceLeDiff, indexAddrA, indexRefA, appendA, strA, Nat.reduceMul, Nat.zero_mul, Nat.reduceMod, Int.reduceEq, Int.reduceLT, Int.reduceLE, Nat.reduceLT, Nat.lt_irrefl, Nat.reduceBEq, tys0, tys1, tys2, tys3, tys4, tys5, tys6, tys7, tys8, tys9, tys10, tys11, tys12, tys13, tys14, tys15, tys16, tys17, tys18, tys19, tys20, tys21, tys22, tys23, Try.ntmps22, Try.results22]
    exact Fin.eq (by rw [h2] at h2'; simp [cmpR, h2']) rfl
  rw [h2] at h2'
  obtain ⟨_, b, rfl, hb⟩ := hasB_ok h2'
  have hg := (gameB_ok hgb).1
  simp only [run0, run1, run2, run3, run4, run5, run6, run7, run8, run9, run10, run11, run12, run13, run14, run15, run16, run17, run18, run19, run20, run21, run22, reduceCtorEq, Nat.reduceEqDiff, Nat.reduceAdd, Nat.reduceSub, Nat.reduceLeDiff, indexAddrA, indexRefA, appendA, strA, Nat.reduceMul, Nat.zero_mul, Nat.reduceMod, Int.reduceEq, Int.reduceLT, Int.reduceLE, Nat.reduceLT, Nat.lt_irrefl, Nat.reduceBEq, tys0, tys1, tys2, tys3, tys4, tys5, tys6, tys7, tys8, tys9, tys10, tys11, tys12, tys13, tys14, tys15, tys16, tys17, tys18, tys19, tys20, tys21, tys22, tys23, Try.ntmps22, Try.results22]
  refine RunL.callp rfl rfl ok_f55 (gaAtMost_ok g hg hl) (by simp only [pureL, pureB, pg, Bool.and_self]) rfl ?_
  simp only [run0, run1, run2, run3, run4, run5, run6, run7, run8, run9, run10, run11, run12, run13, run14, run15, run16, run17, run18, run19, run20, run21, run22, reduceCtorEq, Nat.reduceEqDiff, Nat.reduceAdd, Nat.reduceSub, Nat.reduceLeDiff, indexAddrA, indexRefA, appendA, strA, Nat.reduceMul, Nat.zero_mul, Nat.reduceMod, Int.reduceEq, Int.reduceLT, Int.reduceLE, Nat.reduceLT, Nat.lt_irrefl, Nat.reduceBEq, tys0, tys1, tys2, tys3, tys4, tys5, tys6, tys7, tys8, tys9, tys10, tys11, tys12, tys13, tys14, tys15, tys16, tys17, tys18, tys19, tys20, tys21, tys22, tys23, Try.ntmps22, Try.results22]
  refine RunL.callp rfl rfl ok_f65 (orderG_ok g a b ha hb) (by simp only [pureL, pureB, pt, Bool.and_self]) rfl ?_
  simp only [run0, run1, run2, run3, run4, run5, run6, run7, run8, run9, run10, run11, run12, run13, run14, run15, run16, run17, run18, run19, run20, run21, run22, reduceCtorEq, Nat.reduceEqDiff, Nat.reduceAdd, Nat.reduceSub, Nat.reduceLeDiff, indexAddrA, indexRefA, appendA, strA, Nat.reduceMul, Nat.zero_mul, Nat.reduceMod, Int.reduceEq, Int.reduceLT, Int.reduceLE, Nat.reduceLT, Nat.lt_irrefl, Nat.reduceBEq, tys0, tys1, tys2, tys3, tys4, tys5, tys6, tys7, tys8, tys9, tys10, tys11, tys12, tys13, tys14, tys15, tys16, tys17, tys18, tys19, tys20, tys21, tys22, tys23, Try.ntmps22, Try.results22]
  exact Fin.eq (by simp [cmpR, h1, h2']) rfl
theorem int_in {x : AV} (h : IsOf Try.prog 3 x) : ∃ n : Int, x = .int .i64 n := by
  obtain ⟨_, h⟩ := h.one ty_a3
  obtain ⟨n, e, _⟩ := h.int Try.underlying3
  simp at e
  exact ⟨n, e⟩
theorem FnExactCompareGames_ok {a0 a1 a2 : AV} (h0 : IsOf Try.prog 22 a0) (h1 : IsOf Try.prog 3 a1) (h2 : IsOf Try.prog 3 a2) : Ct Try.prog 5 [a0, a1, a2] [] (.bool true) [] := by
  obtain ⟨g, rfl, hl, hf⟩ := laws_isPoS h0
  obtain ⟨x1, rfl⟩ := int_in h1
  obtain ⟨x2, rfl⟩ := int_in h2
  have pg := posL_pure g
  refine Ct.by_ hmix [] Try.func5 rfl ?_
  simp only [run0, run1, run2, run3, run4, run5, run6, run7, run8, run9, run10, run11, run12, run13, run14, run15, run16, run17, run18, run19, run20, run21, run22, reduceCtorEq, Nat.reduceEqDiff, Nat.reduceAdd, Nat.reduceSub, Nat.reduceLeDiff, indexAddrA, indexRefA, appendA, strA, Nat.reduceMul, Nat.zero_mul, Nat.reduceMod, Int.reduceEq, Int.reduceLT, Int.reduceLE, Nat.reduceLT, Nat.lt_irrefl, Nat.reduceBEq, tys0, tys1, tys2, tys3, tys4, tys5, tys6, tys7, tys8, tys9, tys10, tys11, tys12, tys13, tys14, tys15, tys16, tys17, tys18, tys19, tys20, tys21, tys22, tys23, Try.ntmps5, Try.results5]
  refine RunL.callp rfl rfl ok_f13 (szPositionS_ok g 1048576 hl hf (by omega) (by omega)) (by simp only [pureL, pureB, pg, Bool.and_self]) rfl ?_
  rcases szN_spec (g.length + gsz g) 1048576 with ⟨g1, g2⟩ | ⟨g1, g2⟩
  case inr =>
    have e1 : szN (g.length + gsz g) 1048576 < 0 := by omega
    simp only [run0, run1, run2, run3, run4, run5, run6, run7, run8, run9, run10, run11, run12, run13, run14, run15, run16, run17, run18, run19, run20, run21, run22, reduceCtorEq, Nat.reduceEqDiff, Nat.reduceAdd, Nat.reduceSub, Nat.reduceLeDiff, indexAddrA, indexRefA, appendA, strA, Nat.reduceMul, Nat.zero_mul, Nat.reduceMod, Int.reduceEq, Int.reduceLT, Int.reduceLE, Nat.reduceLT, Nat.lt_irrefl, Nat.reduceBEq, tys0, tys1, tys2, tys3, tys4, tys5, tys6, tys7, tys8, tys9, tys10, tys11, tys12, tys13, tys14, tys15, tys16, tys17, tys18, tys19, tys20, tys21, tys22, tys23, Try.ntmps5, Try.results5, e1]
    exact Fin.eq rfl rfl
  have e1 : ¬ szN (g.length + gsz g) 1048576 < 0 := by omega
  have gl : g.length ≤ 1048576 := by omega
  have gs : ∀ p ∈ g, smallP p := fun p hp => by have := gsz_mem hp; unfold psz at this; exact ⟨by omega, by omega⟩
  simp only [run0, run1, run2, run3, run4, run5, run6, run7, run8, run9, run10, run11, run12, run13, run14, run15, run16, run17, run18, run19, run20, run21, run22, reduceCtorEq, Nat.reduceEqDiff, Nat.reduceAdd, Nat.reduceSub, Nat.reduceLeDiff, indexAddrA, indexRefA, appendA, strA, Nat.reduceMul, Nat.zero_mul, Nat.reduceMod, Int.reduceEq, Int.reduceLT, Int.reduceLE, Nat.reduceLT, Nat.lt_irrefl, Nat.reduceBEq, tys0, tys1, tys2, tys3, tys4, tys5, tys6, tys7, tys8, tys9, tys10, tys11, tys12, tys13, tys14, tys15, tys16, tys17, tys18, tys19, tys20, tys21, tys22, tys23, Try.ntmps5, Try.results5, e1]
  refine RunL.callp rfl rfl ok_f15 (toPositionS_ok g gl gs) (by simp only [pureL, pureB, pg, Bool.and_self]) rfl ?_
  simp only [run0, run1, run2, run3, run4, run5, run6, run7, run8, run9, run10, run11, run12, run13, run14, run15, run16, run17, run18, run19, run20, run21, run22, reduceCtorEq, Nat.reduceEqDiff, Nat.reduceAdd, Nat.reduceSub, Nat.reduceLeDiff, indexAddrA, indexRefA, appendA, strA, Nat.reduceMul, Nat.zero_mul, Nat.reduceMod, Int.reduceEq, Int.reduceLT, Int.reduceLE, Nat.reduceLT, Nat.lt_irrefl, Nat.reduceBEq, tys0, tys1, tys2, tys3, tys4, tys5, tys6, tys7, tys8, tys9, tys10, tys11, tys12, tys13, tys14, tys15, tys16, tys17, tys18, tys19, tys20, tys21, tys22, tys23, Try.ntmps5, Try.results5]
  refine RunL.callp rfl rfl ok_f22 (specCompareG_ok g x1 x2 gl gs) (by simp only [pureL, pureB, pg, Bool.and_self]) rfl ?_
  simp only [run0, run1, run2, run3, run4, run5, run6, run7, run8, run9, run10, run11, run12, run13, run14, run15, run16, run17, run18, run19, run20, run21, run22, reduceCtorEq, Nat.reduceEqDiff, Nat.reduceAdd, Nat.reduceSub, Nat.reduceLeDiff, indexAddrA, indexRefA, appendA, strA, Nat.reduceMul, Nat.zero_mul, Nat.reduceMod, Int.reduceEq, Int.reduceLT, Int.reduceLE, Nat.reduceLT, Nat.lt_irrefl, Nat.reduceBEq, tys0, tys1, tys2, tys3, tys4, tys5, tys6, tys7, tys8, tys9, tys10, tys11, tys12, tys13, tys14, tys15, tys16, tys17, tys18, tys19, tys20, tys21, tys22, tys23, Try.ntmps5, Try.results5, cmpR]
  refine RunL.callp rfl rfl ok_f15 (toPositionS_ok g gl gs) (by simp only [pureL, pureB, pg, Bool.and_self]) rfl ?_
  simp only [run0, run1, run2, run3, run4, run5, run6, run7, run8, run9, run10, run11, run12, run13, run14, run15, run16, run17, run18, run19, run20, run21, run22, reduceCtorEq, Nat.reduceEqDiff, Nat.reduceAdd, Nat.reduceSub, Nat.reduceLeDiff, indexAddrA, indexRefA, appendA, strA, Nat.reduceMul, Nat.zero_mul, Nat.reduceMod, Int.reduceEq, Int.reduceLT, Int.reduceLE, Nat.reduceLT, Nat.lt_irrefl, Nat.reduceBEq, tys0, tys1, tys2, tys3, tys4, tys5, tys6, tys7, tys8, tys9, tys10, tys11, tys12, tys13, tys14, tys15, tys16, tys17, tys18, tys19, tys20, tys21, tys22, tys23, Try.ntmps5, Try.results5]
  refine RunL.callp rfl rfl ok_f23 (implCompareG_ok g x1 x2 gl gs) (by simp only [pureL, pureB, pg, Bool.and_self]) rfl ?_
  simp only [run0, run1, run2, run3, run4, run5, run6, run7, run8, run9, run10, run11, run12, run13, run14, run15, run16, run17, run18, run19, run20, run21, run22, reduceCtorEq, Nat.reduceEqDiff, Nat.reduceAdd, Nat.reduceSub, Nat.reduceLeDiff, indexAddrA, indexRefA, appendA, strA, Nat.reduceMul, Nat.zero_mul, Nat.reduceMod, Int.reduceEq, Int.reduceLT, Int.reduceLE, Nat.reduceLT, Nat.lt_irrefl, Nat.reduceBEq, tys0, tys1, tys2, tys3, tys4, tys5, tys6, tys7, tys8, tys9, tys10, tys11, tys12, tys13, tys14, tys15, tys16, tys17, tys18, tys19, tys20, tys21, tys22, tys23, Try.ntmps5, Try.results5, cmpR, bne_self_eq_false]
  refine RunL.callp rfl rfl ok_f15 (toPositionS_ok g gl gs) (by simp only [pureL, pureB, pg, Bool.and_self]) rfl ?_
  simp only [run0, run1, run2, run3, run4, run5, run6, run7, run8, run9, run10, run11, run12, run13, run14, run15, run16, run17, run18, run19, run20, run21, run22, reduceCtorEq, Nat.reduceEqDiff, Nat.reduceAdd, Nat.reduceSub, Nat.reduceLeDiff, indexAddrA, indexRefA, appendA, strA, Nat.reduceMul, Nat.zero_mul, Nat.reduceMod, Int.reduceEq, Int.reduceLT, Int.reduceLE, Nat.reduceLT, Nat.lt_irrefl, Nat.reduceBEq, tys0, tys1, tys2, tys3, tys4, tys5, tys6, tys7, tys8, tys9, tys10, tys11, tys12, tys13, tys14, tys15, tys16, tys17, tys18, tys19, tys20, tys21, tys22, tys23, Try.ntmps5, Try.results5]
  refine RunL.callp rfl rfl ok_f17 (eqPositionS_ok g gl gs) (by simp only [pureL, pureB, pg, Bool.and_self]) rfl ?_
  simp only [run0, run1, run2, run3, run4, run5, run6, run7, run8, run9, run10, run11, run12, run13, run14, run15, run16, run17, run18, run19, run20, run21, run22, reduceCtorEq, Nat.reduceEqDiff, Nat.reduceAdd, Nat.reduceSub, Nat.reduceLeDiff, indexAddrA, indexRefA, appendA, strA, Nat.reduceMul, Nat.zero_mul, Nat.reduceMod, Int.reduceEq, Int.reduceLT, Int.reduceLE, Nat.reduceLT, Nat.lt_irrefl, Nat.reduceBEq, tys0, tys1, tys2, tys3, tys4, tys5, tys6, tys7, tys8, tys9, tys10, tys11, tys12, tys13, tys14, tys15, tys16, tys17, tys18, tys19, tys20, tys21, tys22, tys23, Try.ntmps5, Try.results5]
  exact Fin.eq rfl rfl


/-! ### who wins -/
def outS (c : Int) : ByteArray := if c = 1 then ⟨#[108, 101, 102, 116]⟩ else if c = -1 then ⟨#[114, 105, 103, 104, 116]⟩ else if c = 0 then ⟨#[115, 101, 99, 111, 110, 100]⟩ else ⟨#[102, 105, 114, 115, 116]⟩
theorem nb : ((-1 : Int) == 1) = false ∧ ((0 : Int) == 1) = false ∧ ((2 : Int) == 1) = false ∧ ((0 : Int) == -1) = false ∧ ((2 : Int) == -1) = false ∧ ((2 : Int) == 0) = false ∧ ((1 : Int) == 1) = true ∧ ((-1 : Int) == -1) = true ∧ ((0 : Int) == 0) = true ∧ ((1 : Int) == 0) = false ∧ ((-1 : Int) == 0) = false ∧ ((1 : Int) == -1) = false := by decide
def outR (g : List GP) (a : Int) : AV := .tup [.str (if hasB g a then outS (cmpG g a.toNat 0) else ⟨#[]⟩), .bool (hasB g a)]
theorem hasB_zero {g : List GP} {a : Int} (h : hasB g a = true) : hasB g 0 = true := by
  simp only [hasB, Bool.and_eq_true, inB, decide_eq_true_eq] at h ⊢
  exact ⟨h.1, by omega, by omega⟩
theorem cmpG_val (g : List GP) (a b : Nat) : cmpG g a b = 1 ∨ cmpG g a b = -1 ∨ cmpG g a b = 0 ∨ cmpG g a b = 2 := by
  unfold cmpG ordI
  cases leG g a b <;> cases leG g b a <;> simp
theorem implOut_ok (g : List GP) (a : Int) (hl : g.length ≤ 1048576) (hs : ∀ p ∈ g, smallP p) : Ct Try.prog 25 [.sl false (g.map posE), .int .i64 a] [] (outR g a) [] := by
  have pg := posL_pure g
  refine Ct.by_ hmix [] Try.func25 rfl ?_
  simp only [run0, run1, run2, run3, run4, run5, run6, run7, run8, run9, run10, run11, run12, run13, run14, run15, run16, run17, run18, run19, run20, run21, run22, reduceCtorEq, Nat.reduceEqDiff, Nat.reduceAdd, Nat.reduceSub, Nat.reduceLeDiff, indexAddrA, indexRefA, appendA, strA, Nat.reduceMul, Nat.zero_mul, Nat.reduceMod, Int.reduceEq, Int.reduceLT, Int.reduceLE, Nat.reduceLT, Nat.lt_irrefl, Nat.reduceBEq, tys0, tys1, tys2, tys3, tys4, tys5, tys6, tys7, tys8, tys9, tys10, tys11, tys12, tys13, tys14, tys15, tys16, tys17, tys18, tys19, tys20, tys21, tys22, tys23, Try.ntmps25, Try.results25]
  refine RunL.callp rfl rfl ok_f23 (implCompareG_ok g a 0 hl hs) (by simp only [pureL, pureB, pg, Bool.and_self]) rfl ?_
  cases h1 : hasB g a
  · simp only [run0, run1, run2, run3, run4, run5, run6, run7, run8, run9, run10, run11, run12, run13, run14, run15, run16, run17, run18, run19, run20, run21, run22, reduceCtorEq, Nat.reduceEqDiff, Nat.reduceAdd, Nat.reduceSub, Nat.reduceLeDiff, indexAddrA, indexRefA, appendA, strA, Nat.reduceMul, Nat.zero_mul, Nat.reduceMod, Int.reduceEq, Int.reduceLT, Int.reduceLE, Nat.reduceLT, Nat.lt_irrefl, Nat.reduceBEq, tys0, tys1, tys2, tys3, tys4, tys5, tys6, tys7, tys8, tys9, tys10, tys11, tys12, tys13, tys14, tys15, tys16, tys17, tys18, tys19, tys20, tys21, tys22, tys23, Try.ntmps25, Try.results25, cmpR, h1]
    exact Fin.eq (by simp [outR, h1]) rfl
  have h0 := hasB_zero h1
  unfold outR
  rw [h1, if_pos rfl]
  rcases cmpG_val g a.toNat 0 with h | h | h | h <;> simp only [run0, run1, run2, run3, run4, run5, run6, run7, run8, run9, run10, run11, run12, run13, run14, run15, run16, run17, run18, run19, run20, run21, run22, reduceCtorEq, Nat.reduceEqDiff, Nat.reduceAdd, Nat.reduceSub, Nat.reduceLeDiff, indexAddrA, indexRefA, appendA, strA, Nat.reduceMul, Nat.zero_mul, Nat.reduceMod, Int.reduceEq, Int.reduceLT, Int.reduceLE, Nat.reduceLT, Nat.lt_irrefl, Nat.reduceBEq, tys0, tys1, tys2, tys3, tys4, tys5, tys6, tys7, tys8, tys9, tys10, tys11, tys12, tys13, tys14, tys15, tys16, tys17, tys18, tys19, tys20, tys21, tys22, tys23, Try.ntmps25, Try.results25, cmpR, h1, h0, Int.toNat_zero, h, nb] <;> exact Fin.eq rfl rfl
theorem specOut_ok (g : List GP) (a : Int) (hl : g.length ≤ 1048576) (hs : ∀ p ∈ g, smallP p) : Ct Try.prog 24 [.sl false (g.map posE), .int .i64 a] [] (outR g a) [] := by
  have pg := posL_pure g
  have pt := tabG_pure g
  refine Ct.by_ hmix [] Try.func24 rfl ?_
  simp only [run0, run1, run2, run3, run4, run5, run6, run7, run8, run9, run10, run11, run12, run13, run14, run15, run16, run17, run18, run19, run20, run21, run22, reduceCtorEq, Nat.reduceEqDiff, Nat.reduceAdd, Nat.reduceSub, Nat.reduceLeDiff, indexAddrA, indexRefA, appendA, strA, Nat.reduceMul, Nat.zero_mul, Nat.reduceMod, Int.reduceEq, Int.reduceLT, Int.reduceLE, Nat.reduceLT, Nat.lt_irrefl, Nat.reduceBEq, tys0, tys1, tys2, tys3, tys4, tys5, tys6, tys7, tys8, tys9, tys10, tys11, tys12, tys13, tys14, tys15, tys16, tys17, tys18, tys19, tys20, tys21, tys22, tys23, Try.ntmps24, Try.results24]
  refine RunL.callp rfl rfl ok_f63 (gaHas_ok g a hl hs) (by simp only [pureL, pureB, pg, Bool.and_self]) rfl ?_
  cases h1 : hasB g a
  · simp only [run0, run1, run2, run3, run4, run5, run6, run7, run8, run9, run10, run11, run12, run13, run14, run15, run16, run17, run18, run19, run20, run21, run22, reduceCtorEq, Nat.reduceEqDiff, Nat.reduceAdd, Nat.reduceSub, Nat.reduceLeDiff, indexAddrA, indexRefA, appendA, strA, Nat.reduceMul, Nat.zero_mul, Nat.reduceMod, Int.reduceEq, Int.reduceLT, Int.reduceLE, Nat.reduceLT, Nat.lt_irrefl, Nat.reduceBEq, tys0, tys1, tys2, tys3, tys4, tys5, tys6, tys7, tys8, tys9, tys10, tys11, tys12, tys13, tys14, tys15, tys16, tys17, tys18, tys19, tys20, tys21, tys22, tys23, Try.ntmps24, Try.results24]
    exact Fin.eq (by simp [outR, h1]) rfl
  unfold outR
  rw [h1, if_pos rfl]
  obtain ⟨hgb, a, rfl, ha⟩ := hasB_ok h1
  have hg := (gameB_ok hgb).1
  have ho := orderG_ok g a 0 ha (by omega)
  rw [Int.natCast_zero] at ho
  simp only [run0, run1, run2, run3, run4, run5, run6, run7, run8, run9, run10, run11, run12, run13, run14, run15, run16, run17, run18, run19, run20, run21, run22, reduceCtorEq, Nat.reduceEqDiff, Nat.reduceAdd, Nat.reduceSub, Nat.reduceLeDiff, indexAddrA, indexRefA, appendA, strA, Nat.reduceMul, Nat.zero_mul, Nat.reduceMod, Int.reduceEq, Int.reduceLT, Int.reduceLE, Nat.reduceLT, Nat.lt_irrefl, Nat.reduceBEq, tys0, tys1, tys2, tys3, tys4, tys5, tys6, tys7, tys8, tys9, tys10, tys11, tys12, tys13, tys14, tys15, tys16, tys17, tys18, tys19, tys20, tys21, tys22, tys23, Try.ntmps24, Try.results24]
  refine RunL.callp rfl rfl ok_f55 (gaAtMost_ok g hg hl) (by simp only [pureL, pureB, pg, Bool.and_self]) rfl ?_
  simp only [run0, run1, run2, run3, run4, run5, run6, run7, run8, run9, run10, run11, run12, run13, run14, run15, run16, run17, run18, run19, run20, run21, run22, reduceCtorEq, Nat.reduceEqDiff, Nat.reduceAdd, Nat.reduceSub, Nat.reduceLeDiff, indexAddrA, indexRefA, appendA, strA, Nat.reduceMul, Nat.zero_mul, Nat.reduceMod, Int.reduceEq, Int.reduceLT, Int.reduceLE, Nat.reduceLT, Nat.lt_irrefl, Nat.reduceBEq, tys0, tys1, tys2, tys3, tys4, tys5, tys6, tys7, tys8, tys9, tys10, tys11, tys12, tys13, tys14, tys15, tys16, tys17, tys18, tys19, tys20, tys21, tys22, tys23, Try.ntmps24, Try.results24]
  refine RunL.callp rfl rfl ok_f65 ho (by simp only [pureL, pureB, pt, Bool.and_self]) rfl ?_
  rcases cmpG_val g a 0 with h | h | h | h <;> simp only [run0, run1, run2, run3, run4, run5, run6, run7, run8, run9, run10, run11, run12, run13, run14, run15, run16, run17, run18, run19, run20, run21, run22, reduceCtorEq, Nat.reduceEqDiff, Nat.reduceAdd, Nat.reduceSub, Nat.reduceLeDiff, indexAddrA, indexRefA, appendA, strA, Nat.reduceMul, Nat.zero_mul, Nat.reduceMod, Int.reduceEq, Int.reduceLT, Int.reduceLE, Nat.reduceLT, Nat.lt_irrefl, Nat.reduceBEq, tys0, tys1, tys2, tys3, tys4, tys5, tys6, tys7, tys8, tys9, tys10, tys11, tys12, tys13, tys14, tys15, tys16, tys17, tys18, tys19, tys20, tys21, tys22, tys23, Try.ntmps24, Try.results24, h, nb] <;> exact Fin.eq (by rw [Int.toNat_natCast, h]; rfl) rfl
theorem FnExactOutcomeOf_ok {a0 a1 : AV} (h0 : IsOf Try.prog 22 a0) (h1 : IsOf Try.prog 3 a1) : Ct Try.prog 6 [a0, a1] [] (.bool true) [] := by
  obtain ⟨g, rfl, hl, hf⟩ := laws_isPoS h0
  obtain ⟨x1, rfl⟩ := int_in h1
  have pg := posL_pure g
  refine Ct.by_ hmix [] Try.func6 rfl ?_
  simp only [run0, run1, run2, run3, run4, run5, run6, run7, run8, run9, run10, run11, run12, run13, run14, run15, run16, run17, run18, run19, run20, run21, run22, reduceCtorEq, Nat.reduceEqDiff, Nat.reduceAdd, Nat.reduceSub, Nat.reduceLeDiff, indexAddrA, indexRefA, appendA, strA, Nat.reduceMul, Nat.zero_mul, Nat.reduceMod, Int.reduceEq, Int.reduceLT, Int.reduceLE, Nat.reduceLT, Nat.lt_irrefl, Nat.reduceBEq, tys0, tys1, tys2, tys3, tys4, tys5, tys6, tys7, tys8, tys9, tys10, tys11, tys12, tys13, tys14, tys15, tys16, tys17, tys18, tys19, tys20, tys21, tys22, tys23, Try.ntmps6, Try.results6]
  refine RunL.callp rfl rfl ok_f13 (szPositionS_ok g 1048576 hl hf (by omega) (by omega)) (by simp only [pureL, pureB, pg, Bool.and_self]) rfl ?_
  rcases szN_spec (g.length + gsz g) 1048576 with ⟨g1, g2⟩ | ⟨g1, g2⟩
  case inr =>
    have e1 : szN (g.length + gsz g) 1048576 < 0 := by omega
    simp only [run0, run1, run2, run3, run4, run5, run6, run7, run8, run9, run10, run11, run12, run13, run14, run15, run16, run17, run18, run19, run20, run21, run22, reduceCtorEq, Nat.reduceEqDiff, Nat.reduceAdd, Nat.reduceSub, Nat.reduceLeDiff, indexAddrA, indexRefA, appendA, strA, Nat.reduceMul, Nat.zero_mul, Nat.reduceMod, Int.reduceEq, Int.reduceLT, Int.reduceLE, Nat.reduceLT, Nat.lt_irrefl, Nat.reduceBEq, tys0, tys1, tys2, tys3, tys4, tys5, tys6, tys7, tys8, tys9, tys10, tys11, tys12, tys13, tys14, tys15, tys16, tys17, tys18, tys19, tys20, tys21, tys22, tys23, Try.ntmps6, Try.results6, e1]
    exact Fin.eq rfl rfl
  have e1 : ¬ szN (g.length + gsz g) 1048576 < 0 := by omega
  have gl : g.length ≤ 1048576 := by omega
  have gs : ∀ p ∈ g, smallP p := fun p hp => by have := gsz_mem hp; unfold psz at this; exact ⟨by omega, by omega⟩
  simp only [run0, run1, run2, run3, run4, run5, run6, run7, run8, run9, run10, run11, run12, run13, run14, run15, run16, run17, run18, run19, run20, run21, run22, reduceCtorEq, Nat.reduceEqDiff, Nat.reduceAdd, Nat.reduceSub, Nat.reduceLeDiff, indexAddrA, indexRefA, appendA, strA, Nat.reduceMul, Nat.zero_mul, Nat.reduceMod, Int.reduceEq, Int.reduceLT, Int.reduceLE, Nat.reduceLT, Nat.lt_irrefl, Nat.reduceBEq, tys0, tys1, tys2, tys3, tys4, tys5, tys6, tys7, tys8, tys9, tys10, tys11, tys12, tys13, tys14, tys15, tys16, tys17, tys18, tys19, tys20, tys21, tys22, tys23, Try.ntmps6, Try.results6, e1]
  refine RunL.callp rfl rfl ok_f15 (toPositionS_ok g gl gs) (by simp only [pureL, pureB, pg, Bool.and_self]) rfl ?_
  simp only [run0, run1, run2, run3, run4, run5, run6, run7, run8, run9, run10, run11, run12, run13, run14, run15, run16, run17, run18, run19, run20, run21, run22, reduceCtorEq, Nat.reduceEqDiff, Nat.reduceAdd, Nat.reduceSub, Nat.reduceLeDiff, indexAddrA, indexRefA, appendA, strA, Nat.reduceMul, Nat.zero_mul, Nat.reduceMod, Int.reduceEq, Int.reduceLT, Int.reduceLE, Nat.reduceLT, Nat.lt_irrefl, Nat.reduceBEq, tys0, tys1, tys2, tys3, tys4, tys5, tys6, tys7, tys8, tys9, tys10, tys11, tys12, tys13, tys14, tys15, tys16, tys17, tys18, tys19, tys20, tys21, tys22, tys23, Try.ntmps6, Try.results6]
  refine RunL.callp rfl rfl ok_f24 (specOut_ok g x1 gl gs) (by simp only [pureL, pureB, pg, Bool.and_self]) rfl ?_
  simp only [run0, run1, run2, run3, run4, run5, run6, run7, run8, run9, run10, run11, run12, run13, run14, run15, run16, run17, run18, run19, run20, run21, run22, reduceCtorEq, Nat.reduceEqDiff, Nat.reduceAdd, Nat.reduceSub, Nat.reduceLeDiff, indexAddrA, indexRefA, appendA, strA, Nat.reduceMul, Nat.zero_mul, Nat.reduceMod, Int.reduceEq, Int.reduceLT, Int.reduceLE, Nat.reduceLT, Nat.lt_irrefl, Nat.reduceBEq, tys0, tys1, tys2, tys3, tys4, tys5, tys6, tys7, tys8, tys9, tys10, tys11, tys12, tys13, tys14, tys15, tys16, tys17, tys18, tys19, tys20, tys21, tys22, tys23, Try.ntmps6, Try.results6, outR]
  refine RunL.callp rfl rfl ok_f15 (toPositionS_ok g gl gs) (by simp only [pureL, pureB, pg, Bool.and_self]) rfl ?_
  simp only [run0, run1, run2, run3, run4, run5, run6, run7, run8, run9, run10, run11, run12, run13, run14, run15, run16, run17, run18, run19, run20, run21, run22, reduceCtorEq, Nat.reduceEqDiff, Nat.reduceAdd, Nat.reduceSub, Nat.reduceLeDiff, indexAddrA, indexRefA, appendA, strA, Nat.reduceMul, Nat.zero_mul, Nat.reduceMod, Int.reduceEq, Int.reduceLT, Int.reduceLE, Nat.reduceLT, Nat.lt_irrefl, Nat.reduceBEq, tys0, tys1, tys2, tys3, tys4, tys5, tys6, tys7, tys8, tys9, tys10, tys11, tys12, tys13, tys14, tys15, tys16, tys17, tys18, tys19, tys20, tys21, tys22, tys23, Try.ntmps6, Try.results6]
  refine RunL.callp rfl rfl ok_f25 (implOut_ok g x1 gl gs) (by simp only [pureL, pureB, pg, Bool.and_self]) rfl ?_
  simp only [run0, run1, run2, run3, run4, run5, run6, run7, run8, run9, run10, run11, run12, run13, run14, run15, run16, run17, run18, run19, run20, run21, run22, reduceCtorEq, Nat.reduceEqDiff, Nat.reduceAdd, Nat.reduceSub, Nat.reduceLeDiff, indexAddrA, indexRefA, appendA, strA, Nat.reduceMul, Nat.zero_mul, Nat.reduceMod, Int.reduceEq, Int.reduceLT, Int.reduceLE, Nat.reduceLT, Nat.lt_irrefl, Nat.reduceBEq, tys0, tys1, tys2, tys3, tys4, tys5, tys6, tys7, tys8, tys9, tys10, tys11, tys12, tys13, tys14, tys15, tys16, tys17, tys18, tys19, tys20, tys21, tys22, tys23, Try.ntmps6, Try.results6, outR, bne_self_eq_false]
  refine RunL.callp rfl rfl ok_f15 (toPositionS_ok g gl gs) (by simp only [pureL, pureB, pg, Bool.and_self]) rfl ?_
  simp only [run0, run1, run2, run3, run4, run5, run6, run7, run8, run9, run10, run11, run12, run13, run14, run15, run16, run17, run18, run19, run20, run21, run22, reduceCtorEq, Nat.reduceEqDiff, Nat.reduceAdd, Nat.reduceSub, Nat.reduceLeDiff, indexAddrA, indexRefA, appendA, strA, Nat.reduceMul, Nat.zero_mul, Nat.reduceMod, Int.reduceEq, Int.reduceLT, Int.reduceLE, Nat.reduceLT, Nat.lt_irrefl, Nat.reduceBEq, tys0, tys1, tys2, tys3, tys4, tys5, tys6, tys7, tys8, tys9, tys10, tys11, tys12, tys13, tys14, tys15, tys16, tys17, tys18, tys19, tys20, tys21, tys22, tys23, Try.ntmps6, Try.results6]
  refine RunL.callp rfl rfl ok_f17 (eqPositionS_ok g gl gs) (by simp only [pureL, pureB, pg, Bool.and_self]) rfl ?_
  simp only [run0, run1, run2, run3, run4, run5, run6, run7, run8, run9, run10, run11, run12, run13, run14, run15, run16, run17, run18, run19, run20, run21, run22, reduceCtorEq, Nat.reduceEqDiff, Nat.reduceAdd, Nat.reduceSub, Nat.reduceLeDiff, indexAddrA, indexRefA, appendA, strA, Nat.reduceMul, Nat.zero_mul, Nat.reduceMod, Int.reduceEq, Int.reduceLT, Int.reduceLE, Nat.reduceLT, Nat.lt_irrefl, Nat.reduceBEq, tys0, tys1, tys2, tys3, tys4, tys5, tys6, tys7, tys8, tys9, tys10, tys11, tys12, tys13, tys14, tys15, tys16, tys17, tys18, tys19, tys20, tys21, tys22, tys23, Try.ntmps6, Try.results6]
  exact Fin.eq rfl rfl


end Go.Proofs.Ytllcljajlemmaaa
/-
  An address of an array's element: the array lies in a variable of the call's own.
-/
namespace Go.Proofs.Ytllcljajlemmaaa.K
open Go Go.RowKit
set_option maxRecDepth 8000

theorem run_indexArr {P : Program} {t e : TypeId} {len : Nat} (w : World) (ht : P.underlying t = some (.array len e)) (hi : (P.info? e).isSome = true) (k : IntKind) (i : Int) (b off : Nat)
    (h0 : 0 ≤ i) (h1 : i < (len : Int)) :
    (Instr.indexAt t (.pointer (some ⟨b, off, none⟩)) (.int k i)).run P w = .ok (.pointer (some ⟨b, off + i.toNat * P.cellsOf e, none⟩)) w := by
  have hadd : (⟨b, off, none⟩ : Addr).add (i.toNat * P.cellsOf e) = ⟨b, off + i.toNat * P.cellsOf e, none⟩ := by unfold Addr.add; split <;> simp_all
  simp [Instr.indexAt, asIntOf, run_underlying ht, Instr.sureAddr, h0, h1, run_sizeOf w hi, hadd]
theorem indexArr_sound {P : Program} {o : Oper} {s : St} {t e : TypeId} {x i : Operand} {id off len : Nat} {ik : IntKind} {n : Int} (ho : o.op = .indexAddr t x i) (hx : s.ev x = .ptr id off) (hi : s.ev i = .int ik n)
    (ht : P.underlying t = some (.array len e)) (hsz : (P.info? e).isSome = true) (h0 : 0 ≤ n) (h1 : n < (len : Int)) : OpS P o s (s.put o.dst (.ptr id (off + n.toNat * P.cellsOf e))) := by
  refine OpS.pure fun γ a w hr => ?_
  have e1 := hr.ev x
  have e2 := hr.ev i
  rw [hx] at e1
  rw [hi] at e2
  unfold execOp
  rw [ho]
  generalize hu : a.eval x = u at e1
  generalize hv : a.eval i = v at e2
  cases e1 with
  | ptr _ _ b c T cs hL hb =>
    cases e2
    have := run_indexArr (P := P) w ht hsz ik n b off h0 h1
    exact ⟨_, by simp [hu, hv, this], .ptr _ _ _ _ _ _ hL hb⟩
/-- The address of an element of an own array. -/
theorem RunL.indexArr {P : Program} {k : Oper → Knd} {ops : Array Oper} {K : St → Prop} {o : Oper} {rest : List Oper} {s : St} {t e : TypeId} {x i : Operand} {id off len : Nat} {ik : IntKind} {n : Int}
    (hg : guardA ops s o = some true) (ho : o.op = .indexAddr t x i) (ht : P.underlying t = some (.array len e)) (hx : s.ev x = .ptr id off) (hi : s.ev i = .int ik n) (hsz : (P.info? e).isSome = true) (h0 : 0 ≤ n) (h1 : n < (len : Int))
    (h : R P k ops rest (s.put o.dst (.ptr id (off + n.toNat * P.cellsOf e))) K) : RunL P k ops (o :: rest) s K := by
  refine .op ⟨.A, .ptr id (off + n.toNat * P.cellsOf e), []⟩ rfl ⟨⟨fun _ h => (by cases h), fun h => (by cases h)⟩, fun s1 ha _ => ⟨by rw [agree_guard ha]; exact hg, ?_⟩⟩ (R.sound h)
  exact indexArr_sound ho (by rw [agree_ev ha (by rw [ho]; simp [Op.operands])]; exact hx) (by rw [agree_ev ha (by rw [ho]; simp [Op.operands])]; exact hi) ht hsz h0 h1
/-- A load that may look at a variable that results go to. -/
theorem RunL.loadX {P : Program} {k : Oper → Knd} {ops : Array Oper} {K : St → Prop} {o : Oper} {rest : List Oper} {s : St} {x : AV} (hg : guardA ops s o = some true) (hk : k o = .D) (hx : pureA P s o.op = some x)
    (h : R P k ops rest (s.put o.dst x) K) : RunL P k ops (o :: rest) s K := .loadD hg hk hx (R.sound h)

end Go.Proofs.Ytllcljajlemmaaa.K
/-
  Is a slice nil? (A slice without elements may be nil or not: both are told.)
-/
namespace Go.Proofs.Ytllcljajlemmaaa.K
set_option linter.unusedVariables false
set_option linter.unusedSimpArgs false
open Go Go.RowKit
set_option maxRecDepth 8000

theorem equalIn_nil {P : Program} {T e : TypeId} (w : World) (ht : P.underlying T = some (.slice e)) (d : Nat) (A : Option Addr) (n c : Nat) :
    (Op.equalIn (d + 1) T (.slice A n c) (.slice none 0 0)).run P w = .ok A.isNone w := by
  unfold Op.equalIn
  simp only [Sem.run_bind, run_underlying ht, Result.andThen_ok]
  cases A <;> simp
theorem run_isNil {P : Program} {T e : TypeId} (w : World) (ht : P.underlying T = some (.slice e)) (A : Option Addr) (n c : Nat) (ox oy : Operand) :
    (do eqGuard .eql T ox oy (.slice A n c) (.slice none 0 0); binOp .eql T (.slice A n c) (.slice none 0 0) : Sem Value).run P w = .ok (.bool A.isNone) w := by
  have hg : (eqGuard .eql T ox oy (.slice A n c) (.slice none 0 0)).run P w = .ok () w := by
    unfold eqGuard
    simp
  have he : Op.equal T (.slice A n c) (.slice none 0 0) = Op.equalIn Op.maxDepth T (.slice A n c) (.slice none 0 0) := rfl
  have h1 := equalIn_nil (P := P) w ht 9999 A n c
  have hd : Op.maxDepth = 9999 + 1 := rfl
  rw [hd] at he
  simp only [Sem.run_bind, hg, Result.andThen_ok, binOp]
  rw [he]
  generalize Op.equalIn (9999 + 1) T (.slice A n c) (.slice none 0 0) = m at *
  simp [h1]
theorem AWp.nilTest {P : Program} {id : Nat} {o1 o2 : Oper} {Q : Exit → St → Prop} {s : St} {x0 : Operand} {d1 d2 : Tmp} {T T2 e : TypeId} {own : Bool} {es : List AV}
    (h1 : o1.op = .move x0) (hd1 : o1.dst = some d1) (hg1 : o1.guard = none) (h2 : o2.op = .binOp .eql T (.tmp d1) (.const (.slice none 0 0)) T2) (hd2 : o2.dst = some d2) (hg2 : o2.guard = none)
    (ht : P.underlying T = some (.slice e)) (hx : s.ev x0 = .sl own es) (hlt : d1 < s.t.length) (hc : ∀ e ∈ es, e.cells ≠ [])
    (h : ∀ b, (es ≠ [] → b = false) → Q .normal ((s.put (some d1) (.sl own es)).put (some d2) (.bool b))) : AWp P (.region id #[o1, o2] false) Q s := by
  intro ro γ a w _ hr
  refine wpIn_region ?_
  have gA1 : guardA #[o1, o2] s o1 = some true := by unfold guardA; rw [hg1]
  have gA2 : ∀ s', guardA #[o1, o2] s' o2 = some true := fun s' => by unfold guardA; rw [hg2]
  have m1 : OpS P o1 s (s.put o1.dst (.sl own es)) := pureA_sound (by rw [h1]; simp only [pureA, hx])
  have hr2 : List.range (#[o1, o2] : Array Oper).size = [0, 1] := rfl
  rw [hr2]
  simp only [wpOpsIn, List.getElem?_toArray, List.getElem?_cons_zero, List.getElem?_cons_succ]
  rw [guardA_wanted hr gA1, if_pos rfl]
  refine m1.wpIn ro hr fun γ' a' w' hr' hE' hS' => ?_
  rw [guardA_wanted hr' (gA2 _), if_pos rfl]
  have hL : (s.put o1.dst (.sl own es)).L = s.L := St.put_L _ _ _
  have e1 := hr'.ev (.tmp d1)
  have hev : (s.put o1.dst (.sl own es)).ev (.tmp d1) = .sl own es := by
    rw [hd1]; simp [St.put, St.ev, hlt]
  rw [hev] at e1
  have key : ∃ b : Bool, (es ≠ [] → b = false) ∧ (execOp a'.eval o2).run P w' = .ok (.value (.bool b)) w' := by
    generalize hu : a'.eval (.tmp d1) = u at e1
    cases e1 with
    | sl _ _ A n c sz vals hn hc' hsz hq2 hq1 hq3 =>
      refine ⟨A.isNone, fun hne => ?_, ?_⟩
      · obtain ⟨z, zs, rfl⟩ := List.exists_cons_of_ne_nil hne
        obtain ⟨y, ys, hy⟩ := List.exists_cons_of_ne_nil (hc z (by simp))
        have := hq2 0 z 0 y rfl (by rw [hy]; rfl)
        obtain ⟨b, o, rfl⟩ := roCell_addr this
        rfl
      · unfold execOp
        rw [h2]
        have := run_isNil (P := P) w' ht A n c (.tmp d1) (.const (.slice none 0 0))
        have hc0 : a'.eval (.const (.slice none 0 0)) = .slice none 0 0 := rfl
        simp only [hu, hc0]
        simp only [Sem.run_bind] at this ⊢
        simp [this]
  obtain ⟨b, hb, hrun⟩ := key
  refine OpR.wpIn (.inl ?_) (fun c hc => by rw [h2] at hc; cases hc) ro
  unfold Oper.wp
  rw [hrun]
  refine ⟨γ', (s.put (some d1) (.sl own es)).put (some d2) (.bool b), ?_, ?_, hS', h b hb⟩
  · have := hr'.put o2.dst (RV.bool b)
    rw [hd1, hd2] at this
    rw [hd2]
    exact this
  · rw [St.put_L]
    rw [hd1] at hE'
    exact hE'

end Go.Proofs.Ytllcljajlemmaaa.K
/-
  The simplest number of a cut: plain law.
-/
namespace Go.Proofs.Ytllcljajlemmaaa
open Go K
set_option linter.unusedSimpArgs false
set_option linter.unusedVariables false
set_option maxRecDepth 8000

def goodF (a : Fr) : Bool := goodB a.1 a.2
def goodL (l : List Fr) : Bool := decide (l.length ≤ 20) && l.all goodF
/-- Is a number of so many parts at most a fraction; at least it. -/
def leB (x : Int) (a : Fr) : Bool := decide (w64 (x * a.2) ≤ w64 (a.1 * 1048576))
def geB (x : Int) (a : Fr) : Bool := decide (w64 (a.1 * 1048576) ≤ w64 (x * a.2))
def cutS (l r : List Fr) (x : Int) : Int := if l.any (leB x) then 1 else if r.any (geB x) then -1 else 0
theorem cutS_val (l r : List Fr) (x : Int) : cutS l r x = 1 ∨ cutS l r x = 0 ∨ cutS l r x = -1 := by
  unfold cutS; split
  · exact .inl rfl
  · split
    · exact .inr (.inr rfl)
    · exact .inr (.inl rfl)
def cutX (l r : List Fr) : Int := (wkRun (cutS l r) 21 wk0).nums.getLastD 0
def cutBad (l r : List Fr) : Bool := l.any (leB (cutX l r)) || r.any (geB (cutX l r))
def simR (l r : List Fr) : AV := .tup [frE (if cutBad l r then (0, 0) else (frN (cutX l r), frD (cutX l r))), .bool (!cutBad l r)]

/-! ### the order of fractions -/
def FB (a : Fr) : Prop := 1 ≤ a.2 ∧ a.2 ≤ 1000000 ∧ -1000000 ≤ a.1 ∧ a.1 ≤ 1000000
theorem goodF_FB {a : Fr} (h : goodF a = true) : FB a := good_range h
def leQ (p q : Fr) : Prop := p.1 * q.2 ≤ q.1 * p.2
theorem fb_mul {p q : Fr} (hp : FB p) (hq : FB q) : (p.1 * q.2).natAbs ≤ 1000000 * 1000000 := by
  obtain ⟨a, b, c, d⟩ := hp
  obtain ⟨e, f, g, h⟩ := hq
  exact mul_le (by omega) (by omega)
theorem leQ_total (p q : Fr) : leQ p q ∨ leQ q p := by unfold leQ; omega
theorem leQ_trans {p q r : Fr} (hp : FB p) (hq : FB q) (hr : FB r) (h1 : leQ p q) (h2 : leQ q r) : leQ p r := by
  unfold leQ at *
  have a1 := Int.mul_le_mul_of_nonneg_right h1 (c := r.2) (by have := hr.1; omega)
  have a2 := Int.mul_le_mul_of_nonneg_right h2 (c := p.2) (by have := hp.1; omega)
  have a3 : p.1 * r.2 * q.2 ≤ r.1 * p.2 * q.2 := by
    rw [show p.1 * r.2 * q.2 = p.1 * q.2 * r.2 by ac_rfl, show r.1 * p.2 * q.2 = r.1 * q.2 * p.2 by ac_rfl]
    refine Int.le_trans a1 ?_
    rw [show q.1 * p.2 * r.2 = q.1 * r.2 * p.2 by ac_rfl]
    exact a2
  exact Int.le_of_mul_le_mul_right a3 (by have := hq.1; omega)
theorem leB_iff {x : Int} {a : Fr} (hx : x.natAbs ≤ 50000000) (ha : FB a) : leB x a = true ↔ x * a.2 ≤ a.1 * 1048576 := by
  obtain ⟨a1, a2, a3, a4⟩ := ha
  have q1 := mul_le (a := x) (b := a.2) (A := 50000000) (B := 1000000) (by omega) (by omega)
  unfold leB
  rw [w64_small (by omega), w64_small (by omega), decide_eq_true_eq]
theorem geB_iff {x : Int} {a : Fr} (hx : x.natAbs ≤ 50000000) (ha : FB a) : geB x a = true ↔ a.1 * 1048576 ≤ x * a.2 := by
  obtain ⟨a1, a2, a3, a4⟩ := ha
  have q1 := mul_le (a := x) (b := a.2) (A := 50000000) (B := 1000000) (by omega) (by omega)
  unfold geB
  rw [w64_small (x := x * a.2) (by omega), w64_small (by omega), decide_eq_true_eq]
theorem leB_mono {x : Int} {a m : Fr} (hx : x.natAbs ≤ 50000000) (ha : FB a) (hm : FB m) (h : leQ a m) (k : leB x a = true) : leB x m = true := by
  rw [leB_iff hx ha] at k
  rw [leB_iff hx hm]
  unfold leQ at h
  have a1 := Int.mul_le_mul_of_nonneg_right k (c := m.2) (by have := hm.1; omega)
  have a2 := Int.mul_le_mul_of_nonneg_right h (c := 1048576) (by omega)
  have a3 : x * m.2 * a.2 ≤ m.1 * 1048576 * a.2 := by
    rw [show x * m.2 * a.2 = x * a.2 * m.2 by ac_rfl, show m.1 * 1048576 * a.2 = m.1 * a.2 * 1048576 by ac_rfl]
    refine Int.le_trans a1 ?_
    rw [show a.1 * 1048576 * m.2 = a.1 * m.2 * 1048576 by ac_rfl]
    exact a2
  exact Int.le_of_mul_le_mul_right a3 (by have := ha.1; omega)
theorem geB_mono {x : Int} {a m : Fr} (hx : x.natAbs ≤ 50000000) (ha : FB a) (hm : FB m) (h : leQ m a) (k : geB x a = true) : geB x m = true := by
  rw [geB_iff hx ha] at k
  rw [geB_iff hx hm]
  unfold leQ at h
  have a1 := Int.mul_le_mul_of_nonneg_right k (c := m.2) (by have := hm.1; omega)
  have a2 := Int.mul_le_mul_of_nonneg_right h (c := 1048576) (by omega)
  have a3 : m.1 * 1048576 * a.2 ≤ x * m.2 * a.2 := by
    rw [show x * m.2 * a.2 = x * a.2 * m.2 by ac_rfl, show m.1 * 1048576 * a.2 = m.1 * a.2 * 1048576 by ac_rfl]
    refine Int.le_trans a2 ?_
    rw [show a.1 * m.2 * 1048576 = a.1 * 1048576 * m.2 by ac_rfl]
    exact a1
  exact Int.le_of_mul_le_mul_right a3 (by have := ha.1; omega)
/-- Between a left number and a right one that is at most it there is none. -/
theorem no_between {x y : Int} {a b : Fr} (hx : x.natAbs ≤ 50000000) (hy : y.natAbs ≤ 50000000) (ha : FB a) (hb : FB b) (h1 : leB x a = true) (h2 : geB x b = true) : leB y a = true ∨ geB y b = true := by
  by_cases h : y ≤ x
  · left
    rw [leB_iff hx ha] at h1
    rw [leB_iff hy ha]
    have := Int.mul_le_mul_of_nonneg_right h (c := a.2) (by have := ha.1; omega)
    omega
  · right
    rw [geB_iff hx hb] at h2
    rw [geB_iff hy hb]
    have := Int.mul_le_mul_of_nonneg_right (show x ≤ y by omega) (c := b.2) (by have := hb.1; omega)
    omega

/-! ### the greatest one of a list -/
/-- How the reference compares. -/
def cmpQ (p q : Fr) : Int := cmpI (w64 (w64 (p.1 * q.2) - w64 (q.1 * p.2))) 0
theorem cmpQ_pos {p q : Fr} (hp : FB p) (hq : FB q) : 0 < cmpQ p q ↔ ¬ leQ p q := by
  have h1 := fb_mul hp hq
  have h2 := fb_mul hq hp
  unfold cmpQ leQ cmpI
  rw [w64_small (x := p.1 * q.2) (by omega), w64_small (x := q.1 * p.2) (by omega), w64_small (by omega)]
  split
  · omega
  · split <;> omega
theorem cmpQ_neg {p q : Fr} (hp : FB p) (hq : FB q) : cmpQ p q < 0 ↔ ¬ leQ q p := by
  have h1 := fb_mul hp hq
  have h2 := fb_mul hq hp
  unfold cmpQ leQ cmpI
  rw [w64_small (x := p.1 * q.2) (by omega), w64_small (x := q.1 * p.2) (by omega), w64_small (by omega)]
  split
  · omega
  · split <;> omega
theorem cmpQ_val (p q : Fr) : cmpQ p q = 1 ∨ cmpQ p q = 0 ∨ cmpQ p q = -1 := by
  unfold cmpQ cmpI
  split
  · exact .inr (.inr rfl)
  · split
    · exact .inl rfl
    · exact .inr (.inl rfl)
def mostF (o : Fr) : List Fr → Fr
  | [] => o
  | a :: r => mostF (if 0 < cmpQ a o then a else o) r
theorem mostF_nil (o : Fr) : mostF o [] = o := rfl
theorem mostF_cons (o a : Fr) (r : List Fr) : mostF o (a :: r) = mostF (if 0 < cmpQ a o then a else o) r := rfl
theorem mostF_spec (l : List Fr) : ∀ (o : Fr), FB o → (∀ a ∈ l, FB a) → mostF o l ∈ o :: l ∧ ∀ b ∈ o :: l, leQ b (mostF o l) := by
  induction l with
  | nil =>
    intro o ho _
    rw [mostF_nil]
    refine ⟨List.mem_cons_self, fun b hb => ?_⟩
    rw [List.mem_singleton.1 hb]
    exact (leQ_total o o).elim id id
  | cons a r ih =>
    intro o ho hl
    have ha := hl a (by simp)
    have hr : ∀ b ∈ r, FB b := fun b hb => hl b (by simp [hb])
    rw [mostF_cons]
    by_cases hc : 0 < cmpQ a o
    · rw [if_pos hc]
      have hle : leQ o a := by
        rw [cmpQ_pos ha ho] at hc
        rcases leQ_total a o with h | h
        · exact absurd h hc
        · exact h
      obtain ⟨h1, h2⟩ := ih a ha hr
      have hm : FB (mostF a r) := by
        rcases List.mem_cons.1 h1 with h | h
        · rw [h]; exact ha
        · exact hr _ h
      refine ⟨List.mem_cons_of_mem _ h1, fun b hb => ?_⟩
      rcases List.mem_cons.1 hb with rfl | hb
      · exact leQ_trans ho ha hm hle (h2 a (by simp))
      · exact h2 b hb
    · rw [if_neg hc]
      have hle : leQ a o := by
        rw [cmpQ_pos ha ho] at hc
        exact Classical.not_not.1 hc
      obtain ⟨h1, h2⟩ := ih o ho hr
      have hm : FB (mostF o r) := by
        rcases List.mem_cons.1 h1 with h | h
        · rw [h]; exact ho
        · exact hr _ h
      refine ⟨?_, fun b hb => ?_⟩
      · rcases List.mem_cons.1 h1 with h | h
        · rw [h]; simp
        · simp [h]
      · rcases List.mem_cons.1 hb with rfl | hb
        · exact h2 b (by simp)
        · rcases List.mem_cons.1 hb with rfl | hb
          · exact leQ_trans ha ho hm hle (h2 o (by simp))
          · exact h2 b (by simp [hb])
def negF (a : Fr) : Fr := (w64 (0 - a.1), a.2)
theorem negF_FB {a : Fr} (h : FB a) : FB (negF a) ∧ negF a = (-a.1, a.2) ∧ negF (negF a) = a := by
  obtain ⟨h1, h2, h3, h4⟩ := h
  have e : w64 (0 - a.1) = -a.1 := by rw [w64_small (by omega)]; omega
  have e2 : w64 (0 - -a.1) = a.1 := by rw [w64_small (by omega)]; omega
  unfold negF
  rw [e]
  refine ⟨⟨h1, h2, by simp only; omega, by simp only; omega⟩, rfl, ?_⟩
  simp only [e2]

/-- Told by the greatest left number, and by the least right one. -/
theorem cmpI_neg (y : Int) : cmpI (-y) 0 = - cmpI y 0 := by
  unfold cmpI
  rcases Int.lt_trichotomy y 0 with h | h | h
  · rw [if_neg (by omega), if_pos (by omega), if_pos h]; rfl
  · subst h; rfl
  · rw [if_pos (by omega), if_neg (by omega), if_pos h]
theorem at_cmp {x a b n d : Int} (h : At x a b) (hx : x.natAbs ≤ 50000000) (hn : n.natAbs ≤ 1000000) (hd : 0 < d) (hd2 : d ≤ 1000000) :
    cmpI (w64 (w64 (n * b) - w64 (a * d))) 0 = side n d x := by
  have h1 := cmp_at h hx hn hd hd2
  obtain ⟨g, p, e, f, k, l, m⟩ := h.spec (by omega)
  have q1 := mul_le (a := a) (b := d) (A := 50000000) (B := 1000000) (by omega) (by omega)
  have q2 := mul_le (a := n) (b := b) (A := 1000000) (B := 1048576) (by omega) (by omega)
  rw [w64_small (x := a * d) (by omega), w64_small (x := n * b) (by omega)] at h1 ⊢
  rw [w64_small (by omega)] at h1 ⊢
  have : cmpI (n * b - a * d) 0 = - cmpI (a * d - n * b) 0 := by
    rw [← cmpI_neg]; congr 1; omega
  rw [this, h1]; omega
theorem side_le {x : Int} {a : Fr} : leB x a = decide (0 ≤ side a.1 a.2 x) := by
  unfold leB side cmpI
  rw [Bool.eq_iff_iff, decide_eq_true_eq, decide_eq_true_eq]
  split
  · omega
  · split <;> omega
theorem side_ge {x : Int} {a : Fr} : geB x a = decide (side a.1 a.2 x ≤ 0) := by
  unfold geB side cmpI
  rw [Bool.eq_iff_iff, decide_eq_true_eq, decide_eq_true_eq]
  split
  · omega
  · split <;> omega
theorem up_any {x : Int} {o : Fr} {l : List Fr} (hx : x.natAbs ≤ 50000000) (hl : ∀ a ∈ o :: l, FB a) : leB x (mostF o l) = (o :: l).any (leB x) := by
  obtain ⟨h1, h2⟩ := mostF_spec l o (hl o (by simp)) (fun a ha => hl a (by simp [ha]))
  rw [Bool.eq_iff_iff, List.any_eq_true]
  constructor
  · intro h; exact ⟨_, h1, h⟩
  · rintro ⟨a, ha, h⟩; exact leB_mono hx (hl a ha) (hl _ h1) (h2 a ha) h
def leastF (o : Fr) (l : List Fr) : Fr := negF (mostF (negF o) (l.map negF))
theorem leastF_spec (o : Fr) (l : List Fr) (hl : ∀ a ∈ o :: l, FB a) : leastF o l ∈ o :: l ∧ ∀ b ∈ o :: l, leQ (leastF o l) b := by
  have hn : ∀ a ∈ negF o :: l.map negF, FB a := by
    intro a ha
    rw [← List.map_cons] at ha
    obtain ⟨b, hb, rfl⟩ := List.mem_map.1 ha
    exact (negF_FB (hl b hb)).1
  obtain ⟨h1, h2⟩ := mostF_spec (l.map negF) (negF o) (hn _ (by simp)) (fun a ha => hn a (by simp [ha]))
  rw [← List.map_cons (f := negF)] at h1
  obtain ⟨m, hm, hme⟩ := List.mem_map.1 h1
  have e : leastF o l = m := by unfold leastF; rw [← hme]; exact (negF_FB (hl m hm)).2.2
  rw [e]
  refine ⟨hm, fun b hb => ?_⟩
  have h3 := h2 (negF b) (by rw [← List.map_cons (f := negF)]; exact List.mem_map.2 ⟨b, hb, rfl⟩)
  rw [← hme, (negF_FB (hl m hm)).2.1, (negF_FB (hl b hb)).2.1] at h3
  unfold leQ at h3 ⊢
  simp only [Int.neg_mul] at h3
  omega
theorem down_any {x : Int} {o : Fr} {l : List Fr} (hx : x.natAbs ≤ 50000000) (hl : ∀ a ∈ o :: l, FB a) : geB x (leastF o l) = (o :: l).any (geB x) := by
  obtain ⟨h1, h2⟩ := leastF_spec o l hl
  rw [Bool.eq_iff_iff, List.any_eq_true]
  constructor
  · intro h; exact ⟨_, h1, h⟩
  · rintro ⟨a, ha, h⟩; exact geB_mono hx (hl a ha) (hl _ h1) (h2 a ha) h

/-! ### on the way -/
/-- Each number on the way is a right fraction, with twenty letters too. -/
def Wj (i : Wk) : Prop := ∃ j h : Nat, j + h ≤ i.word.size ∧ (i.word.size = 0 ∨ 1 ≤ j) ∧ Mh j h i.x ∧ (∀ y, i.low.getLast? = some y → Mh j h y) ∧ (∀ y, i.high.getLast? = some y → Mh j h y) ∧ (h = 0 ∨ (i.low ≠ [] ∧ i.high ≠ []))
theorem wj0 : Wj wk0 := ⟨0, 0, Nat.le_refl _, .inl rfl, ⟨⟨0, rfl⟩, Nat.le_refl _⟩, fun y h => by simp [wk0] at h, fun y h => by simp [wk0] at h, .inl rfl⟩
theorem Wj.plus {i : Wk} (k : Wj i) (hw : i.word.size < 20) (hw0 : i.word.size = 0 → i.high = []) : Wj (stepP i) := by
  obtain ⟨j, h, h1, hj, h2, h3, h4, h5⟩ := k
  have hb : ∀ s, betw i.x 1 s i.high = (match i.high.getLast? with | none => w64 (i.x + w64 (1 * 1048576)) | some y => w64 ((w64 (i.x + y)).tdiv 2)) := fun s => betw_up (by omega)
  unfold Wj stepP
  simp only [size_plus, hb, List.getLast?_concat]
  cases hl : i.high.getLast? with
  | none =>
    have hn : i.high = [] := List.getLast?_eq_none_iff.1 hl
    have h0 : h = 0 := by rcases h5 with h5 | h5; exact h5; exact absurd hn h5.2
    subst h0
    exact ⟨j + 1, 0, by omega, .inr (by omega), h2.unit (by omega) (.inl rfl), fun y e => by cases e; exact h2.up, fun y e => by simp at e, .inl rfl⟩
  | some y =>
    have h6 := h4 y hl
    have hj1 : 1 ≤ j := by
      rcases hj with h | h
      · rw [hw0 h] at hl; simp at hl
      · exact h
    refine ⟨j, h + 1, by omega, .inr hj1, h2.mid h6 (by omega) (by omega), fun z e => by cases e; exact h2.half (by omega), fun z e => by cases e; exact h6.half (by omega), .inr ⟨by simp, fun e => by rw [e] at hl; simp at hl⟩⟩
theorem Wj.minus {i : Wk} (k : Wj i) (hw : i.word.size < 20) (hw0 : i.word.size = 0 → i.low = []) : Wj (stepM i) := by
  obtain ⟨j, h, h1, hj, h2, h3, h4, h5⟩ := k
  have hb : ∀ s, betw i.x (-1) i.low s = (match i.low.getLast? with | none => w64 (i.x + w64 (-1 * 1048576)) | some y => w64 ((w64 (i.x + y)).tdiv 2)) := fun s => betw_dn (by omega)
  unfold Wj stepM
  simp only [size_minus, hb, List.getLast?_concat]
  cases hl : i.low.getLast? with
  | none =>
    have hn : i.low = [] := List.getLast?_eq_none_iff.1 hl
    have h0 : h = 0 := by rcases h5 with h5 | h5; exact h5; exact absurd hn h5.1
    subst h0
    exact ⟨j + 1, 0, by omega, .inr (by omega), h2.unit (by omega) (.inr rfl), fun y e => by simp at e, fun y e => by cases e; exact h2.up, .inl rfl⟩
  | some y =>
    have h6 := h3 y hl
    have hj1 : 1 ≤ j := by
      rcases hj with h | h
      · rw [hw0 h] at hl; simp at hl
      · exact h
    refine ⟨j, h + 1, by omega, .inr hj1, h2.mid h6 (by omega) (by omega), fun z e => by cases e; exact h6.half (by omega), fun z e => by cases e; exact h2.half (by omega), .inr ⟨fun e => by rw [e] at hl; simp at hl, by simp⟩⟩
theorem pw_num2 : ∀ h : Nat, h < 20 → 2 ^ h * (20 - h) ≤ 1000000 := by decide
theorem Mh.ok2 {j h : Nat} {x : Int} (k : Mh j h x) (hw : j + h ≤ 20) (hh : h < 20) : mkOk x 1048576 = true := by
  obtain ⟨⟨m, e⟩, b⟩ := k
  have hp : (2 : Int) ^ (20 - h) * 2 ^ h = 1048576 := by
    rw [← Int.pow_add, show 20 - h + h = 20 by omega]; rfl
  have n1 := pw_num2 h (by omega)
  have n2 := pw_den h (by omega)
  have p1 := pw_pos (20 - h)
  have p2 := pw_pos h
  have hpn : ((2 : Int) ^ h) = ((2 ^ h : Nat) : Int) := by simp
  have hm : m.natAbs ≤ 2 ^ h * j := by
    have h1 : x.natAbs = (2 ^ (20 - h) : Int).natAbs * m.natAbs := by rw [e, Int.natAbs_mul]
    have h2 : (1048576 : Nat) = (2 ^ (20 - h) : Int).natAbs * 2 ^ h := by
      have := congrArg Int.natAbs hp
      rw [Int.natAbs_mul] at this
      rw [show ((2 : Int) ^ h).natAbs = 2 ^ h by rw [hpn]; rfl] at this
      exact this.symm
    rw [h1, h2, Nat.mul_assoc] at b
    exact Nat.le_of_mul_le_mul_left b (by omega)
  have hj : 2 ^ h * j ≤ 2 ^ h * (20 - h) := Nat.mul_le_mul_left _ (by omega)
  have hsm : small m (2 ^ h) := ⟨by omega, by rw [hpn]; omega⟩
  have hx : x.natAbs ≤ 100000000 := by omega
  obtain ⟨r1, r2⟩ := mk_ratio (n1 := x) (d1 := 1048576) (n2 := m) (d2 := 2 ^ h) (by omega) p2 ⟨by omega, by omega⟩ hsm (by rw [e, ← hp]; ac_rfl)
  obtain ⟨_, _, _, _, _, _, k1, k2⟩ := mk_spec p2 hsm
  refine mkOk_of (by omega) ⟨by omega, by omega⟩ (by rw [r1]; omega) (by rw [r2]; rw [hpn] at k2 ⊢; omega)
theorem Wj.ok {i : Wk} (k : Wj i) (hw : i.word.size ≤ 20) : mkOk i.x 1048576 = true := by
  obtain ⟨j, h, h1, hj, h2, _, _, h5⟩ := k
  rcases hj with hj | hj
  · exact h2.ok2 (by omega) (by omega)
  · exact h2.ok2 (by omega) (by omega)
/-- The twenty-first step counts too: nothing grows too large. -/
theorem mul_at {x a b : Int} (h : At x a b) (hx : x.natAbs ≤ 100000000) : mulOk a b 1 2 := by
  obtain ⟨g, p, e, f, k, l, m⟩ := h.spec hx
  unfold mulOk small
  rw [w64_small (by omega), w64_small (by omega)]
  omega
theorem last_ok {i : Wk} {s : Sw} (h : Rl i s) (hw : i.word.size ≤ 20) (plus : Bool) : swOk s plus := by
  obtain ⟨h1, h2, h3, h4, h5⟩ := h
  have hx : i.x.natAbs ≤ 25000000 := by omega
  cases plus
  · simp only [swOk]
    unfold Bd at h4
    split at h4
    · rw [h4, if_neg (by decide)]
      exact (sum_at h1 at_minus (by omega) (by omega)).1
    · rename_i y hy
      obtain ⟨a1, a2, a3, _⟩ := h4
      rw [a1, if_pos rfl]
      obtain ⟨k1, k2⟩ := sum_at a2 h1 (by omega) (by omega)
      exact ⟨k1, mul_at k2 (by omega)⟩
  · simp only [swOk]
    unfold Bd at h5
    split at h5
    · rw [h5, if_neg (by decide)]
      exact (sum_at h1 at_one (by omega) (by omega)).1
    · rename_i y hy
      obtain ⟨a1, a2, a3, _⟩ := h5
      rw [a1, if_pos rfl]
      obtain ⟨k1, k2⟩ := sum_at h1 a2 (by omega) (by omega)
      exact ⟨k1, mul_at k2 (by omega)⟩

end Go.Proofs.Ytllcljajlemmaaa
/-
  The simplest number of a cut: the walks of both.
-/
namespace Go.Proofs.Ytllcljajlemmaaa
open Go K
set_option linter.unusedSimpArgs false
set_option linter.unusedVariables false
set_option maxHeartbeats 1600000
set_option maxRecDepth 8000

def firstF (p : Fr → Bool) : List Fr → Int → Int
  | [], _ => -1
  | a :: r, k => if p a then k else firstF p r (k + 1)
theorem firstF_any (p : Fr → Bool) : ∀ (l : List Fr) (k : Int), 0 ≤ k → decide (0 ≤ firstF p l k) = l.any p
  | [], k, _ => by simp [firstF]
  | a :: r, k, hk => by
    have ih := firstF_any p r (k + 1) (by omega)
    cases h : p a
    · simp only [firstF, List.any_cons, h, Bool.false_eq_true, if_false, Bool.false_or]; exact ih
    · simp [firstF, h, hk]
theorem frs_split {l d r : List Fr} {e : Fr} (ha : l = d ++ e :: r) (hl : l.length ≤ 1048576) : (d.length : Int) < (l.length : Int) ∧ (l.map frE)[d.length]? = some (.agg [.int .i64 e.1, .int .i64 e.2]) ∧ IntKind.i64.wrap ((d.length : Int) + 1) = ((d ++ [e]).length : Int) := by
  have hda : l.length = d.length + (r.length + 1) := by rw [ha]; simp
  refine ⟨by omega, by rw [ha]; exact frs_get d r e, by rw [i64_id (by omega) (by omega)]; simp⟩
theorem frs_end {l d : List Fr} (ha : l = d ++ []) : ¬ ((d.length : Int) < (l.length : Int)) := by rw [ha]; simp

theorem indexFr_ok (cf : FuncId) (cap : List AV) (p : Fr → Bool) (hc : ∀ a : Fr, Ct Try.prog cf (.agg [.int .i64 a.1, .int .i64 a.2] :: cap) [] (.bool (p a)) []) (hp : pureL cap = true) (hf : okFn Try.prog cf = true) (l : List Fr) (hl : l.length ≤ 1048576) :
    Ct Try.prog 155 [.sl false (l.map frE), .fn cf cap] [] (.int .i64 (firstF p l 0)) [] := by
  refine Ct.by_ hmix [] Try.func155 rfl ?_
  simp only [run0, run1, run2, run3, run4, run5, run6, run7, run8, run9, run10, run11, run12, run13, run14, run15, run16, run17, run18, run19, run20, run21, run22, reduceCtorEq, Nat.reduceEqDiff, Nat.reduceAdd, Nat.reduceSub, Nat.reduceLeDiff, indexAddrA, indexRefA, appendA, strA, Nat.reduceMul, Nat.zero_mul, Nat.reduceMod, Int.reduceEq, Int.reduceLT, Int.reduceLE, Nat.reduceLT, Nat.lt_irrefl, Nat.reduceBEq, tys0, tys1, tys2, tys3, tys4, tys5, tys6, tys7, tys8, tys9, tys10, tys11, tys12, tys13, tys14, tys15, tys16, tys17, tys18, tys19, tys20, tys21, tys22, tys23, Try.ntmps155, Try.results155, List.length_map]
  refine AWp.loop_inv (ι := List Fr × List Fr) (fun q => ⟨[.sl false (l.map frE), .fn cf cap, .junk, .junk, .int .i64 0, .junk, .junk, .int .i64 l.length, .int .i64 q.1.length, .junk, .junk, .junk, .junk, .junk, .junk, .junk, .junk, .junk, .junk], []⟩)
    (fun q => l = q.1 ++ q.2 ∧ firstF p q.2 q.1.length = firstF p l 0) (fun q => q.2.length) ([], l) ⟨rfl, rfl⟩ ⟨by simp only [List.length_nil, Int.natCast_zero]; repeat constructor, rfl⟩ ?_
  rintro ⟨d, r⟩ ⟨ha, h2⟩
  refine W.sound hmix (E := []) ?_
  simp only at ha h2
  cases r with
  | nil =>
    have e1 := frs_end ha
    simp only [run0, run1, run2, run3, run4, run5, run6, run7, run8, run9, run10, run11, run12, run13, run14, run15, run16, run17, run18, run19, run20, run21, run22, reduceCtorEq, Nat.reduceEqDiff, Nat.reduceAdd, Nat.reduceSub, Nat.reduceLeDiff, indexAddrA, indexRefA, appendA, strA, Nat.reduceMul, Nat.zero_mul, Nat.reduceMod, Int.reduceEq, Int.reduceLT, Int.reduceLE, Nat.reduceLT, Nat.lt_irrefl, Nat.reduceBEq, tys0, tys1, tys2, tys3, tys4, tys5, tys6, tys7, tys8, tys9, tys10, tys11, tys12, tys13, tys14, tys15, tys16, tys17, tys18, tys19, tys20, tys21, tys22, tys23, Try.ntmps155, Try.results155, List.length_map, e1]
    exact Fin.eq (by rw [← h2]; rfl) rfl
  | cons e r =>
    obtain ⟨e1, e2, e5⟩ := frs_split ha hl
    simp only [run0, run1, run2, run3, run4, run5, run6, run7, run8, run9, run10, run11, run12, run13, run14, run15, run16, run17, run18, run19, run20, run21, run22, reduceCtorEq, Nat.reduceEqDiff, Nat.reduceAdd, Nat.reduceSub, Nat.reduceLeDiff, indexAddrA, indexRefA, appendA, strA, Nat.reduceMul, Nat.zero_mul, Nat.reduceMod, Int.reduceEq, Int.reduceLT, Int.reduceLE, Nat.reduceLT, Nat.lt_irrefl, Nat.reduceBEq, tys0, tys1, tys2, tys3, tys4, tys5, tys6, tys7, tys8, tys9, tys10, tys11, tys12, tys13, tys14, tys15, tys16, tys17, tys18, tys19, tys20, tys21, tys22, tys23, Try.ntmps155, Try.results155, List.length_map, e1, e2, Int.toNat_natCast, Int.natCast_nonneg]
    refine RunL.callcp rfl rfl rfl hf rfl (hc e) (by show pureL ([_] ++ cap) = true; simp only [List.singleton_append, pureL, pureB, hp, Bool.and_self]) rfl ?_
    simp only [run0, run1, run2, run3, run4, run5, run6, run7, run8, run9, run10, run11, run12, run13, run14, run15, run16, run17, run18, run19, run20, run21, run22, reduceCtorEq, Nat.reduceEqDiff, Nat.reduceAdd, Nat.reduceSub, Nat.reduceLeDiff, indexAddrA, indexRefA, appendA, strA, Nat.reduceMul, Nat.zero_mul, Nat.reduceMod, Int.reduceEq, Int.reduceLT, Int.reduceLE, Nat.reduceLT, Nat.lt_irrefl, Nat.reduceBEq, tys0, tys1, tys2, tys3, tys4, tys5, tys6, tys7, tys8, tys9, tys10, tys11, tys12, tys13, tys14, tys15, tys16, tys17, tys18, tys19, tys20, tys21, tys22, tys23, Try.ntmps155, Try.results155]
    simp only [firstF] at h2
    cases hd : p e
    · rw [hd] at h2
      simp only [run0, run1, run2, run3, run4, run5, run6, run7, run8, run9, run10, run11, run12, run13, run14, run15, run16, run17, run18, run19, run20, run21, run22, reduceCtorEq, Nat.reduceEqDiff, Nat.reduceAdd, Nat.reduceSub, Nat.reduceLeDiff, indexAddrA, indexRefA, appendA, strA, Nat.reduceMul, Nat.zero_mul, Nat.reduceMod, Int.reduceEq, Int.reduceLT, Int.reduceLE, Nat.reduceLT, Nat.lt_irrefl, Nat.reduceBEq, tys0, tys1, tys2, tys3, tys4, tys5, tys6, tys7, tys8, tys9, tys10, tys11, tys12, tys13, tys14, tys15, tys16, tys17, tys18, tys19, tys20, tys21, tys22, tys23, Try.ntmps155, Try.results155, hd, e5]
      exact ⟨(d ++ [e], r), ⟨by simp [ha], by simp only [List.length_append, List.length_cons, List.length_nil]; simpa using h2⟩, by simp, by simp only [List.length_append, List.length_cons, List.length_nil]; repeat constructor⟩
    · rw [hd] at h2
      simp only [run0, run1, run2, run3, run4, run5, run6, run7, run8, run9, run10, run11, run12, run13, run14, run15, run16, run17, run18, run19, run20, run21, run22, reduceCtorEq, Nat.reduceEqDiff, Nat.reduceAdd, Nat.reduceSub, Nat.reduceLeDiff, indexAddrA, indexRefA, appendA, strA, Nat.reduceMul, Nat.zero_mul, Nat.reduceMod, Int.reduceEq, Int.reduceLT, Int.reduceLE, Nat.reduceLT, Nat.lt_irrefl, Nat.reduceBEq, tys0, tys1, tys2, tys3, tys4, tys5, tys6, tys7, tys8, tys9, tys10, tys11, tys12, tys13, tys14, tys15, tys16, tys17, tys18, tys19, tys20, tys21, tys22, tys23, Try.ntmps155, Try.results155, hd]
      exact Fin.eq (by rw [← h2]; simp) rfl
theorem containsFr_ok (cf : FuncId) (cap : List AV) (p : Fr → Bool) (hc : ∀ a : Fr, Ct Try.prog cf (.agg [.int .i64 a.1, .int .i64 a.2] :: cap) [] (.bool (p a)) []) (hp : pureL cap = true) (hf : okFn Try.prog cf = true) (l : List Fr) (hl : l.length ≤ 1048576) :
    Ct Try.prog 128 [.sl false (l.map frE), .fn cf cap] [] (.bool (l.any p)) [] := by
  have pl := frs_pure l
  refine Ct.by_ hmix [] Try.func128 rfl ?_
  simp only [run0, run1, run2, run3, run4, run5, run6, run7, run8, run9, run10, run11, run12, run13, run14, run15, run16, run17, run18, run19, run20, run21, run22, reduceCtorEq, Nat.reduceEqDiff, Nat.reduceAdd, Nat.reduceSub, Nat.reduceLeDiff, indexAddrA, indexRefA, appendA, strA, Nat.reduceMul, Nat.zero_mul, Nat.reduceMod, Int.reduceEq, Int.reduceLT, Int.reduceLE, Nat.reduceLT, Nat.lt_irrefl, Nat.reduceBEq, tys0, tys1, tys2, tys3, tys4, tys5, tys6, tys7, tys8, tys9, tys10, tys11, tys12, tys13, tys14, tys15, tys16, tys17, tys18, tys19, tys20, tys21, tys22, tys23, Try.ntmps128, Try.results128]
  refine RunL.callp rfl rfl ok_f155 (indexFr_ok cf cap p hc hp hf l hl) (by simp only [pureL, pureB, pl, hp, Bool.and_self]) rfl ?_
  simp only [run0, run1, run2, run3, run4, run5, run6, run7, run8, run9, run10, run11, run12, run13, run14, run15, run16, run17, run18, run19, run20, run21, run22, reduceCtorEq, Nat.reduceEqDiff, Nat.reduceAdd, Nat.reduceSub, Nat.reduceLeDiff, indexAddrA, indexRefA, appendA, strA, Nat.reduceMul, Nat.zero_mul, Nat.reduceMod, Int.reduceEq, Int.reduceLT, Int.reduceLE, Nat.reduceLT, Nat.lt_irrefl, Nat.reduceBEq, tys0, tys1, tys2, tys3, tys4, tys5, tys6, tys7, tys8, tys9, tys10, tys11, tys12, tys13, tys14, tys15, tys16, tys17, tys18, tys19, tys20, tys21, tys22, tys23, Try.ntmps128, Try.results128]
  exact Fin.eq (by rw [firstF_any p l 0 (by omega)]) rfl

theorem closOk_ok (a : Fr) : Ct Try.prog 129 [.agg [.int .i64 a.1, .int .i64 a.2]] [] (.bool (!goodF a)) [] := by
  refine Ct.by_ hmix [] Try.func129 rfl ?_
  simp only [run0, run1, run2, run3, run4, run5, run6, run7, run8, run9, run10, run11, run12, run13, run14, run15, run16, run17, run18, run19, run20, run21, run22, reduceCtorEq, Nat.reduceEqDiff, Nat.reduceAdd, Nat.reduceSub, Nat.reduceLeDiff, indexAddrA, indexRefA, appendA, strA, Nat.reduceMul, Nat.zero_mul, Nat.reduceMod, Int.reduceEq, Int.reduceLT, Int.reduceLE, Nat.reduceLT, Nat.lt_irrefl, Nat.reduceBEq, tys0, tys1, tys2, tys3, tys4, tys5, tys6, tys7, tys8, tys9, tys10, tys11, tys12, tys13, tys14, tys15, tys16, tys17, tys18, tys19, tys20, tys21, tys22, tys23, Try.ntmps129, Try.results129]
  refine RunL.callp rfl rfl ok_f86 (good_ok a.1 a.2) (by first | rfl | simp only [pureL, pureB, Bool.and_self, Bool.and_true, Bool.true_and]) rfl ?_
  simp only [run0, run1, run2, run3, run4, run5, run6, run7, run8, run9, run10, run11, run12, run13, run14, run15, run16, run17, run18, run19, run20, run21, run22, reduceCtorEq, Nat.reduceEqDiff, Nat.reduceAdd, Nat.reduceSub, Nat.reduceLeDiff, indexAddrA, indexRefA, appendA, strA, Nat.reduceMul, Nat.zero_mul, Nat.reduceMod, Int.reduceEq, Int.reduceLT, Int.reduceLE, Nat.reduceLT, Nat.lt_irrefl, Nat.reduceBEq, tys0, tys1, tys2, tys3, tys4, tys5, tys6, tys7, tys8, tys9, tys10, tys11, tys12, tys13, tys14, tys15, tys16, tys17, tys18, tys19, tys20, tys21, tys22, tys23, Try.ntmps129, Try.results129]
  exact Fin.eq rfl rfl
theorem fractionsOk_ok (l : List Fr) (hl : l.length ≤ 1048576) : Ct Try.prog 81 [.sl false (l.map frE)] [] (.bool (goodL l)) [] := by
  have pl := frs_pure l
  refine Ct.by_ hmix [] Try.func81 rfl ?_
  by_cases h : l.length ≤ 20
  · have e1 : (l.length : Int) ≤ 20 := by omega
    simp only [run0, run1, run2, run3, run4, run5, run6, run7, run8, run9, run10, run11, run12, run13, run14, run15, run16, run17, run18, run19, run20, run21, run22, reduceCtorEq, Nat.reduceEqDiff, Nat.reduceAdd, Nat.reduceSub, Nat.reduceLeDiff, indexAddrA, indexRefA, appendA, strA, Nat.reduceMul, Nat.zero_mul, Nat.reduceMod, Int.reduceEq, Int.reduceLT, Int.reduceLE, Nat.reduceLT, Nat.lt_irrefl, Nat.reduceBEq, tys0, tys1, tys2, tys3, tys4, tys5, tys6, tys7, tys8, tys9, tys10, tys11, tys12, tys13, tys14, tys15, tys16, tys17, tys18, tys19, tys20, tys21, tys22, tys23, Try.ntmps81, Try.results81, List.length_map, e1]
    refine RunL.callp rfl rfl ok_f128 (containsFr_ok 129 [] (fun a => !goodF a) closOk_ok rfl ok_f129 l hl) (by simp only [pureL, pureB, pl, Bool.and_self]) rfl ?_
    simp only [run0, run1, run2, run3, run4, run5, run6, run7, run8, run9, run10, run11, run12, run13, run14, run15, run16, run17, run18, run19, run20, run21, run22, reduceCtorEq, Nat.reduceEqDiff, Nat.reduceAdd, Nat.reduceSub, Nat.reduceLeDiff, indexAddrA, indexRefA, appendA, strA, Nat.reduceMul, Nat.zero_mul, Nat.reduceMod, Int.reduceEq, Int.reduceLT, Int.reduceLE, Nat.reduceLT, Nat.lt_irrefl, Nat.reduceBEq, tys0, tys1, tys2, tys3, tys4, tys5, tys6, tys7, tys8, tys9, tys10, tys11, tys12, tys13, tys14, tys15, tys16, tys17, tys18, tys19, tys20, tys21, tys22, tys23, Try.ntmps81, Try.results81]
    exact Fin.eq (by simp [goodL, h, List.all_eq_not_any_not]) rfl
  · have e1 : ¬ (l.length : Int) ≤ 20 := by omega
    simp only [run0, run1, run2, run3, run4, run5, run6, run7, run8, run9, run10, run11, run12, run13, run14, run15, run16, run17, run18, run19, run20, run21, run22, reduceCtorEq, Nat.reduceEqDiff, Nat.reduceAdd, Nat.reduceSub, Nat.reduceLeDiff, indexAddrA, indexRefA, appendA, strA, Nat.reduceMul, Nat.zero_mul, Nat.reduceMod, Int.reduceEq, Int.reduceLT, Int.reduceLE, Nat.reduceLT, Nat.lt_irrefl, Nat.reduceBEq, tys0, tys1, tys2, tys3, tys4, tys5, tys6, tys7, tys8, tys9, tys10, tys11, tys12, tys13, tys14, tys15, tys16, tys17, tys18, tys19, tys20, tys21, tys22, tys23, Try.ntmps81, Try.results81, List.length_map, e1]
    exact Fin.eq (by simp [goodL, h]) rfl
structure FxS where
  d : List Fr
  r : List Fr
  X : List AObj
theorem shList_ok (l : List Fr) (hl : l.length ≤ 1048576) : Ct Try.prog 76 [.sl false (l.map frE), .int .i64 20] [] (.bool (goodL l)) [] := by
  refine Ct.by_ hmix [] Try.func76 rfl ?_
  simp only [run0, run1, run2, run3, run4, run5, run6, run7, run8, run9, run10, run11, run12, run13, run14, run15, run16, run17, run18, run19, run20, run21, run22, reduceCtorEq, Nat.reduceEqDiff, Nat.reduceAdd, Nat.reduceSub, Nat.reduceLeDiff, indexAddrA, indexRefA, appendA, strA, Nat.reduceMul, Nat.zero_mul, Nat.reduceMod, Int.reduceEq, Int.reduceLT, Int.reduceLE, Nat.reduceLT, Nat.lt_irrefl, Nat.reduceBEq, tys0, tys1, tys2, tys3, tys4, tys5, tys6, tys7, tys8, tys9, tys10, tys11, tys12, tys13, tys14, tys15, tys16, tys17, tys18, tys19, tys20, tys21, tys22, tys23, Try.ntmps76, Try.results76, List.length_map]
  refine AWp.loop_inv (ι := FxS) (fun q => ⟨[.sl false (l.map frE), .int .i64 20, .junk, .junk, .bool false, .junk, .junk, .sl false (l.map frE), .int .i64 l.length, .int .i64 q.d.length, .junk, .junk, .junk, .junk, .junk, .junk, .junk, .junk, .junk, .junk, .junk], q.X⟩)
    (fun q => l = q.d ++ q.r ∧ q.d.all goodF = true) (fun q => q.r.length) ⟨[], l, []⟩ ⟨rfl, rfl⟩ ⟨by simp only [List.length_nil, Int.natCast_zero]; repeat constructor, rfl⟩ ?_
  rintro ⟨d, r, X⟩ ⟨ha, h2⟩
  refine W.sound hmix (E := []) ?_
  simp only at ha h2
  cases r with
  | nil =>
    have e1 := frs_end ha
    rw [List.append_nil] at ha
    subst ha
    by_cases h : l.length ≤ 20
    · have e2 : (l.length : Int) ≤ 20 := by omega
      simp only [run0, run1, run2, run3, run4, run5, run6, run7, run8, run9, run10, run11, run12, run13, run14, run15, run16, run17, run18, run19, run20, run21, run22, reduceCtorEq, Nat.reduceEqDiff, Nat.reduceAdd, Nat.reduceSub, Nat.reduceLeDiff, indexAddrA, indexRefA, appendA, strA, Nat.reduceMul, Nat.zero_mul, Nat.reduceMod, Int.reduceEq, Int.reduceLT, Int.reduceLE, Nat.reduceLT, Nat.lt_irrefl, Nat.reduceBEq, tys0, tys1, tys2, tys3, tys4, tys5, tys6, tys7, tys8, tys9, tys10, tys11, tys12, tys13, tys14, tys15, tys16, tys17, tys18, tys19, tys20, tys21, tys22, tys23, Try.ntmps76, Try.results76, List.length_map, e1, e2]
      exact Fin.eq (by simp only [goodL, h, h2]; rfl) rfl
    · have e2 : ¬ (l.length : Int) ≤ 20 := by omega
      simp only [run0, run1, run2, run3, run4, run5, run6, run7, run8, run9, run10, run11, run12, run13, run14, run15, run16, run17, run18, run19, run20, run21, run22, reduceCtorEq, Nat.reduceEqDiff, Nat.reduceAdd, Nat.reduceSub, Nat.reduceLeDiff, indexAddrA, indexRefA, appendA, strA, Nat.reduceMul, Nat.zero_mul, Nat.reduceMod, Int.reduceEq, Int.reduceLT, Int.reduceLE, Nat.reduceLT, Nat.lt_irrefl, Nat.reduceBEq, tys0, tys1, tys2, tys3, tys4, tys5, tys6, tys7, tys8, tys9, tys10, tys11, tys12, tys13, tys14, tys15, tys16, tys17, tys18, tys19, tys20, tys21, tys22, tys23, Try.ntmps76, Try.results76, List.length_map, e1, e2]
      exact Fin.eq (by simp [goodL, h]) rfl
  | cons e r =>
    obtain ⟨e1, e2, e5⟩ := frs_split ha hl
    simp only [run0, run1, run2, run3, run4, run5, run6, run7, run8, run9, run10, run11, run12, run13, run14, run15, run16, run17, run18, run19, run20, run21, run22, reduceCtorEq, Nat.reduceEqDiff, Nat.reduceAdd, Nat.reduceSub, Nat.reduceLeDiff, indexAddrA, indexRefA, appendA, strA, Nat.reduceMul, Nat.zero_mul, Nat.reduceMod, Int.reduceEq, Int.reduceLT, Int.reduceLE, Nat.reduceLT, Nat.lt_irrefl, Nat.reduceBEq, tys0, tys1, tys2, tys3, tys4, tys5, tys6, tys7, tys8, tys9, tys10, tys11, tys12, tys13, tys14, tys15, tys16, tys17, tys18, tys19, tys20, tys21, tys22, tys23, Try.ntmps76, Try.results76, List.length_map, e1, e2, Int.toNat_natCast, Int.natCast_nonneg, List.getElem?_append_right, Nat.sub_self]
    refine RunL.callp rfl rfl ok_f116 (shGood_ok e.1 e.2) (by first | rfl | simp only [pureL, pureB, Bool.and_self, Bool.and_true, Bool.true_and]) rfl ?_
    cases hg : goodB e.1 e.2
    · simp only [run0, run1, run2, run3, run4, run5, run6, run7, run8, run9, run10, run11, run12, run13, run14, run15, run16, run17, run18, run19, run20, run21, run22, reduceCtorEq, Nat.reduceEqDiff, Nat.reduceAdd, Nat.reduceSub, Nat.reduceLeDiff, indexAddrA, indexRefA, appendA, strA, Nat.reduceMul, Nat.zero_mul, Nat.reduceMod, Int.reduceEq, Int.reduceLT, Int.reduceLE, Nat.reduceLT, Nat.lt_irrefl, Nat.reduceBEq, tys0, tys1, tys2, tys3, tys4, tys5, tys6, tys7, tys8, tys9, tys10, tys11, tys12, tys13, tys14, tys15, tys16, tys17, tys18, tys19, tys20, tys21, tys22, tys23, Try.ntmps76, Try.results76, hg]
      exact Fin.eq (by rw [ha]; simp [goodL, goodF, hg]) rfl
    · simp only [run0, run1, run2, run3, run4, run5, run6, run7, run8, run9, run10, run11, run12, run13, run14, run15, run16, run17, run18, run19, run20, run21, run22, reduceCtorEq, Nat.reduceEqDiff, Nat.reduceAdd, Nat.reduceSub, Nat.reduceLeDiff, indexAddrA, indexRefA, appendA, strA, Nat.reduceMul, Nat.zero_mul, Nat.reduceMod, Int.reduceEq, Int.reduceLT, Int.reduceLE, Nat.reduceLT, Nat.lt_irrefl, Nat.reduceBEq, tys0, tys1, tys2, tys3, tys4, tys5, tys6, tys7, tys8, tys9, tys10, tys11, tys12, tys13, tys14, tys15, tys16, tys17, tys18, tys19, tys20, tys21, tys22, tys23, Try.ntmps76, Try.results76, hg, e5]
      exact ⟨⟨d ++ [e], r, _⟩, ⟨by simp [ha], by simp [h2, goodF, hg]⟩, by simp, by simp only [List.length_append, List.length_cons, List.length_nil]; repeat constructor, rfl⟩

end Go.Proofs.Ytllcljajlemmaaa
/-
  The simplest number of a cut: the program's function.
-/
namespace Go.Proofs.Ytllcljajlemmaaa
open Go K
set_option linter.unusedSimpArgs false
set_option linter.unusedVariables false
set_option maxHeartbeats 1600000
set_option maxRecDepth 8000

theorem closCut_ok (l r : List Fr) (hl : l.length ≤ 1048576) (hr : r.length ≤ 1048576) (x : Int) : Ct Try.prog 130 [.int .i64 x, .rptr (.agg [.sl false (l.map frE)]) 0, .rptr (.agg [.sl false (r.map frE)]) 0] [] (.int .i64 (cutS l r x)) [] := by
  refine Ct.by_ hmix [] Try.func130 rfl ?_
  simp only [run0, run1, run2, run3, run4, run5, run6, run7, run8, run9, run10, run11, run12, run13, run14, run15, run16, run17, run18, run19, run20, run21, run22, reduceCtorEq, Nat.reduceEqDiff, Nat.reduceAdd, Nat.reduceSub, Nat.reduceLeDiff, indexAddrA, indexRefA, appendA, strA, Nat.reduceMul, Nat.zero_mul, Nat.reduceMod, Int.reduceEq, Int.reduceLT, Int.reduceLE, Nat.reduceLT, Nat.lt_irrefl, Nat.reduceBEq, tys0, tys1, tys2, tys3, tys4, tys5, tys6, tys7, tys8, tys9, tys10, tys11, tys12, tys13, tys14, tys15, tys16, tys17, tys18, tys19, tys20, tys21, tys22, tys23, Try.ntmps130, Try.results130, List.length_map]
  refine AWp.loop_inv (ι := FxS) (fun q => ⟨[.int .i64 x, .rptr (.agg [.sl false (l.map frE)]) 0, .rptr (.agg [.sl false (r.map frE)]) 0, .junk, .int .i64 0, .junk, .junk, .junk, .junk, .sl false (l.map frE), .int .i64 l.length, .int .i64 q.d.length, .junk, .junk, .junk, .junk, .junk, .junk, .junk, .junk, .junk, .junk, .junk, .junk, .junk, .junk, .junk, .junk, .junk, .junk, .junk, .junk, .junk, .junk, .junk, .junk, .junk, .junk, .junk], q.X⟩)
    (fun q => l = q.d ++ q.r ∧ q.d.any (leB x) = false) (fun q => q.r.length) ⟨[], l, []⟩ ⟨rfl, rfl⟩ ⟨by simp only [List.length_nil, Int.natCast_zero]; repeat constructor, rfl⟩ ?_
  rintro ⟨d, q, X⟩ ⟨ha, h2⟩
  refine W.sound hmix (E := []) ?_
  simp only at ha h2
  cases q with
  | nil =>
    have e1 := frs_end ha
    rw [List.append_nil] at ha
    subst ha
    simp only [run0, run1, run2, run3, run4, run5, run6, run7, run8, run9, run10, run11, run12, run13, run14, run15, run16, run17, run18, run19, run20, run21, run22, reduceCtorEq, Nat.reduceEqDiff, Nat.reduceAdd, Nat.reduceSub, Nat.reduceLeDiff, indexAddrA, indexRefA, appendA, strA, Nat.reduceMul, Nat.zero_mul, Nat.reduceMod, Int.reduceEq, Int.reduceLT, Int.reduceLE, Nat.reduceLT, Nat.lt_irrefl, Nat.reduceBEq, tys0, tys1, tys2, tys3, tys4, tys5, tys6, tys7, tys8, tys9, tys10, tys11, tys12, tys13, tys14, tys15, tys16, tys17, tys18, tys19, tys20, tys21, tys22, tys23, Try.ntmps130, Try.results130, List.length_map, e1]
    refine AWp.loop_inv (ι := FxS) (fun q => ⟨[.int .i64 x, .rptr (.agg [.sl false (l.map frE)]) 0, .rptr (.agg [.sl false (r.map frE)]) 0, .junk, .int .i64 0, .junk, .junk, .junk, .junk, .junk, .junk, .junk, .junk, .junk, .junk, .junk, .junk, .junk, .junk, .junk, .junk, .junk, .junk, .junk, .sl false (r.map frE), .int .i64 r.length, .int .i64 q.d.length, .junk, .junk, .junk, .junk, .junk, .junk, .junk, .junk, .junk, .junk, .junk, .junk], q.X⟩)
      (fun q => r = q.d ++ q.r ∧ q.d.any (geB x) = false) (fun q => q.r.length) ⟨[], r, X⟩ ⟨rfl, rfl⟩ ⟨by simp only [List.length_nil, Int.natCast_zero]; repeat constructor, rfl⟩ ?_
    rintro ⟨d, q, X⟩ ⟨ha, h3⟩
    refine W.sound hmix (E := []) ?_
    simp only at ha h3
    cases q with
    | nil =>
      have e1 := frs_end ha
      rw [List.append_nil] at ha
      subst ha
      simp only [run0, run1, run2, run3, run4, run5, run6, run7, run8, run9, run10, run11, run12, run13, run14, run15, run16, run17, run18, run19, run20, run21, run22, reduceCtorEq, Nat.reduceEqDiff, Nat.reduceAdd, Nat.reduceSub, Nat.reduceLeDiff, indexAddrA, indexRefA, appendA, strA, Nat.reduceMul, Nat.zero_mul, Nat.reduceMod, Int.reduceEq, Int.reduceLT, Int.reduceLE, Nat.reduceLT, Nat.lt_irrefl, Nat.reduceBEq, tys0, tys1, tys2, tys3, tys4, tys5, tys6, tys7, tys8, tys9, tys10, tys11, tys12, tys13, tys14, tys15, tys16, tys17, tys18, tys19, tys20, tys21, tys22, tys23, Try.ntmps130, Try.results130, List.length_map, e1]
      exact Fin.eq (by simp [cutS, h2, h3]) rfl
    | cons e q =>
      obtain ⟨e1, e2, e5⟩ := frs_split ha hr
      by_cases hc : w64 (e.1 * 1048576) ≤ w64 (x * e.2)
      · have hg : geB x e = true := by simp [geB, hc]
        simp only [w64] at hc
        simp only [run0, run1, run2, run3, run4, run5, run6, run7, run8, run9, run10, run11, run12, run13, run14, run15, run16, run17, run18, run19, run20, run21, run22, reduceCtorEq, Nat.reduceEqDiff, Nat.reduceAdd, Nat.reduceSub, Nat.reduceLeDiff, indexAddrA, indexRefA, appendA, strA, Nat.reduceMul, Nat.zero_mul, Nat.reduceMod, Int.reduceEq, Int.reduceLT, Int.reduceLE, Nat.reduceLT, Nat.lt_irrefl, Nat.reduceBEq, tys0, tys1, tys2, tys3, tys4, tys5, tys6, tys7, tys8, tys9, tys10, tys11, tys12, tys13, tys14, tys15, tys16, tys17, tys18, tys19, tys20, tys21, tys22, tys23, Try.ntmps130, Try.results130, List.length_map, e1, e2, hc, Int.toNat_natCast, Int.natCast_nonneg, List.getElem?_append_right, Nat.sub_self]
        exact Fin.eq (by rw [ha]; simp [cutS, h2, hg]) rfl
      · have hg : geB x e = false := by simp [geB, hc]
        simp only [w64] at hc
        simp only [run0, run1, run2, run3, run4, run5, run6, run7, run8, run9, run10, run11, run12, run13, run14, run15, run16, run17, run18, run19, run20, run21, run22, reduceCtorEq, Nat.reduceEqDiff, Nat.reduceAdd, Nat.reduceSub, Nat.reduceLeDiff, indexAddrA, indexRefA, appendA, strA, Nat.reduceMul, Nat.zero_mul, Nat.reduceMod, Int.reduceEq, Int.reduceLT, Int.reduceLE, Nat.reduceLT, Nat.lt_irrefl, Nat.reduceBEq, tys0, tys1, tys2, tys3, tys4, tys5, tys6, tys7, tys8, tys9, tys10, tys11, tys12, tys13, tys14, tys15, tys16, tys17, tys18, tys19, tys20, tys21, tys22, tys23, Try.ntmps130, Try.results130, List.length_map, e1, e2, e5, hc, Int.toNat_natCast, Int.natCast_nonneg, List.getElem?_append_right, Nat.sub_self]
        exact ⟨⟨d ++ [e], q, _⟩, ⟨by simp [ha], by simp [h3, hg]⟩, by simp, by simp only [List.length_append, List.length_cons, List.length_nil]; repeat constructor, rfl⟩
  | cons e q =>
    obtain ⟨e1, e2, e5⟩ := frs_split ha hl
    by_cases hc : w64 (x * e.2) ≤ w64 (e.1 * 1048576)
    · have hg : leB x e = true := by simp [leB, hc]
      simp only [w64] at hc
      simp only [run0, run1, run2, run3, run4, run5, run6, run7, run8, run9, run10, run11, run12, run13, run14, run15, run16, run17, run18, run19, run20, run21, run22, reduceCtorEq, Nat.reduceEqDiff, Nat.reduceAdd, Nat.reduceSub, Nat.reduceLeDiff, indexAddrA, indexRefA, appendA, strA, Nat.reduceMul, Nat.zero_mul, Nat.reduceMod, Int.reduceEq, Int.reduceLT, Int.reduceLE, Nat.reduceLT, Nat.lt_irrefl, Nat.reduceBEq, tys0, tys1, tys2, tys3, tys4, tys5, tys6, tys7, tys8, tys9, tys10, tys11, tys12, tys13, tys14, tys15, tys16, tys17, tys18, tys19, tys20, tys21, tys22, tys23, Try.ntmps130, Try.results130, List.length_map, e1, e2, hc, Int.toNat_natCast, Int.natCast_nonneg, List.getElem?_append_right, Nat.sub_self]
      exact Fin.eq (by rw [ha]; simp [cutS, hg]) rfl
    · have hg : leB x e = false := by simp [leB, hc]
      simp only [w64] at hc
      simp only [run0, run1, run2, run3, run4, run5, run6, run7, run8, run9, run10, run11, run12, run13, run14, run15, run16, run17, run18, run19, run20, run21, run22, reduceCtorEq, Nat.reduceEqDiff, Nat.reduceAdd, Nat.reduceSub, Nat.reduceLeDiff, indexAddrA, indexRefA, appendA, strA, Nat.reduceMul, Nat.zero_mul, Nat.reduceMod, Int.reduceEq, Int.reduceLT, Int.reduceLE, Nat.reduceLT, Nat.lt_irrefl, Nat.reduceBEq, tys0, tys1, tys2, tys3, tys4, tys5, tys6, tys7, tys8, tys9, tys10, tys11, tys12, tys13, tys14, tys15, tys16, tys17, tys18, tys19, tys20, tys21, tys22, tys23, Try.ntmps130, Try.results130, List.length_map, e1, e2, e5, hc, Int.toNat_natCast, Int.natCast_nonneg, List.getElem?_append_right, Nat.sub_self]
      exact ⟨⟨d ++ [e], q, _⟩, ⟨by simp [ha], by simp [h2, hg]⟩, by simp, by simp only [List.length_append, List.length_cons, List.length_nil]; repeat constructor, rfl⟩
theorem closLe_ok (x : Int) (a : Fr) : Ct Try.prog 131 [.agg [.int .i64 a.1, .int .i64 a.2], .rptr (.agg [.int .i64 x]) 0] [] (.bool (leB x a)) [] := by
  refine Ct.by_ hmix [] Try.func131 rfl ?_
  simp only [run0, run1, run2, run3, run4, run5, run6, run7, run8, run9, run10, run11, run12, run13, run14, run15, run16, run17, run18, run19, run20, run21, run22, reduceCtorEq, Nat.reduceEqDiff, Nat.reduceAdd, Nat.reduceSub, Nat.reduceLeDiff, indexAddrA, indexRefA, appendA, strA, Nat.reduceMul, Nat.zero_mul, Nat.reduceMod, Int.reduceEq, Int.reduceLT, Int.reduceLE, Nat.reduceLT, Nat.lt_irrefl, Nat.reduceBEq, tys0, tys1, tys2, tys3, tys4, tys5, tys6, tys7, tys8, tys9, tys10, tys11, tys12, tys13, tys14, tys15, tys16, tys17, tys18, tys19, tys20, tys21, tys22, tys23, Try.ntmps131, Try.results131]
  exact Fin.eq rfl rfl
theorem closGe_ok (x : Int) (a : Fr) : Ct Try.prog 132 [.agg [.int .i64 a.1, .int .i64 a.2], .rptr (.agg [.int .i64 x]) 0] [] (.bool (geB x a)) [] := by
  refine Ct.by_ hmix [] Try.func132 rfl ?_
  simp only [run0, run1, run2, run3, run4, run5, run6, run7, run8, run9, run10, run11, run12, run13, run14, run15, run16, run17, run18, run19, run20, run21, run22, reduceCtorEq, Nat.reduceEqDiff, Nat.reduceAdd, Nat.reduceSub, Nat.reduceLeDiff, indexAddrA, indexRefA, appendA, strA, Nat.reduceMul, Nat.zero_mul, Nat.reduceMod, Int.reduceEq, Int.reduceLT, Int.reduceLE, Nat.reduceLT, Nat.lt_irrefl, Nat.reduceBEq, tys0, tys1, tys2, tys3, tys4, tys5, tys6, tys7, tys8, tys9, tys10, tys11, tys12, tys13, tys14, tys15, tys16, tys17, tys18, tys19, tys20, tys21, tys22, tys23, Try.ntmps132, Try.results132]
  exact Fin.eq rfl rfl

theorem wkRun_word (f : Int → Int) : ∀ (k : Nat) (i : Wk), i.word.size ≤ 20 → (wkRun f k i).word.size ≤ 20
  | 0, i, h => h
  | k + 1, i, h => by
    unfold wkRun
    split
    · exact h
    · rename_i hn
      split
      · exact wkRun_word f k _ (by simp only [size_plus]; omega)
      · exact wkRun_word f k _ (by simp only [size_minus]; omega)
theorem cut_small (l r : List Fr) : (cutX l r).natAbs ≤ 50000000 ∧ ∃ n y, (wkRun (cutS l r) 21 wk0).nums = n ++ [y] ∧ n.length ≤ 1000 ∧ cutX l r = y := by
  obtain ⟨n, y, hl⟩ := wkRun_last (cutS l r) 21 wk0 (.inl (by omega))
  have hsz := wkRun_size (cutS l r) 21 wk0
  have hy : cutX l r = y := by unfold cutX; rw [hl]; simp
  rw [hl] at hsz
  have h1 : n.length ≤ 1000 := by simp [wk0] at hsz; omega
  refine ⟨?_, n, y, hl, h1, hy⟩
  have h2 := wkRun_at (cutS l r) (cutS_val l r) (wkRun (cutS l r) 21 wk0).word 21 0 rfl (by omega)
  have h3 := h2 rfl
  have e0 : atWk (wkRun (cutS l r) 21 wk0).word 0 = wk0 := rfl
  rw [e0] at h3
  have hws : (wkRun (cutS l r) 21 wk0).word.size ≤ 20 := wkRun_word _ _ _ (by decide)
  have hl2 := hl
  rw [h3] at hl2
  simp only at hl2
  have hx : y = (atWk (wkRun (cutS l r) 21 wk0).word (wkRun (cutS l r) 21 wk0).word.size).x := by
    have := congrArg List.getLast? hl2
    simp at this
    exact this.symm
  rw [hy, hx]
  exact atWk_small _ _ hws

theorem simplest_ok (l r : List Fr) (hl : l.length ≤ 1048576) (hr : r.length ≤ 1048576) : Ct Try.prog 84 [.sl false (l.map frE), .sl false (r.map frE)] [] (simR l r) [] := by
  have pl := frs_pure l
  have pr := frs_pure r
  obtain ⟨hx, n, y, hn, hnl, hxy⟩ := cut_small l r
  have hw := walk_ok 130 [.rptr (.agg [.sl false (l.map frE)]) 0, .rptr (.agg [.sl false (r.map frE)]) 0] (cutS l r) (closCut_ok l r hl hr) (by simp only [pureL, pureB, pl, pr, Bool.and_self]) ok_f130
  have hbad : cutBad l r = (l.any (leB (cutX l r)) || r.any (geB (cutX l r))) := rfl
  have h2 := last_wrap hnl
  have h3 : ((n.length : Int) < ((n.length + 1 : Nat) : Int)) := by omega
  unfold simR
  rw [hbad]
  rw [hxy] at hx ⊢
  clear hxy hbad
  generalize wkRun (cutS l r) 21 wk0 = j at *
  obtain ⟨nums, word, low, high, x⟩ := j
  simp only at hn
  subst hn
  refine Ct.by_ hmix [] Try.func84 rfl ?_
  simp only [run0, run1, run2, run3, run4, run5, run6, run7, run8, run9, run10, run11, run12, run13, run14, run15, run16, run17, run18, run19, run20, run21, run22, reduceCtorEq, Nat.reduceEqDiff, Nat.reduceAdd, Nat.reduceSub, Nat.reduceLeDiff, indexAddrA, indexRefA, appendA, strA, Nat.reduceMul, Nat.zero_mul, Nat.reduceMod, Int.reduceEq, Int.reduceLT, Int.reduceLE, Nat.reduceLT, Nat.lt_irrefl, Nat.reduceBEq, tys0, tys1, tys2, tys3, tys4, tys5, tys6, tys7, tys8, tys9, tys10, tys11, tys12, tys13, tys14, tys15, tys16, tys17, tys18, tys19, tys20, tys21, tys22, tys23, Try.ntmps84, Try.results84]
  refine RunL.lendOwn (ys := [.fn 130 [.rptr (.agg [.sl false (l.map frE)]) 0, .rptr (.agg [.sl false (r.map frE)]) 0]]) rfl rfl rfl ok_f119 rfl ?_ hw rfl (by simp [wkL, okO, noOwn, ints, AV.cells, flatB]) ?_
  · simp [St.ev, lendA, pureL, pureB, pl, pr]
  simp only [run0, run1, run2, run3, run4, run5, run6, run7, run8, run9, run10, run11, run12, run13, run14, run15, run16, run17, run18, run19, run20, run21, run22, reduceCtorEq, Nat.reduceEqDiff, Nat.reduceAdd, Nat.reduceSub, Nat.reduceLeDiff, indexAddrA, indexRefA, appendA, strA, Nat.reduceMul, Nat.zero_mul, Nat.reduceMod, Int.reduceEq, Int.reduceLT, Int.reduceLE, Nat.reduceLT, Nat.lt_irrefl, Nat.reduceBEq, tys0, tys1, tys2, tys3, tys4, tys5, tys6, tys7, tys8, tys9, tys10, tys11, tys12, tys13, tys14, tys15, tys16, tys17, tys18, tys19, tys20, tys21, tys22, tys23, Try.ntmps84, Try.results84, shR, sh1, wkL, wkR, h2, h3, Int.natCast_nonneg, Int.toNat_natCast, ints_at, List.mapIdx_cons, List.mapIdx_nil, viewC]
  refine RunL.lendV (ys := [.sl false (l.map frE), .fn 131 [.rptr (.agg [.int .i64 y]) 0]]) rfl rfl ok_f128 rfl (containsFr_ok _ _ (leB y) (closLe_ok y) rfl ok_f131 l hl) (.cons (.pur (.of (by simp only [pureB, pl]))) (.cons (Vw.fn (.cons (Vw.ptr rfl rfl) .nil)) .nil)) rfl rfl ?_
  cases hb1 : l.any (leB y)
  · simp only [run0, run1, run2, run3, run4, run5, run6, run7, run8, run9, run10, run11, run12, run13, run14, run15, run16, run17, run18, run19, run20, run21, run22, reduceCtorEq, Nat.reduceEqDiff, Nat.reduceAdd, Nat.reduceSub, Nat.reduceLeDiff, indexAddrA, indexRefA, appendA, strA, Nat.reduceMul, Nat.zero_mul, Nat.reduceMod, Int.reduceEq, Int.reduceLT, Int.reduceLE, Nat.reduceLT, Nat.lt_irrefl, Nat.reduceBEq, tys0, tys1, tys2, tys3, tys4, tys5, tys6, tys7, tys8, tys9, tys10, tys11, tys12, tys13, tys14, tys15, tys16, tys17, tys18, tys19, tys20, tys21, tys22, tys23, Try.ntmps84, Try.results84]
    refine RunL.lendV (ys := [.sl false (r.map frE), .fn 132 [.rptr (.agg [.int .i64 y]) 0]]) rfl rfl ok_f128 rfl (containsFr_ok _ _ (geB y) (closGe_ok y) rfl ok_f132 r hr) (.cons (.pur (.of (by simp only [pureB, pr]))) (.cons (Vw.fn (.cons (Vw.ptr rfl rfl) .nil)) .nil)) rfl rfl ?_
    cases hb2 : r.any (geB y)
    · simp only [run0, run1, run2, run3, run4, run5, run6, run7, run8, run9, run10, run11, run12, run13, run14, run15, run16, run17, run18, run19, run20, run21, run22, reduceCtorEq, Nat.reduceEqDiff, Nat.reduceAdd, Nat.reduceSub, Nat.reduceLeDiff, indexAddrA, indexRefA, appendA, strA, Nat.reduceMul, Nat.zero_mul, Nat.reduceMod, Int.reduceEq, Int.reduceLT, Int.reduceLE, Nat.reduceLT, Nat.lt_irrefl, Nat.reduceBEq, tys0, tys1, tys2, tys3, tys4, tys5, tys6, tys7, tys8, tys9, tys10, tys11, tys12, tys13, tys14, tys15, tys16, tys17, tys18, tys19, tys20, tys21, tys22, tys23, Try.ntmps84, Try.results84]
      refine RunL.callp rfl rfl ok_f133 (fromUnits_ok y hx) (by first | rfl | simp only [pureL, pureB, Bool.and_self, Bool.and_true, Bool.true_and]) rfl ?_
      simp only [run0, run1, run2, run3, run4, run5, run6, run7, run8, run9, run10, run11, run12, run13, run14, run15, run16, run17, run18, run19, run20, run21, run22, reduceCtorEq, Nat.reduceEqDiff, Nat.reduceAdd, Nat.reduceSub, Nat.reduceLeDiff, indexAddrA, indexRefA, appendA, strA, Nat.reduceMul, Nat.zero_mul, Nat.reduceMod, Int.reduceEq, Int.reduceLT, Int.reduceLE, Nat.reduceLT, Nat.lt_irrefl, Nat.reduceBEq, tys0, tys1, tys2, tys3, tys4, tys5, tys6, tys7, tys8, tys9, tys10, tys11, tys12, tys13, tys14, tys15, tys16, tys17, tys18, tys19, tys20, tys21, tys22, tys23, Try.ntmps84, Try.results84, fr]
      exact Fin.eq rfl rfl
    · simp only [run0, run1, run2, run3, run4, run5, run6, run7, run8, run9, run10, run11, run12, run13, run14, run15, run16, run17, run18, run19, run20, run21, run22, reduceCtorEq, Nat.reduceEqDiff, Nat.reduceAdd, Nat.reduceSub, Nat.reduceLeDiff, indexAddrA, indexRefA, appendA, strA, Nat.reduceMul, Nat.zero_mul, Nat.reduceMod, Int.reduceEq, Int.reduceLT, Int.reduceLE, Nat.reduceLT, Nat.lt_irrefl, Nat.reduceBEq, tys0, tys1, tys2, tys3, tys4, tys5, tys6, tys7, tys8, tys9, tys10, tys11, tys12, tys13, tys14, tys15, tys16, tys17, tys18, tys19, tys20, tys21, tys22, tys23, Try.ntmps84, Try.results84]
      exact Fin.eq rfl rfl
  · simp only [run0, run1, run2, run3, run4, run5, run6, run7, run8, run9, run10, run11, run12, run13, run14, run15, run16, run17, run18, run19, run20, run21, run22, reduceCtorEq, Nat.reduceEqDiff, Nat.reduceAdd, Nat.reduceSub, Nat.reduceLeDiff, indexAddrA, indexRefA, appendA, strA, Nat.reduceMul, Nat.zero_mul, Nat.reduceMod, Int.reduceEq, Int.reduceLT, Int.reduceLE, Nat.reduceLT, Nat.lt_irrefl, Nat.reduceBEq, tys0, tys1, tys2, tys3, tys4, tys5, tys6, tys7, tys8, tys9, tys10, tys11, tys12, tys13, tys14, tys15, tys16, tys17, tys18, tys19, tys20, tys21, tys22, tys23, Try.ntmps84, Try.results84]
    exact Fin.eq rfl rfl

end Go.Proofs.Ytllcljajlemmaaa
