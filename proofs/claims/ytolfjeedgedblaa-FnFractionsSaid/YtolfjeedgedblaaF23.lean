/-
  The draws: a cursor over bytes.
-/
import Derived.Test.YtolfjeedgedblaaF19
namespace Go.Proofs.Ytolfjeedgedblaa
open Go K
set_option linter.unusedSimpArgs false
set_option linter.unusedVariables false
set_option maxHeartbeats 1600000
set_option maxRecDepth 8000

def bytesV (l : List Int) : List AV := l.map (AV.int .u8)
def bytesOk (l : List Int) : Prop := l.length ≤ 1048576 ∧ ∀ b ∈ l, 0 ≤ b ∧ b ≤ 255
def curB (code : List Int) (p seed : Int) : AObj := .box 64 [.sl false (bytesV code), .int .i64 p, .int .u64 seed]
def nextS (seed b : Int) : Int := IntKind.u64.wrap (IntKind.u64.wrap (IntKind.u64.wrap (seed * 6364136223846793005) + IntKind.u64.wrap b) + 1442695040888963407)
theorem and_255 (x : Int) : 0 ≤ Go.bits .and .u64 x 255 ∧ Go.bits .and .u64 x 255 ≤ 255 := by
  have h : ((BitVec.ofInt 64 x) &&& (BitVec.ofInt 64 255)).toNat ≤ 255 := by
    rw [BitVec.toNat_and]; exact Nat.and_le_right
  have e : Go.bits .and .u64 x 255 = IntKind.u64.wrap ((((BitVec.ofInt 64 x) &&& (BitVec.ofInt 64 255)).toNat : Nat) : Int) := rfl
  generalize ((BitVec.ofInt 64 x) &&& (BitVec.ofInt 64 255)).toNat = n at *
  have e2 : IntKind.u64.wrap (n : Int) = (n : Int) % 18446744073709551616 := rfl
  rw [e, e2]
  omega

theorem conv_u64 (x : Int) : convA Try.prog 3 62 (.int .i64 x) = some (.int .u64 (IntKind.u64.wrap x)) := by
  simp only [convA, Try.underlying3, Try.underlying62]
theorem conv_i64 (x : Int) : convA Try.prog 62 3 (.int .u64 x) = some (.int .i64 (IntKind.i64.wrap x)) := by
  simp only [convA, Try.underlying3, Try.underlying62]
theorem next_ok (code : List Int) (hc : bytesOk code) (p : Nat) (hp : p ≤ 1000000000) (seed : Int) (L : List AObj) (id : Nat) (hL : L[id]? = some (curB code p seed)) :
    ∃ r seed', (0 ≤ r ∧ r ≤ 255) ∧ Ct Try.prog 90 [.ptr id 0] L (.int .i64 r) (L.set id (curB code ((p + 1 : Nat) : Int) seed')) := by
  obtain ⟨hlen, hb⟩ := hc
  have hidl := (List.getElem?_eq_some_iff.1 hL).1
  have hget : ∀ X, (L.set id X)[id]? = some X := fun X => List.getElem?_set_self hidl
  have e5 : IntKind.i64.wrap ((p : Int) + 1) = ((p + 1 : Nat) : Int) := by
    have := w64_id (x := (p : Int) + 1) (by omega) (by omega)
    simp only [w64] at this
    rw [this]; simp
  have hbl : (bytesV code).length = code.length := by simp [bytesV]
  unfold curB at hL
  by_cases h : p < code.length
  · have e1 : (p : Int) < (code.length : Int) := by omega
    have e3 : ((p + 1 : Nat) : Int) ≤ (code.length : Int) := by omega
    have e2 : (bytesV code)[p]? = some (.int .u8 code[p]) := by simp [bytesV, h]
    obtain ⟨b0, b1⟩ := hb code[p] (List.getElem_mem h)
    generalize code[p] = b at *
    have e4 : IntKind.i64.wrap b = b := by
      have := w64_id (x := b) (by omega) (by omega)
      simp only [w64] at this
      exact this
    refine ⟨b, nextS seed b, ⟨b0, b1⟩, ?_⟩
    refine Ct.by_ hmix [] Try.func90 rfl ?_
    simp only [run0, run1, run2, run3, run4, run5, run6, run7, run8, run9, run10, run11, run12, run13, run14, run15, run16, run17, run18, run19, run20, run21, run22, reduceCtorEq, Nat.reduceEqDiff, Nat.reduceAdd, Nat.reduceSub, Nat.reduceLeDiff, indexAddrA, indexRefA, appendA, strA, Nat.reduceMul, Nat.zero_mul, Nat.reduceMod, Int.reduceEq, Int.reduceLT, Int.reduceLE, Nat.reduceLT, Nat.lt_irrefl, Nat.reduceBEq, tys0, tys1, tys2, tys3, tys4, tys5, tys6, tys7, tys8, tys9, tys10, tys11, Try.ntmps90, Try.results90, hL, hget, hbl, e1, e2, e3, e4, e5, List.set_set, Int.toNat_natCast, Int.natCast_nonneg, conv_u64, conv_i64]
    refine ⟨by kernel_rfl, ?_⟩
    try simp only [run0, run1, run2, run3, run4, run5, run6, run7, run8, run9, run10, run11, run12, run13, run14, run15, run16, run17, run18, run19, run20, run21, run22, reduceCtorEq, Nat.reduceEqDiff, Nat.reduceAdd, Nat.reduceSub, Nat.reduceLeDiff, indexAddrA, indexRefA, appendA, strA, Nat.reduceMul, Nat.zero_mul, Nat.reduceMod, Int.reduceEq, Int.reduceLT, Int.reduceLE, Nat.reduceLT, Nat.lt_irrefl, Nat.reduceBEq, tys0, tys1, tys2, tys3, tys4, tys5, tys6, tys7, tys8, tys9, tys10, tys11, Try.ntmps90, Try.results90, hL, hget, hbl, e1, e2, e3, e4, e5, List.set_set, Int.toNat_natCast, Int.natCast_nonneg, conv_u64, conv_i64]
    refine ⟨by kernel_rfl, ?_⟩
    try simp only [run0, run1, run2, run3, run4, run5, run6, run7, run8, run9, run10, run11, run12, run13, run14, run15, run16, run17, run18, run19, run20, run21, run22, reduceCtorEq, Nat.reduceEqDiff, Nat.reduceAdd, Nat.reduceSub, Nat.reduceLeDiff, indexAddrA, indexRefA, appendA, strA, Nat.reduceMul, Nat.zero_mul, Nat.reduceMod, Int.reduceEq, Int.reduceLT, Int.reduceLE, Nat.reduceLT, Nat.lt_irrefl, Nat.reduceBEq, tys0, tys1, tys2, tys3, tys4, tys5, tys6, tys7, tys8, tys9, tys10, tys11, Try.ntmps90, Try.results90, hL, hget, hbl, e1, e2, e3, e4, e5, List.set_set, Int.toNat_natCast, Int.natCast_nonneg, conv_u64, conv_i64]
    refine ⟨by kernel_rfl, ?_⟩
    try simp only [run0, run1, run2, run3, run4, run5, run6, run7, run8, run9, run10, run11, run12, run13, run14, run15, run16, run17, run18, run19, run20, run21, run22, reduceCtorEq, Nat.reduceEqDiff, Nat.reduceAdd, Nat.reduceSub, Nat.reduceLeDiff, indexAddrA, indexRefA, appendA, strA, Nat.reduceMul, Nat.zero_mul, Nat.reduceMod, Int.reduceEq, Int.reduceLT, Int.reduceLE, Nat.reduceLT, Nat.lt_irrefl, Nat.reduceBEq, tys0, tys1, tys2, tys3, tys4, tys5, tys6, tys7, tys8, tys9, tys10, tys11, Try.ntmps90, Try.results90, hL, hget, hbl, e1, e2, e3, e4, e5, List.set_set, Int.toNat_natCast, Int.natCast_nonneg, conv_u64, conv_i64]
    refine ⟨by kernel_rfl, ?_⟩
    exact Fin.own rfl rfl
  · have e1 : ¬ (p : Int) < (code.length : Int) := by omega
    have e3 : ¬ ((p + 1 : Nat) : Int) ≤ (code.length : Int) := by omega
    obtain ⟨a1, a2⟩ := and_255 ((nextS seed 0).fdiv (2 ^ min (40 : Int).toNat IntKind.u64.bits))
    have e4 : IntKind.i64.wrap (Go.bits .and .u64 ((nextS seed 0).fdiv (2 ^ min (40 : Int).toNat IntKind.u64.bits)) 255) = Go.bits .and .u64 ((nextS seed 0).fdiv (2 ^ min (40 : Int).toNat IntKind.u64.bits)) 255 := by
      have := w64_id (x := Go.bits .and .u64 ((nextS seed 0).fdiv (2 ^ min (40 : Int).toNat IntKind.u64.bits)) 255) (by omega) (by omega)
      simp only [w64] at this
      exact this
    refine ⟨IntKind.i64.wrap (Go.bits .and .u64 ((nextS seed 0).fdiv (2 ^ min (40 : Int).toNat IntKind.u64.bits)) 255), nextS seed 0, by rw [e4]; exact ⟨a1, a2⟩, ?_⟩
    refine Ct.by_ hmix [] Try.func90 rfl ?_
    simp only [run0, run1, run2, run3, run4, run5, run6, run7, run8, run9, run10, run11, run12, run13, run14, run15, run16, run17, run18, run19, run20, run21, run22, reduceCtorEq, Nat.reduceEqDiff, Nat.reduceAdd, Nat.reduceSub, Nat.reduceLeDiff, indexAddrA, indexRefA, appendA, strA, Nat.reduceMul, Nat.zero_mul, Nat.reduceMod, Int.reduceEq, Int.reduceLT, Int.reduceLE, Nat.reduceLT, Nat.lt_irrefl, Nat.reduceBEq, tys0, tys1, tys2, tys3, tys4, tys5, tys6, tys7, tys8, tys9, tys10, tys11, Try.ntmps90, Try.results90, hL, hget, hbl, e1, e3, e5, List.set_set, Int.toNat_natCast, Int.natCast_nonneg, conv_u64, conv_i64]
    refine ⟨by kernel_rfl, ?_⟩
    try simp only [run0, run1, run2, run3, run4, run5, run6, run7, run8, run9, run10, run11, run12, run13, run14, run15, run16, run17, run18, run19, run20, run21, run22, reduceCtorEq, Nat.reduceEqDiff, Nat.reduceAdd, Nat.reduceSub, Nat.reduceLeDiff, indexAddrA, indexRefA, appendA, strA, Nat.reduceMul, Nat.zero_mul, Nat.reduceMod, Int.reduceEq, Int.reduceLT, Int.reduceLE, Nat.reduceLT, Nat.lt_irrefl, Nat.reduceBEq, tys0, tys1, tys2, tys3, tys4, tys5, tys6, tys7, tys8, tys9, tys10, tys11, Try.ntmps90, Try.results90, hL, hget, hbl, e1, e3, e5, List.set_set, Int.toNat_natCast, Int.natCast_nonneg, conv_u64, conv_i64]
    refine ⟨by kernel_rfl, ?_⟩
    try simp only [run0, run1, run2, run3, run4, run5, run6, run7, run8, run9, run10, run11, run12, run13, run14, run15, run16, run17, run18, run19, run20, run21, run22, reduceCtorEq, Nat.reduceEqDiff, Nat.reduceAdd, Nat.reduceSub, Nat.reduceLeDiff, indexAddrA, indexRefA, appendA, strA, Nat.reduceMul, Nat.zero_mul, Nat.reduceMod, Int.reduceEq, Int.reduceLT, Int.reduceLE, Nat.reduceLT, Nat.lt_irrefl, Nat.reduceBEq, tys0, tys1, tys2, tys3, tys4, tys5, tys6, tys7, tys8, tys9, tys10, tys11, Try.ntmps90, Try.results90, hL, hget, hbl, e1, e3, e5, List.set_set, Int.toNat_natCast, Int.natCast_nonneg, conv_u64, conv_i64]
    exact Fin.own rfl rfl

theorem tmod_rng {x n : Int} (hx : 0 ≤ x) (hn : 0 < n) : 0 ≤ x.tmod n ∧ x.tmod n < n :=
  ⟨Int.tmod_nonneg _ hx, Int.tmod_lt_of_pos _ hn⟩
theorem pick_ok (code : List Int) (hc : bytesOk code) (p : Nat) (hp : p ≤ 900000000) (seed n : Int) (hn : 1 < n) (hn2 : n ≤ 1000000) (L : List AObj) (id : Nat) (hL : L[id]? = some (curB code p seed)) :
    ∃ (r : Int) (p' : Nat) (seed' : Int), (0 ≤ r ∧ r < n) ∧ p' ≤ p + 2 ∧ Ct Try.prog 82 [.ptr id 0, .int .i64 n] L (.int .i64 r) (L.set id (curB code p' seed')) := by
  have hidl := (List.getElem?_eq_some_iff.1 hL).1
  have hget : ∀ X, (L.set id X)[id]? = some X := fun X => List.getElem?_set_self hidl
  obtain ⟨r1, s1, ⟨h1, h2⟩, c1⟩ := next_ok code hc p (by omega) seed L id hL
  have e1 : ¬ (n ≤ 1) := by omega
  have e0 : ¬ (n = 0) := by omega
  by_cases hbig : 200 < n
  · obtain ⟨r2, s2, ⟨h3, h4⟩, c2⟩ := next_ok code hc (p + 1) (by omega) s1 (L.set id (curB code ((p + 1 : Nat) : Int) s1)) id (hget _)
    obtain ⟨t1, t2⟩ := tmod_rng (x := r1 * 256 + r2) (n := n) (by omega) (by omega)
    have e2 : IntKind.i64.wrap (r1 * 256) = r1 * 256 := w64_id (by omega) (by omega)
    have e3 : IntKind.i64.wrap (r1 * 256 + r2) = r1 * 256 + r2 := w64_id (by omega) (by omega)
    refine ⟨(r1 * 256 + r2).tmod n, p + 1 + 1, s2, ⟨t1, t2⟩, by omega, ?_⟩
    rw [List.set_set] at c2
    refine Ct.by_ hmix [] Try.func82 rfl ?_
    simp only [run0, run1, run2, run3, run4, run5, run6, run7, run8, run9, run10, run11, run12, run13, run14, run15, run16, run17, run18, run19, run20, run21, run22, reduceCtorEq, Nat.reduceEqDiff, Nat.reduceAdd, Nat.reduceSub, Nat.reduceLeDiff, indexAddrA, indexRefA, appendA, strA, Nat.reduceMul, Nat.zero_mul, Nat.reduceMod, Int.reduceEq, Int.reduceLT, Int.reduceLE, Nat.reduceLT, Nat.lt_irrefl, Nat.reduceBEq, tys0, tys1, tys2, tys3, tys4, tys5, tys6, tys7, tys8, tys9, tys10, tys11, Try.ntmps82, Try.results82, e1]
    refine RunL.callM rfl rfl ok_f90 rfl rfl c1 rfl ?_
    simp only [run0, run1, run2, run3, run4, run5, run6, run7, run8, run9, run10, run11, run12, run13, run14, run15, run16, run17, run18, run19, run20, run21, run22, reduceCtorEq, Nat.reduceEqDiff, Nat.reduceAdd, Nat.reduceSub, Nat.reduceLeDiff, indexAddrA, indexRefA, appendA, strA, Nat.reduceMul, Nat.zero_mul, Nat.reduceMod, Int.reduceEq, Int.reduceLT, Int.reduceLE, Nat.reduceLT, Nat.lt_irrefl, Nat.reduceBEq, tys0, tys1, tys2, tys3, tys4, tys5, tys6, tys7, tys8, tys9, tys10, tys11, Try.ntmps82, Try.results82, hbig, e2]
    refine RunL.callM rfl rfl ok_f90 rfl rfl c2 rfl ?_
    simp only [run0, run1, run2, run3, run4, run5, run6, run7, run8, run9, run10, run11, run12, run13, run14, run15, run16, run17, run18, run19, run20, run21, run22, reduceCtorEq, Nat.reduceEqDiff, Nat.reduceAdd, Nat.reduceSub, Nat.reduceLeDiff, indexAddrA, indexRefA, appendA, strA, Nat.reduceMul, Nat.zero_mul, Nat.reduceMod, Int.reduceEq, Int.reduceLT, Int.reduceLE, Nat.reduceLT, Nat.lt_irrefl, Nat.reduceBEq, tys0, tys1, tys2, tys3, tys4, tys5, tys6, tys7, tys8, tys9, tys10, tys11, Try.ntmps82, Try.results82, e3, e0]
    exact Fin.own rfl rfl
  · obtain ⟨t1, t2⟩ := tmod_rng (x := r1) (n := n) (by omega) (by omega)
    refine ⟨r1.tmod n, p + 1, s1, ⟨t1, t2⟩, by omega, ?_⟩
    refine Ct.by_ hmix [] Try.func82 rfl ?_
    simp only [run0, run1, run2, run3, run4, run5, run6, run7, run8, run9, run10, run11, run12, run13, run14, run15, run16, run17, run18, run19, run20, run21, run22, reduceCtorEq, Nat.reduceEqDiff, Nat.reduceAdd, Nat.reduceSub, Nat.reduceLeDiff, indexAddrA, indexRefA, appendA, strA, Nat.reduceMul, Nat.zero_mul, Nat.reduceMod, Int.reduceEq, Int.reduceLT, Int.reduceLE, Nat.reduceLT, Nat.lt_irrefl, Nat.reduceBEq, tys0, tys1, tys2, tys3, tys4, tys5, tys6, tys7, tys8, tys9, tys10, tys11, Try.ntmps82, Try.results82, e1]
    refine RunL.callM rfl rfl ok_f90 rfl rfl c1 rfl ?_
    simp only [run0, run1, run2, run3, run4, run5, run6, run7, run8, run9, run10, run11, run12, run13, run14, run15, run16, run17, run18, run19, run20, run21, run22, reduceCtorEq, Nat.reduceEqDiff, Nat.reduceAdd, Nat.reduceSub, Nat.reduceLeDiff, indexAddrA, indexRefA, appendA, strA, Nat.reduceMul, Nat.zero_mul, Nat.reduceMod, Int.reduceEq, Int.reduceLT, Int.reduceLE, Nat.reduceLT, Nat.lt_irrefl, Nat.reduceBEq, tys0, tys1, tys2, tys3, tys4, tys5, tys6, tys7, tys8, tys9, tys10, tys11, Try.ntmps82, Try.results82, hbig, e0]
    exact Fin.own rfl rfl

theorem among_ok (l : List Int) (o : Bool) (h1 : 1 < l.length) (h2 : l.length ≤ 100) (code : List Int) (hc : bytesOk code) (p : Nat) (hp : p ≤ 900000000) (seed : Int) (L : List AObj) (id : Nat) (hL : L[id]? = some (curB code p seed)) :
    ∃ (r : Int) (p' : Nat) (seed' : Int), r ∈ l ∧ p' ≤ p + 2 ∧ Ct Try.prog 84 [.ptr id 0, .sl o (ints l)] L (.int .i64 r) (L.set id (curB code p' seed')) := by
  obtain ⟨r, p', s', ⟨k1, k2⟩, k3, c1⟩ := pick_ok code hc p hp seed l.length (by omega) (by omega) L id hL
  obtain ⟨i, rfl⟩ := Int.eq_ofNat_of_zero_le k1
  have hi : i < l.length := by omega
  have e2 : (ints l)[i]? = some (.int .i64 l[i]) := by simp [hi]
  have e3 : (i : Int) < (l.length : Int) := by omega
  refine ⟨l[i], p', s', List.getElem_mem hi, k3, ?_⟩
  refine Ct.by_ hmix [] Try.func84 rfl ?_
  simp only [run0, run1, run2, run3, run4, run5, run6, run7, run8, run9, run10, run11, run12, run13, run14, run15, run16, run17, run18, run19, run20, run21, run22, reduceCtorEq, Nat.reduceEqDiff, Nat.reduceAdd, Nat.reduceSub, Nat.reduceLeDiff, indexAddrA, indexRefA, appendA, strA, Nat.reduceMul, Nat.zero_mul, Nat.reduceMod, Int.reduceEq, Int.reduceLT, Int.reduceLE, Nat.reduceLT, Nat.lt_irrefl, Nat.reduceBEq, tys0, tys1, tys2, tys3, tys4, tys5, tys6, tys7, tys8, tys9, tys10, tys11, Try.ntmps84, Try.results84]
  refine RunL.callM rfl rfl ok_f82 rfl rfl c1 rfl ?_
  simp only [run0, run1, run2, run3, run4, run5, run6, run7, run8, run9, run10, run11, run12, run13, run14, run15, run16, run17, run18, run19, run20, run21, run22, reduceCtorEq, Nat.reduceEqDiff, Nat.reduceAdd, Nat.reduceSub, Nat.reduceLeDiff, indexAddrA, indexRefA, appendA, strA, Nat.reduceMul, Nat.zero_mul, Nat.reduceMod, Int.reduceEq, Int.reduceLT, Int.reduceLE, Nat.reduceLT, Nat.lt_irrefl, Nat.reduceBEq, tys0, tys1, tys2, tys3, tys4, tys5, tys6, tys7, tys8, tys9, tys10, tys11, Try.ntmps84, Try.results84, e2, e3, Int.toNat_natCast, Int.natCast_nonneg]
  exact Fin.own rfl rfl

theorem of_ok (l : List ByteArray) (o : Bool) (h1 : 1 < l.length) (h2 : l.length ≤ 100) (code : List Int) (hc : bytesOk code) (p : Nat) (hp : p ≤ 900000000) (seed : Int) (L : List AObj) (id : Nat) (hL : L[id]? = some (curB code p seed)) :
    ∃ (r : ByteArray) (p' : Nat) (seed' : Int), r ∈ l ∧ p' ≤ p + 2 ∧ Ct Try.prog 91 [.ptr id 0, .sl o (l.map AV.str)] L (.str r) (L.set id (curB code p' seed')) := by
  obtain ⟨r, p', s', ⟨k1, k2⟩, k3, c1⟩ := pick_ok code hc p hp seed l.length (by omega) (by omega) L id hL
  obtain ⟨i, rfl⟩ := Int.eq_ofNat_of_zero_le k1
  have hi : i < l.length := by omega
  have e2 : (l.map AV.str)[i]? = some (.str l[i]) := by simp [hi]
  have e3 : (i : Int) < (l.length : Int) := by omega
  refine ⟨l[i], p', s', List.getElem_mem hi, k3, ?_⟩
  refine Ct.by_ hmix [] Try.func91 rfl ?_
  simp only [run0, run1, run2, run3, run4, run5, run6, run7, run8, run9, run10, run11, run12, run13, run14, run15, run16, run17, run18, run19, run20, run21, run22, reduceCtorEq, Nat.reduceEqDiff, Nat.reduceAdd, Nat.reduceSub, Nat.reduceLeDiff, indexAddrA, indexRefA, appendA, strA, Nat.reduceMul, Nat.zero_mul, Nat.reduceMod, Int.reduceEq, Int.reduceLT, Int.reduceLE, Nat.reduceLT, Nat.lt_irrefl, Nat.reduceBEq, tys0, tys1, tys2, tys3, tys4, tys5, tys6, tys7, tys8, tys9, tys10, tys11, Try.ntmps91, Try.results91]
  refine RunL.callM rfl rfl ok_f82 rfl rfl c1 rfl ?_
  simp only [run0, run1, run2, run3, run4, run5, run6, run7, run8, run9, run10, run11, run12, run13, run14, run15, run16, run17, run18, run19, run20, run21, run22, reduceCtorEq, Nat.reduceEqDiff, Nat.reduceAdd, Nat.reduceSub, Nat.reduceLeDiff, indexAddrA, indexRefA, appendA, strA, Nat.reduceMul, Nat.zero_mul, Nat.reduceMod, Int.reduceEq, Int.reduceLT, Int.reduceLE, Nat.reduceLT, Nat.lt_irrefl, Nat.reduceBEq, tys0, tys1, tys2, tys3, tys4, tys5, tys6, tys7, tys8, tys9, tys10, tys11, Try.ntmps91, Try.results91, e2, e3, Int.toNat_natCast, Int.natCast_nonneg]
  exact Fin.own rfl rfl

theorem callM_ex {P : Program} {k : Oper → Knd} {ops : Array Oper} {Kq : AV → List AObj → St → Prop} {Z : AV → List AObj → Prop} {o : Oper} {rest : List Oper} {s : St} {f : FuncId} {args : Array Operand} {ats : Array TypeId} {r : AV} {L' : List AObj} {xs : List AV}
    (hg : guardA ops s o = some true) (ho : o.op = .call { callee := .value (.func f), args := args, argTypes := ats }) (hf : okFn P f = true) (hkd : Knd.le .C (k o) = true) (hal : isAlloc k o = false)
    (h : Ct P f xs s.L r L') (hx : args.toList.map s.ev = xs) (hk : ∃ r1 L1, R P k ops rest ({ s with L := L' }.put o.dst r) (Kq r1 L1) ∧ Z r1 L1) : ∃ r1 L1, RunL P k ops (o :: rest) s (Kq r1 L1) ∧ Z r1 L1 := by
  obtain ⟨r1, L1, h1, h2⟩ := hk
  exact ⟨r1, L1, RunL.callM hg ho hf hkd hal h hx h1, h2⟩
structure WdS where
  k : Nat
  s : ByteArray
  p : Nat
  seed : Int
theorem word_ok (code : List Int) (hc : bytesOk code) (p : Nat) (hp : p ≤ 800000000) (seed most : Int) (hm : 1 ≤ most) (hm2 : most ≤ 20) (L : List AObj) (id : Nat) (hL : L[id]? = some (curB code p seed)) :
    ∃ (s : ByteArray) (p' : Nat) (seed' : Int), s.size ≤ 20 ∧ p' ≤ p + 100 ∧ Ct Try.prog 85 [.ptr id 0, .int .i64 most] L (.str s) (L.set id (curB code p' seed')) := by
  have hidl := (List.getElem?_eq_some_iff.1 hL).1
  have hget : ∀ X, (L.set id X)[id]? = some X := fun X => List.getElem?_set_self hidl
  obtain ⟨r, p1, s1, ⟨k1, k2⟩, k3, c1⟩ := pick_ok code hc p (by omega) seed (most + 1) (by omega) (by omega) L id hL
  obtain ⟨n, rfl⟩ := Int.eq_ofNat_of_zero_le k1
  have w1 : IntKind.i64.wrap (most + 1) = most + 1 := w64_id (by omega) (by omega)
  suffices h : ∃ r L', Ct Try.prog 85 [.ptr id 0, .int .i64 most] L r L' ∧ ∃ (s : ByteArray) (p' : Nat) (seed' : Int), s.size ≤ 20 ∧ p' ≤ p + 100 ∧ r = .str s ∧ L' = L.set id (curB code p' seed') by
    obtain ⟨r, L', h1, s, p', seed', h2, h3, rfl, rfl⟩ := h
    exact ⟨s, p', seed', h2, h3, h1⟩
  refine Ct.ex hmix [] Try.func85 rfl ?_
  simp only [run0, run1, run2, run3, run4, run5, run6, run7, run8, run9, run10, run11, run12, run13, run14, run15, run16, run17, run18, run19, run20, run21, run22, reduceCtorEq, Nat.reduceEqDiff, Nat.reduceAdd, Nat.reduceSub, Nat.reduceLeDiff, indexAddrA, indexRefA, appendA, strA, Nat.reduceMul, Nat.zero_mul, Nat.reduceMod, Int.reduceEq, Int.reduceLT, Int.reduceLE, Nat.reduceLT, Nat.lt_irrefl, Nat.reduceBEq, tys0, tys1, tys2, tys3, tys4, tys5, tys6, tys7, tys8, tys9, tys10, tys11, Try.ntmps85, Try.results85, w1]
  refine callM_ex rfl rfl ok_f82 rfl rfl c1 rfl ?_
  simp only [run0, run1, run2, run3, run4, run5, run6, run7, run8, run9, run10, run11, run12, run13, run14, run15, run16, run17, run18, run19, run20, run21, run22, reduceCtorEq, Nat.reduceEqDiff, Nat.reduceAdd, Nat.reduceSub, Nat.reduceLeDiff, indexAddrA, indexRefA, appendA, strA, Nat.reduceMul, Nat.zero_mul, Nat.reduceMod, Int.reduceEq, Int.reduceLT, Int.reduceLE, Nat.reduceLT, Nat.lt_irrefl, Nat.reduceBEq, tys0, tys1, tys2, tys3, tys4, tys5, tys6, tys7, tys8, tys9, tys10, tys11, Try.ntmps85, Try.results85]
  refine AWp.loop_exK (ι := WdS) (fun q => ⟨[.ptr id 0, .junk, .junk, .junk, .str ⟨#[]⟩, .str q.s, .int .i64 q.k, .junk, .junk, .junk, .junk, .junk, .junk, .junk, .junk, .junk, .junk, .junk, .junk, .junk, .junk], L.set id (curB code q.p q.seed)⟩)
    (fun q => q.s.size + q.k ≤ 20 ∧ q.p + 2 * q.k ≤ p + 50) (fun q => q.k) ⟨n, ⟨#[]⟩, p1, s1⟩ ⟨by show 0 + n ≤ 20; omega, by simp only; omega⟩ ⟨by repeat constructor, rfl⟩ ?_
  rintro ⟨k, s, q, sd⟩ ⟨h1, h2⟩
  simp only at h1 h2
  cases k with
  | zero =>
    left
    refine ⟨.str s, L.set id (curB code q sd), ?_, s, q, sd, by omega, by omega, rfl, rfl⟩
    refine W.sound hmix (E := []) ?_
    simp only [run0, run1, run2, run3, run4, run5, run6, run7, run8, run9, run10, run11, run12, run13, run14, run15, run16, run17, run18, run19, run20, run21, run22, reduceCtorEq, Nat.reduceEqDiff, Nat.reduceAdd, Nat.reduceSub, Nat.reduceLeDiff, indexAddrA, indexRefA, appendA, strA, Nat.reduceMul, Nat.zero_mul, Nat.reduceMod, Int.reduceEq, Int.reduceLT, Int.reduceLE, Nat.reduceLT, Nat.lt_irrefl, Nat.reduceBEq, tys0, tys1, tys2, tys3, tys4, tys5, tys6, tys7, tys8, tys9, tys10, tys11, Try.ntmps85, Try.results85, Int.natCast_zero, Int.lt_irrefl]
    exact Fin.own rfl rfl
  | succ k =>
    right
    obtain ⟨t, p2, s2, ht, hp2, c2⟩ := of_ok [⟨#[43]⟩, ⟨#[45]⟩, ⟨#[43]⟩] false (by decide) (by decide) code hc q (by omega) sd (L.set id (curB code q sd)) id (hget _)
    rw [List.set_set] at c2
    have htz : t.size = 1 := by
      simp only [List.mem_cons, List.not_mem_nil, or_false] at ht
      rcases ht with rfl | rfl | rfl <;> rfl
    have hsz : (s ++ t).size = s.size + 1 := by rw [ByteArray.size_append, htz]
    refine ⟨⟨k, s ++ t, p2, s2⟩, ⟨by simp only [hsz]; omega, by simp only; omega⟩, by simp only; omega, ?_⟩
    refine W.sound hmix (E := []) ?_
    have e1 : (0 : Int) < ((k + 1 : Nat) : Int) := by omega
    have e2 : IntKind.i64.wrap (((k + 1 : Nat) : Int) - 1) = (k : Int) := by
      have := w64_id (x := ((k + 1 : Nat) : Int) - 1) (by omega) (by omega)
      simp only [w64] at this
      rw [this]; omega
    have b3 : s.size + t.size ≤ 9223372036854775807 := by omega
    simp only [run0, run1, run2, run3, run4, run5, run6, run7, run8, run9, run10, run11, run12, run13, run14, run15, run16, run17, run18, run19, run20, run21, run22, reduceCtorEq, Nat.reduceEqDiff, Nat.reduceAdd, Nat.reduceSub, Nat.reduceLeDiff, indexAddrA, indexRefA, appendA, strA, Nat.reduceMul, Nat.zero_mul, Nat.reduceMod, Int.reduceEq, Int.reduceLT, Int.reduceLE, Nat.reduceLT, Nat.lt_irrefl, Nat.reduceBEq, tys0, tys1, tys2, tys3, tys4, tys5, tys6, tys7, tys8, tys9, tys10, tys11, Try.ntmps85, Try.results85, e1]
    refine RunL.callM rfl rfl ok_f91 rfl rfl c2 rfl ?_
    simp only [run0, run1, run2, run3, run4, run5, run6, run7, run8, run9, run10, run11, run12, run13, run14, run15, run16, run17, run18, run19, run20, run21, run22, reduceCtorEq, Nat.reduceEqDiff, Nat.reduceAdd, Nat.reduceSub, Nat.reduceLeDiff, indexAddrA, indexRefA, appendA, strA, Nat.reduceMul, Nat.zero_mul, Nat.reduceMod, Int.reduceEq, Int.reduceLT, Int.reduceLE, Nat.reduceLT, Nat.lt_irrefl, Nat.reduceBEq, tys0, tys1, tys2, tys3, tys4, tys5, tys6, tys7, tys8, tys9, tys10, tys11, Try.ntmps85, Try.results85, e2, b3]
    repeat constructor

/-- A drawn fraction. -/
theorem fraction_ok (code : List Int) (hc : bytesOk code) (p : Nat) (hp : p ≤ 700000000) (seed : Int) (L : List AObj) (id : Nat) (hL : L[id]? = some (curB code p seed)) :
    ∃ (n d : Int) (p' : Nat) (seed' : Int), p' ≤ p + 1000 ∧ Ct Try.prog 64 [.ptr id 0] L (fr n d) (L.set id (curB code p' seed') ++ [.box 26 [.int .i64 n, .int .i64 d]]) := by
  have hidl := (List.getElem?_eq_some_iff.1 hL).1
  have hget : ∀ X Y, (L.set id X ++ [Y])[id]? = some X := fun X Y => by rw [List.getElem?_append_left (by simpa using hidl)]; exact List.getElem?_set_self hidl
  have hset : ∀ X Y Z, (L.set id X ++ [Y]).set id Z = L.set id Z ++ [Y] := fun X Y Z => by rw [List.set_append_left _ _ (by simpa using hidl), List.set_set]
  have hL0 : (L ++ [AObj.box 26 [.int .i64 0, .int .i64 0]])[id]? = some (curB code p seed) := by rw [List.getElem?_append_left hidl]; exact hL
  have hset0 : ∀ Y Z, (L ++ [Y]).set id Z = L.set id Z ++ [Y] := fun Y Z => by rw [List.set_append_left _ _ hidl]
  have hlen : ∀ X, (L.set id X).length = L.length := fun X => by simp
  obtain ⟨r, p1, s1, ⟨k1, k2⟩, k3, c1⟩ := pick_ok code hc p (by omega) seed 8 (by omega) (by omega) (L ++ [.box 26 [.int .i64 0, .int .i64 0]]) id hL0
  rw [hset0] at c1
  have setX : ∀ X Y Z, (L.set id X ++ [Y]).set L.length Z = L.set id X ++ [Z] := fun X Y Z => by
    rw [List.set_append_right _ _ (by simp), hlen, Nat.sub_self]; rfl
  have getL : ∀ X Y, (L.set id X ++ [Y])[L.length]? = some Y := fun X Y => by
    rw [List.getElem?_append_right (by simp), hlen, Nat.sub_self]; rfl
  by_cases q0 : r = 0
  · have f0 : (r == 0) = true := by simp [q0]
    obtain ⟨r2, p2, s2, ⟨a1, a2⟩, a3, c2⟩ := pick_ok code hc p1 (by omega) s1 41 (by omega) (by omega) _ id (hget (curB code p1 s1) (.box 26 [.int .i64 0, .int .i64 0]))
    rw [hset] at c2
    obtain ⟨r3, p3, s3, ⟨b1, b2⟩, b3, c3⟩ := pick_ok code hc p2 (by omega) s2 30 (by omega) (by omega) _ id (hget (curB code p2 s2) (.box 26 [.int .i64 0, .int .i64 0]))
    rw [hset] at c3
    have e2 : IntKind.i64.wrap (r2 - 20) = r2 - 20 := w64_id (by omega) (by omega)
    have e3 : IntKind.i64.wrap (1 + r3) = 1 + r3 := w64_id (by omega) (by omega)
    have hmk := shMake_ok (r2 - 20) (1 + r3) (by omega) ⟨by omega, by omega⟩
    refine ⟨mkN (r2 - 20) (1 + r3), mkD (r2 - 20) (1 + r3), p3, s3, by omega, ?_⟩
    refine Ct.by_ hmix [] Try.func64 rfl ?_
    simp only [run0, run1, run2, run3, run4, run5, run6, run7, run8, run9, run10, run11, run12, run13, run14, run15, run16, run17, run18, run19, run20, run21, run22, reduceCtorEq, Nat.reduceEqDiff, Nat.reduceAdd, Nat.reduceSub, Nat.reduceLeDiff, indexAddrA, indexRefA, appendA, strA, Nat.reduceMul, Nat.zero_mul, Nat.reduceMod, Int.reduceEq, Int.reduceLT, Int.reduceLE, Nat.reduceLT, Nat.lt_irrefl, Nat.reduceBEq, tys0, tys1, tys2, tys3, tys4, tys5, tys6, tys7, tys8, tys9, tys10, tys11, Try.ntmps64, Try.results64]
    refine RunL.callM rfl rfl ok_f82 rfl rfl c1 rfl ?_
    simp only [run0, run1, run2, run3, run4, run5, run6, run7, run8, run9, run10, run11, run12, run13, run14, run15, run16, run17, run18, run19, run20, run21, run22, reduceCtorEq, Nat.reduceEqDiff, Nat.reduceAdd, Nat.reduceSub, Nat.reduceLeDiff, indexAddrA, indexRefA, appendA, strA, Nat.reduceMul, Nat.zero_mul, Nat.reduceMod, Int.reduceEq, Int.reduceLT, Int.reduceLE, Nat.reduceLT, Nat.lt_irrefl, Nat.reduceBEq, tys0, tys1, tys2, tys3, tys4, tys5, tys6, tys7, tys8, tys9, tys10, tys11, Try.ntmps64, Try.results64, f0]
    refine RunL.callM rfl rfl ok_f82 rfl rfl c2 rfl ?_
    simp only [run0, run1, run2, run3, run4, run5, run6, run7, run8, run9, run10, run11, run12, run13, run14, run15, run16, run17, run18, run19, run20, run21, run22, reduceCtorEq, Nat.reduceEqDiff, Nat.reduceAdd, Nat.reduceSub, Nat.reduceLeDiff, indexAddrA, indexRefA, appendA, strA, Nat.reduceMul, Nat.zero_mul, Nat.reduceMod, Int.reduceEq, Int.reduceLT, Int.reduceLE, Nat.reduceLT, Nat.lt_irrefl, Nat.reduceBEq, tys0, tys1, tys2, tys3, tys4, tys5, tys6, tys7, tys8, tys9, tys10, tys11, Try.ntmps64, Try.results64, e2]
    refine RunL.callM rfl rfl ok_f82 rfl rfl c3 rfl ?_
    simp only [run0, run1, run2, run3, run4, run5, run6, run7, run8, run9, run10, run11, run12, run13, run14, run15, run16, run17, run18, run19, run20, run21, run22, reduceCtorEq, Nat.reduceEqDiff, Nat.reduceAdd, Nat.reduceSub, Nat.reduceLeDiff, indexAddrA, indexRefA, appendA, strA, Nat.reduceMul, Nat.zero_mul, Nat.reduceMod, Int.reduceEq, Int.reduceLT, Int.reduceLE, Nat.reduceLT, Nat.lt_irrefl, Nat.reduceBEq, tys0, tys1, tys2, tys3, tys4, tys5, tys6, tys7, tys8, tys9, tys10, tys11, Try.ntmps64, Try.results64, e3]
    refine RunL.callp rfl rfl ok_f51 (hmk) (by first | rfl | simp only [pureL, pureB, Bool.and_self, Bool.and_true, Bool.true_and]) rfl ?_
    simp only [run0, run1, run2, run3, run4, run5, run6, run7, run8, run9, run10, run11, run12, run13, run14, run15, run16, run17, run18, run19, run20, run21, run22, reduceCtorEq, Nat.reduceEqDiff, Nat.reduceAdd, Nat.reduceSub, Nat.reduceLeDiff, indexAddrA, indexRefA, appendA, strA, Nat.reduceMul, Nat.zero_mul, Nat.reduceMod, Int.reduceEq, Int.reduceLT, Int.reduceLE, Nat.reduceLT, Nat.lt_irrefl, Nat.reduceBEq, tys0, tys1, tys2, tys3, tys4, tys5, tys6, tys7, tys8, tys9, tys10, tys11, Try.ntmps64, Try.results64, fr, hlen, setX, getL]
    exact Fin.own rfl rfl
  have f0 : (r == 0) = false := by simp [q0]
  by_cases q1 : r = 1
  · have f1 : (r == 1) = true := by simp [q1]
    obtain ⟨r2, p2, s2, ⟨a1, a2⟩, a3, c2⟩ := pick_ok code hc p1 (by omega) s1 9 (by omega) (by omega) _ id (hget (curB code p1 s1) (.box 26 [.int .i64 0, .int .i64 0]))
    rw [hset] at c2
    have e2 : IntKind.i64.wrap (r2 - 4) = r2 - 4 := w64_id (by omega) (by omega)
    refine ⟨r2 - 4, 1, p2, s2, by omega, ?_⟩
    refine Ct.by_ hmix [] Try.func64 rfl ?_
    simp only [run0, run1, run2, run3, run4, run5, run6, run7, run8, run9, run10, run11, run12, run13, run14, run15, run16, run17, run18, run19, run20, run21, run22, reduceCtorEq, Nat.reduceEqDiff, Nat.reduceAdd, Nat.reduceSub, Nat.reduceLeDiff, indexAddrA, indexRefA, appendA, strA, Nat.reduceMul, Nat.zero_mul, Nat.reduceMod, Int.reduceEq, Int.reduceLT, Int.reduceLE, Nat.reduceLT, Nat.lt_irrefl, Nat.reduceBEq, tys0, tys1, tys2, tys3, tys4, tys5, tys6, tys7, tys8, tys9, tys10, tys11, Try.ntmps64, Try.results64]
    refine RunL.callM rfl rfl ok_f82 rfl rfl c1 rfl ?_
    simp only [run0, run1, run2, run3, run4, run5, run6, run7, run8, run9, run10, run11, run12, run13, run14, run15, run16, run17, run18, run19, run20, run21, run22, reduceCtorEq, Nat.reduceEqDiff, Nat.reduceAdd, Nat.reduceSub, Nat.reduceLeDiff, indexAddrA, indexRefA, appendA, strA, Nat.reduceMul, Nat.zero_mul, Nat.reduceMod, Int.reduceEq, Int.reduceLT, Int.reduceLE, Nat.reduceLT, Nat.lt_irrefl, Nat.reduceBEq, tys0, tys1, tys2, tys3, tys4, tys5, tys6, tys7, tys8, tys9, tys10, tys11, Try.ntmps64, Try.results64, f0, f1]
    refine RunL.callM rfl rfl ok_f82 rfl rfl c2 rfl ?_
    simp only [run0, run1, run2, run3, run4, run5, run6, run7, run8, run9, run10, run11, run12, run13, run14, run15, run16, run17, run18, run19, run20, run21, run22, reduceCtorEq, Nat.reduceEqDiff, Nat.reduceAdd, Nat.reduceSub, Nat.reduceLeDiff, indexAddrA, indexRefA, appendA, strA, Nat.reduceMul, Nat.zero_mul, Nat.reduceMod, Int.reduceEq, Int.reduceLT, Int.reduceLE, Nat.reduceLT, Nat.lt_irrefl, Nat.reduceBEq, tys0, tys1, tys2, tys3, tys4, tys5, tys6, tys7, tys8, tys9, tys10, tys11, Try.ntmps64, Try.results64, e2]
    refine RunL.callp rfl rfl ok_f83 (shInt_ok (r2 - 4)) (by first | rfl | simp only [pureL, pureB, Bool.and_self, Bool.and_true, Bool.true_and]) rfl ?_
    simp only [run0, run1, run2, run3, run4, run5, run6, run7, run8, run9, run10, run11, run12, run13, run14, run15, run16, run17, run18, run19, run20, run21, run22, reduceCtorEq, Nat.reduceEqDiff, Nat.reduceAdd, Nat.reduceSub, Nat.reduceLeDiff, indexAddrA, indexRefA, appendA, strA, Nat.reduceMul, Nat.zero_mul, Nat.reduceMod, Int.reduceEq, Int.reduceLT, Int.reduceLE, Nat.reduceLT, Nat.lt_irrefl, Nat.reduceBEq, tys0, tys1, tys2, tys3, tys4, tys5, tys6, tys7, tys8, tys9, tys10, tys11, Try.ntmps64, Try.results64, fr, hlen, setX, getL]
    exact Fin.own rfl rfl
  have f1 : (r == 1) = false := by simp [q1]
  by_cases q2 : r = 2
  · have f2 : (r == 2) = true := by simp [q2]
    obtain ⟨r2, p2, s2, _, a3, c2⟩ := among_ok [0, 0, 2, -2, 1000000, -999999, -9223372036854775808, 1000001] false (by decide) (by decide) code hc p1 (by omega) s1 _ id (hget (curB code p1 s1) (.box 26 [.int .i64 0, .int .i64 0]))
    rw [hset] at c2
    obtain ⟨r3, p3, s3, _, b3, c3⟩ := among_ok [1, 1, 1, 3, 1000000, 0, -1, 1000001] false (by decide) (by decide) code hc p2 (by omega) s2 _ id (hget (curB code p2 s2) (.box 26 [.int .i64 0, .int .i64 0]))
    rw [hset] at c3
    refine ⟨r2, r3, p3, s3, by omega, ?_⟩
    refine Ct.by_ hmix [] Try.func64 rfl ?_
    simp only [run0, run1, run2, run3, run4, run5, run6, run7, run8, run9, run10, run11, run12, run13, run14, run15, run16, run17, run18, run19, run20, run21, run22, reduceCtorEq, Nat.reduceEqDiff, Nat.reduceAdd, Nat.reduceSub, Nat.reduceLeDiff, indexAddrA, indexRefA, appendA, strA, Nat.reduceMul, Nat.zero_mul, Nat.reduceMod, Int.reduceEq, Int.reduceLT, Int.reduceLE, Nat.reduceLT, Nat.lt_irrefl, Nat.reduceBEq, tys0, tys1, tys2, tys3, tys4, tys5, tys6, tys7, tys8, tys9, tys10, tys11, Try.ntmps64, Try.results64]
    refine RunL.callM rfl rfl ok_f82 rfl rfl c1 rfl ?_
    simp only [run0, run1, run2, run3, run4, run5, run6, run7, run8, run9, run10, run11, run12, run13, run14, run15, run16, run17, run18, run19, run20, run21, run22, reduceCtorEq, Nat.reduceEqDiff, Nat.reduceAdd, Nat.reduceSub, Nat.reduceLeDiff, indexAddrA, indexRefA, appendA, strA, Nat.reduceMul, Nat.zero_mul, Nat.reduceMod, Int.reduceEq, Int.reduceLT, Int.reduceLE, Nat.reduceLT, Nat.lt_irrefl, Nat.reduceBEq, tys0, tys1, tys2, tys3, tys4, tys5, tys6, tys7, tys8, tys9, tys10, tys11, Try.ntmps64, Try.results64, f0, f1, f2]
    refine RunL.callM rfl rfl ok_f84 rfl rfl c2 rfl ?_
    simp only [run0, run1, run2, run3, run4, run5, run6, run7, run8, run9, run10, run11, run12, run13, run14, run15, run16, run17, run18, run19, run20, run21, run22, reduceCtorEq, Nat.reduceEqDiff, Nat.reduceAdd, Nat.reduceSub, Nat.reduceLeDiff, indexAddrA, indexRefA, appendA, strA, Nat.reduceMul, Nat.zero_mul, Nat.reduceMod, Int.reduceEq, Int.reduceLT, Int.reduceLE, Nat.reduceLT, Nat.lt_irrefl, Nat.reduceBEq, tys0, tys1, tys2, tys3, tys4, tys5, tys6, tys7, tys8, tys9, tys10, tys11, Try.ntmps64, Try.results64]
    refine RunL.callM rfl rfl ok_f84 rfl rfl c3 rfl ?_
    simp only [run0, run1, run2, run3, run4, run5, run6, run7, run8, run9, run10, run11, run12, run13, run14, run15, run16, run17, run18, run19, run20, run21, run22, reduceCtorEq, Nat.reduceEqDiff, Nat.reduceAdd, Nat.reduceSub, Nat.reduceLeDiff, indexAddrA, indexRefA, appendA, strA, Nat.reduceMul, Nat.zero_mul, Nat.reduceMod, Int.reduceEq, Int.reduceLT, Int.reduceLE, Nat.reduceLT, Nat.lt_irrefl, Nat.reduceBEq, tys0, tys1, tys2, tys3, tys4, tys5, tys6, tys7, tys8, tys9, tys10, tys11, Try.ntmps64, Try.results64, hlen, setX, getL]
    exact Fin.own rfl rfl
  have f2 : (r == 2) = false := by simp [q2]
  by_cases q3 : r = 3
  · have f3 : (r == 3) = true := by simp [q3]
    obtain ⟨r2, p2, s2, ⟨a1, a2⟩, a3, c2⟩ := pick_ok code hc p1 (by omega) s1 2000 (by omega) (by omega) _ id (hget (curB code p1 s1) (.box 26 [.int .i64 0, .int .i64 0]))
    rw [hset] at c2
    obtain ⟨r3, p3, s3, ⟨b1, b2⟩, b3, c3⟩ := pick_ok code hc p2 (by omega) s2 2000 (by omega) (by omega) _ id (hget (curB code p2 s2) (.box 26 [.int .i64 0, .int .i64 0]))
    rw [hset] at c3
    have e2 : IntKind.i64.wrap (r2 - 1000) = r2 - 1000 := w64_id (by omega) (by omega)
    have e3 : IntKind.i64.wrap (1 + r3) = 1 + r3 := w64_id (by omega) (by omega)
    have hmk := shMake_ok (r2 - 1000) (1 + r3) (by omega) ⟨by omega, by omega⟩
    refine ⟨mkN (r2 - 1000) (1 + r3), mkD (r2 - 1000) (1 + r3), p3, s3, by omega, ?_⟩
    refine Ct.by_ hmix [] Try.func64 rfl ?_
    simp only [run0, run1, run2, run3, run4, run5, run6, run7, run8, run9, run10, run11, run12, run13, run14, run15, run16, run17, run18, run19, run20, run21, run22, reduceCtorEq, Nat.reduceEqDiff, Nat.reduceAdd, Nat.reduceSub, Nat.reduceLeDiff, indexAddrA, indexRefA, appendA, strA, Nat.reduceMul, Nat.zero_mul, Nat.reduceMod, Int.reduceEq, Int.reduceLT, Int.reduceLE, Nat.reduceLT, Nat.lt_irrefl, Nat.reduceBEq, tys0, tys1, tys2, tys3, tys4, tys5, tys6, tys7, tys8, tys9, tys10, tys11, Try.ntmps64, Try.results64]
    refine RunL.callM rfl rfl ok_f82 rfl rfl c1 rfl ?_
    simp only [run0, run1, run2, run3, run4, run5, run6, run7, run8, run9, run10, run11, run12, run13, run14, run15, run16, run17, run18, run19, run20, run21, run22, reduceCtorEq, Nat.reduceEqDiff, Nat.reduceAdd, Nat.reduceSub, Nat.reduceLeDiff, indexAddrA, indexRefA, appendA, strA, Nat.reduceMul, Nat.zero_mul, Nat.reduceMod, Int.reduceEq, Int.reduceLT, Int.reduceLE, Nat.reduceLT, Nat.lt_irrefl, Nat.reduceBEq, tys0, tys1, tys2, tys3, tys4, tys5, tys6, tys7, tys8, tys9, tys10, tys11, Try.ntmps64, Try.results64, f0, f1, f2, f3]
    refine RunL.callM rfl rfl ok_f82 rfl rfl c2 rfl ?_
    simp only [run0, run1, run2, run3, run4, run5, run6, run7, run8, run9, run10, run11, run12, run13, run14, run15, run16, run17, run18, run19, run20, run21, run22, reduceCtorEq, Nat.reduceEqDiff, Nat.reduceAdd, Nat.reduceSub, Nat.reduceLeDiff, indexAddrA, indexRefA, appendA, strA, Nat.reduceMul, Nat.zero_mul, Nat.reduceMod, Int.reduceEq, Int.reduceLT, Int.reduceLE, Nat.reduceLT, Nat.lt_irrefl, Nat.reduceBEq, tys0, tys1, tys2, tys3, tys4, tys5, tys6, tys7, tys8, tys9, tys10, tys11, Try.ntmps64, Try.results64, e2]
    refine RunL.callM rfl rfl ok_f82 rfl rfl c3 rfl ?_
    simp only [run0, run1, run2, run3, run4, run5, run6, run7, run8, run9, run10, run11, run12, run13, run14, run15, run16, run17, run18, run19, run20, run21, run22, reduceCtorEq, Nat.reduceEqDiff, Nat.reduceAdd, Nat.reduceSub, Nat.reduceLeDiff, indexAddrA, indexRefA, appendA, strA, Nat.reduceMul, Nat.zero_mul, Nat.reduceMod, Int.reduceEq, Int.reduceLT, Int.reduceLE, Nat.reduceLT, Nat.lt_irrefl, Nat.reduceBEq, tys0, tys1, tys2, tys3, tys4, tys5, tys6, tys7, tys8, tys9, tys10, tys11, Try.ntmps64, Try.results64, e3]
    refine RunL.callp rfl rfl ok_f51 (hmk) (by first | rfl | simp only [pureL, pureB, Bool.and_self, Bool.and_true, Bool.true_and]) rfl ?_
    simp only [run0, run1, run2, run3, run4, run5, run6, run7, run8, run9, run10, run11, run12, run13, run14, run15, run16, run17, run18, run19, run20, run21, run22, reduceCtorEq, Nat.reduceEqDiff, Nat.reduceAdd, Nat.reduceSub, Nat.reduceLeDiff, indexAddrA, indexRefA, appendA, strA, Nat.reduceMul, Nat.zero_mul, Nat.reduceMod, Int.reduceEq, Int.reduceLT, Int.reduceLE, Nat.reduceLT, Nat.lt_irrefl, Nat.reduceBEq, tys0, tys1, tys2, tys3, tys4, tys5, tys6, tys7, tys8, tys9, tys10, tys11, Try.ntmps64, Try.results64, fr, hlen, setX, getL]
    exact Fin.own rfl rfl
  have f3 : (r == 3) = false := by simp [q3]
  obtain ⟨m, p2, s2, hm, a3, c2⟩ := among_ok [2, 4, 8, 20] false (by decide) (by decide) code hc p1 (by omega) s1 _ id (hget (curB code p1 s1) (.box 26 [.int .i64 0, .int .i64 0]))
  rw [hset] at c2
  have hm2 : 1 ≤ m ∧ m ≤ 20 := by
    simp only [List.mem_cons, List.not_mem_nil, or_false] at hm
    omega
  obtain ⟨w, p3, s3, hw, b3, c3⟩ := word_ok code hc p2 (by omega) s2 m hm2.1 hm2.2 _ id (hget (curB code p2 s2) (.box 26 [.int .i64 0, .int .i64 0]))
  rw [hset] at c3
  have hv := shValue_ok w (by omega) (fun k hk => swAt_ok w k (by omega))
  refine ⟨(swAt w w.size).an, (swAt w w.size).ad, p3, s3, by omega, ?_⟩
  refine Ct.by_ hmix [] Try.func64 rfl ?_
  simp only [run0, run1, run2, run3, run4, run5, run6, run7, run8, run9, run10, run11, run12, run13, run14, run15, run16, run17, run18, run19, run20, run21, run22, reduceCtorEq, Nat.reduceEqDiff, Nat.reduceAdd, Nat.reduceSub, Nat.reduceLeDiff, indexAddrA, indexRefA, appendA, strA, Nat.reduceMul, Nat.zero_mul, Nat.reduceMod, Int.reduceEq, Int.reduceLT, Int.reduceLE, Nat.reduceLT, Nat.lt_irrefl, Nat.reduceBEq, tys0, tys1, tys2, tys3, tys4, tys5, tys6, tys7, tys8, tys9, tys10, tys11, Try.ntmps64, Try.results64]
  refine RunL.callM rfl rfl ok_f82 rfl rfl c1 rfl ?_
  simp only [run0, run1, run2, run3, run4, run5, run6, run7, run8, run9, run10, run11, run12, run13, run14, run15, run16, run17, run18, run19, run20, run21, run22, reduceCtorEq, Nat.reduceEqDiff, Nat.reduceAdd, Nat.reduceSub, Nat.reduceLeDiff, indexAddrA, indexRefA, appendA, strA, Nat.reduceMul, Nat.zero_mul, Nat.reduceMod, Int.reduceEq, Int.reduceLT, Int.reduceLE, Nat.reduceLT, Nat.lt_irrefl, Nat.reduceBEq, tys0, tys1, tys2, tys3, tys4, tys5, tys6, tys7, tys8, tys9, tys10, tys11, Try.ntmps64, Try.results64, f0, f1, f2, f3]
  refine RunL.callM rfl rfl ok_f84 rfl rfl c2 rfl ?_
  simp only [run0, run1, run2, run3, run4, run5, run6, run7, run8, run9, run10, run11, run12, run13, run14, run15, run16, run17, run18, run19, run20, run21, run22, reduceCtorEq, Nat.reduceEqDiff, Nat.reduceAdd, Nat.reduceSub, Nat.reduceLeDiff, indexAddrA, indexRefA, appendA, strA, Nat.reduceMul, Nat.zero_mul, Nat.reduceMod, Int.reduceEq, Int.reduceLT, Int.reduceLE, Nat.reduceLT, Nat.lt_irrefl, Nat.reduceBEq, tys0, tys1, tys2, tys3, tys4, tys5, tys6, tys7, tys8, tys9, tys10, tys11, Try.ntmps64, Try.results64]
  refine RunL.callM rfl rfl ok_f85 rfl rfl c3 rfl ?_
  simp only [run0, run1, run2, run3, run4, run5, run6, run7, run8, run9, run10, run11, run12, run13, run14, run15, run16, run17, run18, run19, run20, run21, run22, reduceCtorEq, Nat.reduceEqDiff, Nat.reduceAdd, Nat.reduceSub, Nat.reduceLeDiff, indexAddrA, indexRefA, appendA, strA, Nat.reduceMul, Nat.zero_mul, Nat.reduceMod, Int.reduceEq, Int.reduceLT, Int.reduceLE, Nat.reduceLT, Nat.lt_irrefl, Nat.reduceBEq, tys0, tys1, tys2, tys3, tys4, tys5, tys6, tys7, tys8, tys9, tys10, tys11, Try.ntmps64, Try.results64]
  refine RunL.callp rfl rfl ok_f62 (hv) (by first | rfl | simp only [pureL, pureB, Bool.and_self, Bool.and_true, Bool.true_and]) rfl ?_
  simp only [run0, run1, run2, run3, run4, run5, run6, run7, run8, run9, run10, run11, run12, run13, run14, run15, run16, run17, run18, run19, run20, run21, run22, reduceCtorEq, Nat.reduceEqDiff, Nat.reduceAdd, Nat.reduceSub, Nat.reduceLeDiff, indexAddrA, indexRefA, appendA, strA, Nat.reduceMul, Nat.zero_mul, Nat.reduceMod, Int.reduceEq, Int.reduceLT, Int.reduceLE, Nat.reduceLT, Nat.lt_irrefl, Nat.reduceBEq, tys0, tys1, tys2, tys3, tys4, tys5, tys6, tys7, tys8, tys9, tys10, tys11, Try.ntmps64, Try.results64, fr, hlen, setX, getL]
  exact Fin.own rfl rfl

theorem draw_ok (code : List Int) (hc : bytesOk code) : ∃ (a b c d : Int), Ct Try.prog 36 [.sl false (bytesV code)] [] (.tup [fr a b, fr c d]) [] := by
  obtain ⟨a, b, p1, s1, h1, c1⟩ := fraction_ok code hc 0 (by omega) 0 [.box 26 [.int .i64 0, .int .i64 0], .box 26 [.int .i64 0, .int .i64 0], curB code 0 0] 2 rfl
  simp only [List.set_cons_succ, List.set_cons_zero, List.cons_append, List.nil_append] at c1
  obtain ⟨c, d, p2, s2, h2, c2⟩ := fraction_ok code hc p1 (by omega) s1 [.box 26 [.int .i64 0, .int .i64 0], .box 26 [.int .i64 0, .int .i64 0], curB code p1 s1, .box 26 [.int .i64 a, .int .i64 b]] 2 rfl
  simp only [List.set_cons_succ, List.set_cons_zero, List.cons_append, List.nil_append] at c2
  refine ⟨a, b, c, d, ?_⟩
  refine Ct.by_ hmix [] Try.func36 rfl ?_
  simp only [run0, run1, run2, run3, run4, run5, run6, run7, run8, run9, run10, run11, run12, run13, run14, run15, run16, run17, run18, run19, run20, run21, run22, reduceCtorEq, Nat.reduceEqDiff, Nat.reduceAdd, Nat.reduceSub, Nat.reduceLeDiff, indexAddrA, indexRefA, appendA, strA, Nat.reduceMul, Nat.zero_mul, Nat.reduceMod, Int.reduceEq, Int.reduceLT, Int.reduceLE, Nat.reduceLT, Nat.lt_irrefl, Nat.reduceBEq, tys0, tys1, tys2, tys3, tys4, tys5, tys6, tys7, tys8, tys9, tys10, tys11, Try.ntmps36, Try.results36]
  refine RunL.callM rfl rfl ok_f64 rfl rfl c1 rfl ?_
  simp only [run0, run1, run2, run3, run4, run5, run6, run7, run8, run9, run10, run11, run12, run13, run14, run15, run16, run17, run18, run19, run20, run21, run22, reduceCtorEq, Nat.reduceEqDiff, Nat.reduceAdd, Nat.reduceSub, Nat.reduceLeDiff, indexAddrA, indexRefA, appendA, strA, Nat.reduceMul, Nat.zero_mul, Nat.reduceMod, Int.reduceEq, Int.reduceLT, Int.reduceLE, Nat.reduceLT, Nat.lt_irrefl, Nat.reduceBEq, tys0, tys1, tys2, tys3, tys4, tys5, tys6, tys7, tys8, tys9, tys10, tys11, Try.ntmps36, Try.results36, fr]
  refine RunL.callM rfl rfl ok_f64 rfl rfl c2 rfl ?_
  simp only [run0, run1, run2, run3, run4, run5, run6, run7, run8, run9, run10, run11, run12, run13, run14, run15, run16, run17, run18, run19, run20, run21, run22, reduceCtorEq, Nat.reduceEqDiff, Nat.reduceAdd, Nat.reduceSub, Nat.reduceLeDiff, indexAddrA, indexRefA, appendA, strA, Nat.reduceMul, Nat.zero_mul, Nat.reduceMod, Int.reduceEq, Int.reduceLT, Int.reduceLE, Nat.reduceLT, Nat.lt_irrefl, Nat.reduceBEq, tys0, tys1, tys2, tys3, tys4, tys5, tys6, tys7, tys8, tys9, tys10, tys11, Try.ntmps36, Try.results36, fr]
  exact Fin.eq rfl rfl

end Go.Proofs.Ytolfjeedgedblaa
