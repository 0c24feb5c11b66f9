/-
  Texts joined in one: PO4, PO5, PO6.
-/
import Derived.Test.YtllcljajlemmaaaMOutcomC
/-
  Games: how two positions are ordered: the program; the reference's table.
-/
namespace Go.Proofs.Ytllcljajlemmaaa
open Go K
set_option linter.unusedSimpArgs false
set_option linter.unusedVariables false
set_option maxHeartbeats 3200000
set_option maxRecDepth 8000

theorem newJudge_ok (g : List GP) (L : List AObj) : Ct Try.prog 59 [.sl false (g.map posE)] L (.ptr (L.length + 1) 0) (L ++ [memO [], .box 126 [.sl false (g.map posE), .map L.length]]) := by
  refine Ct.by_ hmix [] Try.func59 rfl ?_
  simp only [run0, run1, run2, run3, run4, run5, run6, run7, run8, run9, run10, run11, run12, run13, run14, run15, run16, run17, run18, run19, run20, run21, run22, reduceCtorEq, Nat.reduceEqDiff, Nat.reduceAdd, Nat.reduceSub, Nat.reduceLeDiff, indexAddrA, indexRefA, appendA, strA, Nat.reduceMul, Nat.zero_mul, Nat.reduceMod, Int.reduceEq, Int.reduceLT, Int.reduceLE, Nat.reduceLT, Nat.lt_irrefl, Nat.reduceBEq, tys0, tys1, tys2, tys3, tys4, tys5, tys6, tys7, tys8, tys9, tys10, tys11, tys12, tys13, tys14, tys15, tys16, tys17, tys18, tys19, tys20, tys21, tys22, tys23, Try.ntmps59, Try.results59]
  refine RunL.newMap 164 4 rfl rfl rfl ?_
  simp only [run0, run1, run2, run3, run4, run5, run6, run7, run8, run9, run10, run11, run12, run13, run14, run15, run16, run17, run18, run19, run20, run21, run22, reduceCtorEq, Nat.reduceEqDiff, Nat.reduceAdd, Nat.reduceSub, Nat.reduceLeDiff, indexAddrA, indexRefA, appendA, strA, Nat.reduceMul, Nat.zero_mul, Nat.reduceMod, Int.reduceEq, Int.reduceLT, Int.reduceLE, Nat.reduceLT, Nat.lt_irrefl, Nat.reduceBEq, tys0, tys1, tys2, tys3, tys4, tys5, tys6, tys7, tys8, tys9, tys10, tys11, tys12, tys13, tys14, tys15, tys16, tys17, tys18, tys19, tys20, tys21, tys22, tys23, Try.ntmps59, Try.results59]
  exact Fin.own (by simp [memO, mapO]) rfl

def ordI (x y : Bool) : Int := if x && y then 0 else if x then -1 else if y then 1 else 2
def cmpG (g : List GP) (a b : Nat) : Int := ordI (leG g a b) (leG g b a)
def cmpJ (g : List GP) (s : JS) (a b : Nat) : JS := (atM g (b + a + 1) (atM g (a + b + 1) s a b).2 b a).2
theorem cmpJ_law {g : List GP} (hg : GameOk g) {s : JS} {a b : Nat} (ha : a < g.length) (hb : b < g.length) (hm : MemOk g s.1) : MemOk g (cmpJ g s a b).1 := by
  obtain ⟨h1, h2, _⟩ := atM_law hg (a + b + 1) s a b ha hb (by omega) hm
  exact (atM_law hg (b + a + 1) _ b a hb ha (by omega) h2).2.1
theorem compareJ_ok (g : List GP) (hg : GameOk g) (hl : g.length ≤ 1048576) (a b : Nat) (ha : a < g.length) (hb : b < g.length) (L0 : List AObj) (jb mb : Nat) (s : JS)
    (hj : L0[jb]? = some (.box 126 [.sl false (g.map posE), .map mb])) (hm : mb < L0.length) (hne : mb ≠ jb) (hmo : MemOk g s.1) :
    Ct Try.prog 67 [.ptr jb 0, .int .i64 a, .int .i64 b] (jsL L0 mb s) (.int .i64 (cmpG g a b)) (jsL L0 mb (cmpJ g s a b)) := by
  obtain ⟨h1, h2, _⟩ := atM_law hg (a + b + 1) s a b ha hb (by omega) hmo
  obtain ⟨h3, h4, _⟩ := atM_law hg (b + a + 1) _ b a hb ha (by omega) h2
  have c1 := atMost_ok g hg hl (a + b + 1) a b ha hb (by omega) L0 jb mb s hj hm hne hmo
  have c2 := atMost_ok g hg hl (b + a + 1) b a hb ha (by omega) L0 jb mb _ hj hm hne h2
  rw [h1] at c1
  rw [h3] at c2
  refine Ct.by_ hmix [] Try.func67 rfl ?_
  simp only [run0, run1, run2, run3, run4, run5, run6, run7, run8, run9, run10, run11, run12, run13, run14, run15, run16, run17, run18, run19, run20, run21, run22, reduceCtorEq, Nat.reduceEqDiff, Nat.reduceAdd, Nat.reduceSub, Nat.reduceLeDiff, indexAddrA, indexRefA, appendA, strA, Nat.reduceMul, Nat.zero_mul, Nat.reduceMod, Int.reduceEq, Int.reduceLT, Int.reduceLE, Nat.reduceLT, Nat.lt_irrefl, Nat.reduceBEq, tys0, tys1, tys2, tys3, tys4, tys5, tys6, tys7, tys8, tys9, tys10, tys11, tys12, tys13, tys14, tys15, tys16, tys17, tys18, tys19, tys20, tys21, tys22, tys23, Try.ntmps67, Try.results67]
  refine RunL.call rfl rfl rfl ok_f115 rfl (.inl rfl) c1 ?_
  simp only [run0, run1, run2, run3, run4, run5, run6, run7, run8, run9, run10, run11, run12, run13, run14, run15, run16, run17, run18, run19, run20, run21, run22, reduceCtorEq, Nat.reduceEqDiff, Nat.reduceAdd, Nat.reduceSub, Nat.reduceLeDiff, indexAddrA, indexRefA, appendA, strA, Nat.reduceMul, Nat.zero_mul, Nat.reduceMod, Int.reduceEq, Int.reduceLT, Int.reduceLE, Nat.reduceLT, Nat.lt_irrefl, Nat.reduceBEq, tys0, tys1, tys2, tys3, tys4, tys5, tys6, tys7, tys8, tys9, tys10, tys11, tys12, tys13, tys14, tys15, tys16, tys17, tys18, tys19, tys20, tys21, tys22, tys23, Try.ntmps67, Try.results67]
  refine RunL.call rfl rfl rfl ok_f115 rfl (.inl rfl) c2 ?_
  unfold cmpG
  cases leG g a b <;> cases leG g b a <;> simp only [run0, run1, run2, run3, run4, run5, run6, run7, run8, run9, run10, run11, run12, run13, run14, run15, run16, run17, run18, run19, run20, run21, run22, reduceCtorEq, Nat.reduceEqDiff, Nat.reduceAdd, Nat.reduceSub, Nat.reduceLeDiff, indexAddrA, indexRefA, appendA, strA, Nat.reduceMul, Nat.zero_mul, Nat.reduceMod, Int.reduceEq, Int.reduceLT, Int.reduceLE, Nat.reduceLT, Nat.lt_irrefl, Nat.reduceBEq, tys0, tys1, tys2, tys3, tys4, tys5, tys6, tys7, tys8, tys9, tys10, tys11, tys12, tys13, tys14, tys15, tys16, tys17, tys18, tys19, tys20, tys21, tys22, tys23, Try.ntmps67, Try.results67] <;> exact Fin.own rfl rfl

def cmpR (g : List GP) (a b : Int) : AV := .tup [.int .i64 (if hasB g a && hasB g b then cmpG g a.toNat b.toNat else 0), .bool (hasB g a && hasB g b)]
theorem hasB_ok {g : List GP} {a : Int} (h : hasB g a = true) : gameB g = true ∧ ∃ k : Nat, a = (k : Int) ∧ k < g.length := by
  simp only [hasB, Bool.and_eq_true, inB, decide_eq_true_eq] at h
  obtain ⟨k, rfl⟩ := Int.eq_ofNat_of_zero_le h.2.1
  exact ⟨h.1, k, rfl, by omega⟩
theorem implCompareG_ok (g : List GP) (a b : Int) (hl : g.length ≤ 1048576) (hs : ∀ p ∈ g, smallP p) : Ct Try.prog 23 [.sl false (g.map posE), .int .i64 a, .int .i64 b] [] (cmpR g a b) [] := by
  have pg := posL_pure g
  refine Ct.by_ hmix [] Try.func23 rfl ?_
  simp only [run0, run1, run2, run3, run4, run5, run6, run7, run8, run9, run10, run11, run12, run13, run14, run15, run16, run17, run18, run19, run20, run21, run22, reduceCtorEq, Nat.reduceEqDiff, Nat.reduceAdd, Nat.reduceSub, Nat.reduceLeDiff, indexAddrA, indexRefA, appendA, strA, Nat.reduceMul, Nat.zero_mul, Nat.reduceMod, Int.reduceEq, Int.reduceLT, Int.reduceLE, Nat.reduceLT, Nat.lt_irrefl, Nat.reduceBEq, tys0, tys1, tys2, tys3, tys4, tys5, tys6, tys7, tys8, tys9, tys10, tys11, tys12, tys13, tys14, tys15, tys16, tys17, tys18, tys19, tys20, tys21, tys22, tys23, Try.ntmps23, Try.results23]
  refine RunL.callp rfl rfl ok_f66 (hasPosition_ok g a hl hs) (by simp only [pureL, pureB, pg, Bool.and_self]) rfl ?_
  cases h1 : hasB g a
  · simp only [run0, run1, run2, run3, run4, run5, run6, run7, run8, run9, run10, run11, run12, run13, run14, run15, run16, run17, run18, run19, run20, run21, run22, reduceCtorEq, Nat.reduceEqDiff, Nat.reduceAdd, Nat.reduceSub, Nat.reduceLeDiff, indexAddrA, indexRefA, appendA, strA, Nat.reduceMul, Nat.zero_mul, Nat.reduceMod, Int.reduceEq, Int.reduceLT, Int.reduceLE, Nat.reduceLT, Nat.lt_irrefl, Nat.reduceBEq, tys0, tys1, tys2, tys3, tys4, tys5, tys6, tys7, tys8, tys9, tys10, tys11, tys12, tys13, tys14, tys15, tys16, tys17, tys18, tys19, tys20, tys21, tys22, tys23, Try.ntmps23, Try.results23]
    exact Fin.eq (by simp [cmpR, h1]) rfl
  simp only [run0, run1, run2, run3, run4, run5, run6, run7, run8, run9, run10, run11, run12, run13, run14, run15, run16, run17, run18, run19, run20, run21, run22, reduceCtorEq, Nat.reduceEqDiff, Nat.reduceAdd, Nat.reduceSub, Nat.reduceLeDiff, indexAddrA, indexRefA, appendA, strA, Nat.reduceMul, Nat.zero_mul, Nat.reduceMod, Int.reduceEq, Int.reduceLT, Int.reduceLE, Nat.reduceLT, Nat.lt_irrefl, Nat.reduceBEq, tys0, tys1, tys2, tys3, tys4, tys5, tys6, tys7, tys8, tys9, tys10, tys11, tys12, tys13, tys14, tys15, tys16, tys17, tys18, tys19, tys20, tys21, tys22, tys23, Try.ntmps23, Try.results23]
  refine RunL.callp rfl rfl ok_f66 (hasPosition_ok g b hl hs) (by simp only [pureL, pureB, pg, Bool.and_self]) rfl ?_
  cases h2 : hasB g b
  · simp only [run0, run1, run2, run3, run4, run5, run6, run7, run8, run9, run10, run11, run12, run13, run14, run15, run16, run17, run18, run19, run20, run21, run22, reduceCtorEq, Nat.reduceEqDiff, Nat.reduceAdd, Nat.reduceSub, Nat.reduceLeDiff, indexAddrA, indexRefA, appendA, strA, Nat.reduceMul, Nat.zero_mul, Nat.reduceMod, Int.reduceEq, Int.reduceLT, Int.reduceLE, Nat.reduceLT, Nat.lt_irrefl, Nat.reduceBEq, tys0, tys1, tys2, tys3, tys4, tys5, tys6, tys7, tys8, tys9, tys10, tys11, tys12, tys13, tys14, tys15, tys16, tys17, tys18, tys19, tys20, tys21, tys22, tys23, Try.ntmps23, Try.results23]
    exact Fin.eq (by simp [cmpR, h1, h2]) rfl
  obtain ⟨hgb, a, rfl, ha⟩ := hasB_ok h1
  obtain ⟨_, b, rfl, hb⟩ := hasB_ok h2
  have hg := (gameB_ok hgb).1
  simp only [run0, run1, run2, run3, run4, run5, run6, run7, run8, run9, run10, run11, run12, run13, run14, run15, run16, run17, run18, run19, run20, run21, run22, reduceCtorEq, Nat.reduceEqDiff, Nat.reduceAdd, Nat.reduceSub, Nat.reduceLeDiff, indexAddrA, indexRefA, appendA, strA, Nat.reduceMul, Nat.zero_mul, Nat.reduceMod, Int.reduceEq, Int.reduceLT, Int.reduceLE, Nat.reduceLT, Nat.lt_irrefl, Nat.reduceBEq, tys0, tys1, tys2, tys3, tys4, tys5, tys6, tys7, tys8, tys9, tys10, tys11, tys12, tys13, tys14, tys15, tys16, tys17, tys18, tys19, tys20, tys21, tys22, tys23, Try.ntmps23, Try.results23]
  refine RunL.call rfl rfl rfl ok_f59 rfl (.inl rfl) (newJudge_ok g []) ?_
  simp only [run0, run1, run2, run3, run4, run5, run6, run7, run8, run9, run10, run11, run12, run13, run14, run15, run16, run17, run18, run19, run20, run21, run22, reduceCtorEq, Nat.reduceEqDiff, Nat.reduceAdd, Nat.reduceSub, Nat.reduceLeDiff, indexAddrA, indexRefA, appendA, strA, Nat.reduceMul, Nat.zero_mul, Nat.reduceMod, Int.reduceEq, Int.reduceLT, Int.reduceLE, Nat.reduceLT, Nat.lt_irrefl, Nat.reduceBEq, tys0, tys1, tys2, tys3, tys4, tys5, tys6, tys7, tys8, tys9, tys10, tys11, tys12, tys13, tys14, tys15, tys16, tys17, tys18, tys19, tys20, tys21, tys22, tys23, Try.ntmps23, Try.results23]
  have hc := compareJ_ok g hg hl a b ha hb [memO [], .box 126 [.sl false (g.map posE), .map 0]] 1 0 ([], []) rfl (by simp) (by omega) (MemOk.nil g)
  refine RunL.call rfl rfl rfl ok_f67 rfl (.inl rfl) hc ?_
  simp only [run0, run1, run2, run3, run4, run5, run6, run7, run8, run9, run10, run11, run12, run13, run14, run15, run16, run17, run18, run19, run20, run21, run22, reduceCtorEq, Nat.reduceEqDiff, Nat.reduceAdd, Nat.reduceSub, Nat.reduceLeDiff, indexAddrA, indexRefA, appendA, strA, Nat.reduceMul, Nat.zero_mul, Nat.reduceMod, Int.reduceEq, Int.reduceLT, Int.reduceLE, Nat.reduceLT, Nat.lt_irrefl, Nat.reduceBEq, tys0, tys1, tys2, tys3, tys4, tys5, tys6, tys7, tys8, tys9, tys10, tys11, tys12, tys13, tys14, tys15, tys16, tys17, tys18, tys19, tys20, tys21, tys22, tys23, Try.ntmps23, Try.results23]
  exact Fin.eq (by simp [cmpR, h1, h2]) rfl

/-! ### the reference's table -/
abbrev bools (l : List Bool) : List AV := l.map AV.bool
def rowV (l : List Bool) : AV := .sl false (bools l)
theorem bools_pure : ∀ l : List Bool, pureL (bools l) = true
  | [] => rfl
  | x :: r => by
    have := bools_pure r
    simp only [bools, List.map_cons, pureL, pureB, Bool.true_and] at this ⊢
    exact this
theorem rows_pure : ∀ t : List (List Bool), pureL (t.map rowV) = true
  | [] => rfl
  | x :: r => by simp only [List.map_cons, rowV, pureL, pureB, bools_pure, rows_pure r, Bool.and_self]
/-- An entry of a table. -/
def tbl (t : List (List Bool)) (a b : Nat) : Bool := (t.getD a []).getD b false
/-- All rows are so long. -/
def sqr (n : Nat) (t : List (List Bool)) : Prop := t.length = n ∧ ∀ r ∈ t, r.length = n
theorem tbl_row {n : Nat} {t : List (List Bool)} (h : sqr n t) {a : Nat} (ha : a < n) : ∃ r, t[a]? = some r ∧ r.length = n ∧ ∀ b, b < n → (bools r)[b]? = some (.bool (tbl t a b)) := by
  have hlt : a < t.length := by rw [h.1]; exact ha
  refine ⟨t[a], List.getElem?_eq_getElem hlt, h.2 _ (List.getElem_mem hlt), fun b hb => ?_⟩
  have hr := h.2 _ (List.getElem_mem hlt)
  have e : t.getD a [] = t[a] := by simp [List.getD_eq_getElem?_getD, hlt]
  unfold tbl
  rw [e, List.getD_eq_getElem?_getD, List.getElem?_map, List.getElem?_eq_getElem (by omega)]
  rfl
def shownB (g : List GP) (t : List (List Bool)) (a b : Nat) : Bool := (lefts g a).all (fun x => !tbl t b x.toNat) && (rights g b).all (fun y => !tbl t y.toNat a)
theorem gaShown_ok (g : List GP) (hg : GameOk g) (hl : g.length ≤ 1048576) (t : List (List Bool)) (ht : sqr g.length t) (a b : Nat) (ha : a < g.length) (hb : b < g.length) :
    Ct Try.prog 98 [.sl false (g.map posE), .sl false (t.map rowV), .int .i64 a, .int .i64 b] [] (.bool (shownB g t a b)) [] := by
  have hla := lefts_len hg ha
  have hlb := lefts_len hg hb
  have pa := pos_at ha
  have pb := pos_at hb
  have ha1 : (a : Int) < (g.length : Int) := by omega
  have hb1 : (b : Int) < (g.length : Int) := by omega
  have htl : t.length = g.length := ht.1
  obtain ⟨rb, rb1, rb2, rb3⟩ := tbl_row ht hb
  have rb4 : (t.map rowV)[b]? = some (.sl false (bools rb)) := by simp [rb1, rowV]
  refine Ct.by_ hmix [] Try.func98 rfl ?_
  simp only [run0, run1, run2, run3, run4, run5, run6, run7, run8, run9, run10, run11, run12, run13, run14, run15, run16, run17, run18, run19, run20, run21, run22, reduceCtorEq, Nat.reduceEqDiff, Nat.reduceAdd, Nat.reduceSub, Nat.reduceLeDiff, indexAddrA, indexRefA, appendA, strA, Nat.reduceMul, Nat.zero_mul, Nat.reduceMod, Int.reduceEq, Int.reduceLT, Int.reduceLE, Nat.reduceLT, Nat.lt_irrefl, Nat.reduceBEq, tys0, tys1, tys2, tys3, tys4, tys5, tys6, tys7, tys8, tys9, tys10, tys11, tys12, tys13, tys14, tys15, tys16, tys17, tys18, tys19, tys20, tys21, tys22, tys23, Try.ntmps98, Try.results98, pa, ha1, List.length_map, Int.toNat_natCast, Int.natCast_nonneg]
  refine AWp.loop_inv (ι := List Int × List Int) (fun p => ⟨[.sl false (g.map posE), .sl false (t.map rowV), .int .i64 a, .int .i64 b, .junk, .junk, .junk, .junk, .bool false, .junk, .junk, .junk, .junk, .junk, .junk, .junk, .junk, .sl false (ints (lefts g a)), .int .i64 (lefts g a).length, .int .i64 p.1.length, .junk, .junk, .junk, .junk, .junk, .junk, .junk, .junk, .junk, .junk, .junk, .junk, .junk, .junk, .junk, .junk, .junk, .junk, .junk, .junk, .junk, .junk, .junk, .junk, .junk, .junk, .junk, .junk, .junk], []⟩)
    (fun p => lefts g a = p.1 ++ p.2 ∧ p.1.all (fun x => !tbl t b x.toNat) = true) (fun p => p.2.length) ([], lefts g a) ⟨rfl, rfl⟩ ⟨by simp only [List.length_nil, Int.natCast_zero]; repeat constructor, rfl⟩ ?_
  rintro ⟨d, r⟩ ⟨h1, h2⟩
  refine W.sound hmix (E := []) ?_
  simp only at h1 h2
  cases r with
  | cons x r =>
    obtain ⟨e1, e2, e5⟩ := int_split h1 hla.1
    have hx := lefts_lt hg (a := a) (x := x) (by rw [h1]; simp)
    obtain ⟨k, rfl⟩ := Int.eq_ofNat_of_zero_le hx.1
    have hk := rb3 k (by omega)
    have hk1 : (k : Int) < (rb.length : Int) := by omega
    cases hv : tbl t b k
    · rw [hv] at hk
      simp only [run0, run1, run2, run3, run4, run5, run6, run7, run8, run9, run10, run11, run12, run13, run14, run15, run16, run17, run18, run19, run20, run21, run22, reduceCtorEq, Nat.reduceEqDiff, Nat.reduceAdd, Nat.reduceSub, Nat.reduceLeDiff, indexAddrA, indexRefA, appendA, strA, Nat.reduceMul, Nat.zero_mul, Nat.reduceMod, Int.reduceEq, Int.reduceLT, Int.reduceLE, Nat.reduceLT, Nat.lt_irrefl, Nat.reduceBEq, tys0, tys1, tys2, tys3, tys4, tys5, tys6, tys7, tys8, tys9, tys10, tys11, tys12, tys13, tys14, tys15, tys16, tys17, tys18, tys19, tys20, tys21, tys22, tys23, Try.ntmps98, Try.results98, List.length_map, e1, e2, e5, hb1, htl, rb4, hk, hk1, Int.toNat_natCast, Int.natCast_nonneg]
      exact ⟨(d ++ [(k : Int)], r), ⟨by simp [h1], by simp [List.all_append, h2, hv]⟩, by simp, by simp only [List.length_append, List.length_cons, List.length_nil]; repeat constructor⟩
    · rw [hv] at hk
      simp only [run0, run1, run2, run3, run4, run5, run6, run7, run8, run9, run10, run11, run12, run13, run14, run15, run16, run17, run18, run19, run20, run21, run22, reduceCtorEq, Nat.reduceEqDiff, Nat.reduceAdd, Nat.reduceSub, Nat.reduceLeDiff, indexAddrA, indexRefA, appendA, strA, Nat.reduceMul, Nat.zero_mul, Nat.reduceMod, Int.reduceEq, Int.reduceLT, Int.reduceLE, Nat.reduceLT, Nat.lt_irrefl, Nat.reduceBEq, tys0, tys1, tys2, tys3, tys4, tys5, tys6, tys7, tys8, tys9, tys10, tys11, tys12, tys13, tys14, tys15, tys16, tys17, tys18, tys19, tys20, tys21, tys22, tys23, Try.ntmps98, Try.results98, List.length_map, e1, e2, hb1, htl, rb4, hk, hk1, Int.toNat_natCast, Int.natCast_nonneg]
      exact Fin.eq (by unfold shownB; rw [h1]; simp [hv]) rfl
  | nil =>
    have e1 := int_end h1
    have hd : d = lefts g a := by rw [h1, List.append_nil]
    subst hd
    simp only [run0, run1, run2, run3, run4, run5, run6, run7, run8, run9, run10, run11, run12, run13, run14, run15, run16, run17, run18, run19, run20, run21, run22, reduceCtorEq, Nat.reduceEqDiff, Nat.reduceAdd, Nat.reduceSub, Nat.reduceLeDiff, indexAddrA, indexRefA, appendA, strA, Nat.reduceMul, Nat.zero_mul, Nat.reduceMod, Int.reduceEq, Int.reduceLT, Int.reduceLE, Nat.reduceLT, Nat.lt_irrefl, Nat.reduceBEq, tys0, tys1, tys2, tys3, tys4, tys5, tys6, tys7, tys8, tys9, tys10, tys11, tys12, tys13, tys14, tys15, tys16, tys17, tys18, tys19, tys20, tys21, tys22, tys23, Try.ntmps98, Try.results98, e1, pb, hb1, List.length_map, Int.toNat_natCast, Int.natCast_nonneg]
    refine AWp.loop_inv (ι := List Int × List Int) (fun p => ⟨[.sl false (g.map posE), .sl false (t.map rowV), .int .i64 a, .int .i64 b, .junk, .junk, .junk, .junk, .bool false, .junk, .junk, .junk, .junk, .junk, .junk, .junk, .junk, .junk, .junk, .junk, .junk, .junk, .junk, .junk, .junk, .junk, .junk, .junk, .junk, .junk, .junk, .junk, .junk, .junk, .junk, .sl false (ints (rights g b)), .int .i64 (rights g b).length, .int .i64 p.1.length, .junk, .junk, .junk, .junk, .junk, .junk, .junk, .junk, .junk, .junk, .junk], []⟩)
      (fun p => rights g b = p.1 ++ p.2 ∧ p.1.all (fun y => !tbl t y.toNat a) = true) (fun p => p.2.length) ([], rights g b) ⟨rfl, rfl⟩ ⟨by simp only [List.length_nil, Int.natCast_zero]; repeat constructor, rfl⟩ ?_
    rintro ⟨d, r⟩ ⟨k1, k2⟩
    refine W.sound hmix (E := []) ?_
    simp only at k1 k2
    cases r with
    | cons x r =>
      obtain ⟨e1, e2, e5⟩ := int_split k1 hlb.2
      have hx := rights_lt hg (a := b) (x := x) (by rw [k1]; simp)
      obtain ⟨k, rfl⟩ := Int.eq_ofNat_of_zero_le hx.1
      have hkl : k < g.length := by omega
      obtain ⟨rk, rk1, rk2, rk3⟩ := tbl_row ht hkl
      have rk4 : (t.map rowV)[k]? = some (.sl false (bools rk)) := by simp [rk1, rowV]
      have hk := rk3 a (by omega)
      have hk1 : (a : Int) < (rk.length : Int) := by omega
      have hk2 : (k : Int) < (g.length : Int) := by omega
      cases hv : tbl t k a
      · rw [hv] at hk
        simp only [run0, run1, run2, run3, run4, run5, run6, run7, run8, run9, run10, run11, run12, run13, run14, run15, run16, run17, run18, run19, run20, run21, run22, reduceCtorEq, Nat.reduceEqDiff, Nat.reduceAdd, Nat.reduceSub, Nat.reduceLeDiff, indexAddrA, indexRefA, appendA, strA, Nat.reduceMul, Nat.zero_mul, Nat.reduceMod, Int.reduceEq, Int.reduceLT, Int.reduceLE, Nat.reduceLT, Nat.lt_irrefl, Nat.reduceBEq, tys0, tys1, tys2, tys3, tys4, tys5, tys6, tys7, tys8, tys9, tys10, tys11, tys12, tys13, tys14, tys15, tys16, tys17, tys18, tys19, tys20, tys21, tys22, tys23, Try.ntmps98, Try.results98, List.length_map, e1, e2, e5, htl, rk4, hk, hk1, hk2, Int.toNat_natCast, Int.natCast_nonneg]
        exact ⟨(d ++ [(k : Int)], r), ⟨by simp [k1], by simp [List.all_append, k2, hv]⟩, by simp, by simp only [List.length_append, List.length_cons, List.length_nil]; repeat constructor⟩
      · rw [hv] at hk
        simp only [run0, run1, run2, run3, run4, run5, run6, run7, run8, run9, run10, run11, run12, run13, run14, run15, run16, run17, run18, run19, run20, run21, run22, reduceCtorEq, Nat.reduceEqDiff, Nat.reduceAdd, Nat.reduceSub, Nat.reduceLeDiff, indexAddrA, indexRefA, appendA, strA, Nat.reduceMul, Nat.zero_mul, Nat.reduceMod, Int.reduceEq, Int.reduceLT, Int.reduceLE, Nat.reduceLT, Nat.lt_irrefl, Nat.reduceBEq, tys0, tys1, tys2, tys3, tys4, tys5, tys6, tys7, tys8, tys9, tys10, tys11, tys12, tys13, tys14, tys15, tys16, tys17, tys18, tys19, tys20, tys21, tys22, tys23, Try.ntmps98, Try.results98, List.length_map, e1, e2, htl, rk4, hk, hk1, hk2, Int.toNat_natCast, Int.natCast_nonneg]
        exact Fin.eq (by unfold shownB; rw [k1]; simp [hv]) rfl
    | nil =>
      have e1 := int_end k1
      have hd : d = rights g b := by rw [k1, List.append_nil]
      subst hd
      simp only [run0, run1, run2, run3, run4, run5, run6, run7, run8, run9, run10, run11, run12, run13, run14, run15, run16, run17, run18, run19, run20, run21, run22, reduceCtorEq, Nat.reduceEqDiff, Nat.reduceAdd, Nat.reduceSub, Nat.reduceLeDiff, indexAddrA, indexRefA, appendA, strA, Nat.reduceMul, Nat.zero_mul, Nat.reduceMod, Int.reduceEq, Int.reduceLT, Int.reduceLE, Nat.reduceLT, Nat.lt_irrefl, Nat.reduceBEq, tys0, tys1, tys2, tys3, tys4, tys5, tys6, tys7, tys8, tys9, tys10, tys11, tys12, tys13, tys14, tys15, tys16, tys17, tys18, tys19, tys20, tys21, tys22, tys23, Try.ntmps98, Try.results98, e1, List.length_map]
      exact Fin.eq (by unfold shownB; rw [h2, k2]; rfl) rfl
theorem gaOrder_ok (n : Nat) (t : List (List Bool)) (ht : sqr n t) (a b : Nat) (ha : a < n) (hb : b < n) :
    Ct Try.prog 65 [.sl false (t.map rowV), .int .i64 a, .int .i64 b] [] (.int .i64 (ordI (tbl t a b) (tbl t b a))) [] := by
  have htl : t.length = n := ht.1
  obtain ⟨ra, ra1, ra2, ra3⟩ := tbl_row ht ha
  obtain ⟨rb, rb1, rb2, rb3⟩ := tbl_row ht hb
  have ra4 : (t.map rowV)[a]? = some (.sl false (bools ra)) := by simp [ra1, rowV]
  have rb4 : (t.map rowV)[b]? = some (.sl false (bools rb)) := by simp [rb1, rowV]
  have k1 := ra3 b hb
  have k2 := rb3 a ha
  have ha1 : (a : Int) < (n : Int) := by omega
  have hb1 : (b : Int) < (n : Int) := by omega
  refine Ct.by_ hmix [] Try.func65 rfl ?_
  generalize tbl t a b = x at *
  generalize tbl t b a = y at *
  cases x <;> cases y <;> simp only [run0, run1, run2, run3, run4, run5, run6, run7, run8, run9, run10, run11, run12, run13, run14, run15, run16, run17, run18, run19, run20, run21, run22, reduceCtorEq, Nat.reduceEqDiff, Nat.reduceAdd, Nat.reduceSub, Nat.reduceLeDiff, indexAddrA, indexRefA, appendA, strA, Nat.reduceMul, Nat.zero_mul, Nat.reduceMod, Int.reduceEq, Int.reduceLT, Int.reduceLE, Nat.reduceLT, Nat.lt_irrefl, Nat.reduceBEq, tys0, tys1, tys2, tys3, tys4, tys5, tys6, tys7, tys8, tys9, tys10, tys11, tys12, tys13, tys14, tys15, tys16, tys17, tys18, tys19, tys20, tys21, tys22, tys23, Try.ntmps65, Try.results65, List.length_map, htl, ra2, rb2, ra4, rb4, k1, k2, ha1, hb1, Int.toNat_natCast, Int.natCast_nonneg] <;> exact Fin.eq rfl rfl

end Go.Proofs.Ytllcljajlemmaaa
/-
  Games: the reference's table of the order of positions.
-/
namespace Go.Proofs.Ytllcljajlemmaaa
open Go K
set_option linter.unusedSimpArgs false
set_option linter.unusedVariables false
set_option maxHeartbeats 3200000
set_option maxRecDepth 8000

def setT (t : List (List Bool)) (i k : Nat) (v : Bool) : List (List Bool) := t.set i ((t.getD i []).set k v)
theorem setT_sqr {n : Nat} {t : List (List Bool)} (h : sqr n t) (i k : Nat) (v : Bool) (hi : i < n) : sqr n (setT t i k v) := by
  obtain ⟨r, h1, h2, _⟩ := tbl_row h hi
  refine ⟨by simp [setT, h.1], fun q hq => ?_⟩
  unfold setT at hq
  rcases List.mem_or_eq_of_mem_set hq with hq | rfl
  · exact h.2 q hq
  · rw [List.length_set, List.getD_eq_getElem?_getD, h1]; exact h2
theorem tbl_setT {n : Nat} {t : List (List Bool)} (h : sqr n t) {i k : Nat} (v : Bool) (hi : i < n) (hk : k < n) (a b : Nat) : tbl (setT t i k v) a b = if a = i ∧ b = k then v else tbl t a b := by
  obtain ⟨r, h1, h2, _⟩ := tbl_row h hi
  have hl : i < t.length := by rw [h.1]; exact hi
  unfold tbl setT
  by_cases ha : a = i
  · subst ha
    rw [List.getD_eq_getElem?_getD (l := t.set a _), List.getElem?_set_self hl, Option.getD_some, List.getD_eq_getElem?_getD (l := t), h1, Option.getD_some]
    by_cases hb : b = k
    · subst hb
      rw [if_pos ⟨rfl, rfl⟩, List.getD_eq_getElem?_getD, List.getElem?_set_self (by omega)]; rfl
    · rw [if_neg (fun e => hb e.2), List.getD_eq_getElem?_getD, List.getElem?_set_ne (fun e => hb e.symm), List.getD_eq_getElem?_getD]
  · rw [if_neg (fun e => ha e.1), List.getD_eq_getElem?_getD (l := t.set i _), List.getElem?_set_ne (fun e => ha e.symm), List.getD_eq_getElem?_getD (l := t)]
/-- What is right of a table so far. -/
def Kn (g : List GP) (t : List (List Bool)) (i k : Nat) : Prop := ∀ a b, a ≤ i → b ≤ i → (a < i ∧ b < i) ∨ (a < k ∧ b = i) ∨ (b < k ∧ a = i) → tbl t a b = leG g a b
theorem shown_le {g : List GP} (hg : GameOk g) {t : List (List Bool)} {a b : Nat} (h1 : ∀ x : Nat, x < a → tbl t b x = leG g b x) (h2 : ∀ y : Nat, y < b → tbl t y a = leG g y a) : shownB g t a b = leG g a b := by
  rw [leG_eq hg]
  unfold shownB
  congr 1
  · refine all_congr_mem fun x hx => ?_
    have := lefts_lt hg hx
    rw [h1 x.toNat (by omega)]
  · refine all_congr_mem fun y hy => ?_
    have := rights_lt hg hy
    rw [h2 y.toNat (by omega)]
theorem Kn.step {g : List GP} (hg : GameOk g) {n : Nat} {t : List (List Bool)} (ht : sqr n t) {i k : Nat} (hi : i < n) (hk : k ≤ i) (h : Kn g t i k) :
    Kn g (setT (setT t i k (shownB g t i k)) k i (shownB g (setT t i k (shownB g t i k)) k i)) i (k + 1) := by
  have v1 : shownB g t i k = leG g i k := shown_le hg (fun x hx => by
    by_cases hki : k = i
    · exact h k x hk (by omega) (.inr (.inr ⟨by omega, hki⟩))
    · exact h k x hk (by omega) (.inl ⟨by omega, hx⟩)) (fun y hy => h y i (by omega) (Nat.le_refl _) (.inr (.inl ⟨hy, rfl⟩)))
  rw [v1]
  have hs := setT_sqr ht i k (leG g i k) hi
  have v2 : shownB g (setT t i k (leG g i k)) k i = leG g k i := shown_le hg (fun x hx => by
    rw [tbl_setT ht _ hi (by omega)]
    split
    · rename_i e; rw [e.2]
    · exact h i x (Nat.le_refl _) (by omega) (.inr (.inr ⟨hx, rfl⟩))) (fun y hy => by
    rw [tbl_setT ht _ hi (by omega)]
    split
    · rename_i e; omega
    · by_cases hki : k = i
      · exact h y k (by omega) hk (.inr (.inl ⟨by omega, hki⟩))
      · exact h y k (by omega) hk (.inl ⟨hy, by omega⟩))
  rw [v2]
  intro a b ha hb hc
  rw [tbl_setT hs _ (by omega) hi, tbl_setT ht _ hi (by omega)]
  split
  · rename_i e; rw [e.1, e.2]
  · split
    · rename_i e; rw [e.1, e.2]
    · rename_i e1 e2
      refine h a b ha hb ?_
      rcases hc with hc | hc | hc
      · exact .inl hc
      · exact .inr (.inl ⟨by have := hc.1; have : a ≠ k := fun q => e1 ⟨q, hc.2⟩; omega, hc.2⟩)
      · exact .inr (.inr ⟨by have := hc.1; have : b ≠ k := fun q => e2 ⟨hc.2, q⟩; omega, hc.2⟩)

/-! ### the walk -/
def refT (n k : Nat) : List AV := (List.range k).map (fun i => .ref (i + 1) [] 0 n) ++ List.replicate (n - k) nilV
def rowO (r : List Bool) : AObj := .vec 4 1 0 (bools r)
def tabL (n k : Nat) (t : List (List Bool)) : List AObj := .vec 118 1 0 (refT n k) :: t.map rowO
theorem refT_noOwn (n k : Nat) : noOwn (refT n k) = true := by
  refine List.all_eq_true.2 fun e he => ?_
  rcases List.mem_append.1 he with he | he
  · obtain ⟨i, _, rfl⟩ := List.mem_map.1 he; rfl
  · rw [(List.mem_replicate.1 he).2]; rfl
theorem bools_noOwn (l : List Bool) : noOwn (bools l) = true := by
  refine List.all_eq_true.2 fun e he => ?_
  obtain ⟨i, _, rfl⟩ := List.mem_map.1 he; rfl
theorem refT_get {n i : Nat} (h : i < n) : (refT n n)[i]? = some (.ref (i + 1) [] 0 n) := by
  unfold refT
  rw [List.getElem?_append_left (by simpa using h), List.getElem?_map, List.getElem?_range h]; rfl
theorem refT_next {n k : Nat} (h : k < n) : (refT n k)[k]? = some nilV ∧ (refT n k).set k (.ref (k + 1) [] 0 n) = refT n (k + 1) := by
  have hr : List.replicate (n - k) nilV = nilV :: List.replicate (n - (k + 1)) nilV := by rw [show n - k = n - (k + 1) + 1 by omega, List.replicate_succ]
  unfold refT
  rw [hr]
  constructor
  · rw [List.getElem?_append_right (by simp)]; simp
  · rw [List.set_append_right _ _ (by simp)]
    simp [List.range_succ]
theorem Vw_row {L : List AObj} {id n : Nat} {r : List Bool} (h : L[id]? = some (rowO r)) (hn : n = r.length) : Vw L (.ref id [] 0 n) (rowV r) := by
  subst hn
  have := Vw.refPur (o := false) h (n := r.length) (by simp) (fun e he c hc => by
    obtain ⟨y, _, rfl⟩ := List.mem_map.1 he
    simp only [AV.cells, List.mem_cons, List.not_mem_nil, or_false] at hc
    subst hc
    exact ⟨.bool _, fun xs h => by cases h⟩)
  rwa [List.take_of_length_le (by simp)] at this
theorem Vw_tab {n : Nat} {t : List (List Bool)} (ht : sqr n t) (X : List AObj) : Vw (tabL n n t ++ X) (.ref 0 [] 0 n) (.sl false (t.map rowV)) := by
  refine Vw.ref (es := refT n n) (es' := refT n n) (T := 118) (sz := 1) rfl rfl (by simp [ht.1]) fun i e y he hy => ?_
  have hi : i < n := by
    have := (List.getElem?_eq_some_iff.1 hy).1
    simp [ht.1] at this; exact this
  rw [refT_get hi] at he
  cases he
  rw [List.getElem?_map] at hy
  obtain ⟨r, h1, h2, _⟩ := tbl_row ht hi
  rw [h1] at hy
  cases hy
  refine ⟨rfl, fun j c d hc hd => ?_⟩
  cases j with
  | succ j => simp [AV.cells] at hc
  | zero =>
    simp [AV.cells, rowV] at hc hd
    subst hc hd
    have : (tabL n n t ++ X)[i + 1]? = some (rowO r) := by
      unfold tabL
      rw [List.cons_append, List.getElem?_cons_succ, List.getElem?_append_left (by rw [List.length_map, ht.1]; exact hi), List.getElem?_map, h1]; rfl
    exact Vw_row this h2.symm
structure TbS where
  i : Nat
  k : Nat
  t : List (List Bool)
theorem setT_tab {n : Nat} {t : List (List Bool)} {r : List Bool} {i k : Nat} {v : Bool} (h1 : t[i]? = some r) : (tabL n n t).set (i + 1) (.vec 4 1 0 ((bools r).set k (.bool v))) = tabL n n (setT t i k v) := by
  unfold tabL setT
  rw [List.set_cons_succ, List.map_set, List.getD_eq_getElem?_getD, h1, Option.getD_some]
  have e : (bools r).set k (.bool v) = bools (r.set k v) := by simp [bools, List.map_set]
  rw [e]
  rfl

/-- The whole table. -/
def tabG (g : List GP) : List (List Bool) := (List.range g.length).map fun a => (List.range g.length).map fun b => leG g a b
theorem tabG_sqr (g : List GP) : sqr g.length (tabG g) := by
  refine ⟨by simp [tabG], fun r hr => ?_⟩
  obtain ⟨a, _, rfl⟩ := List.mem_map.1 hr
  simp
theorem tbl_tabG (g : List GP) {a b : Nat} (ha : a < g.length) (hb : b < g.length) : tbl (tabG g) a b = leG g a b := by
  unfold tbl tabG
  have e : ((List.range g.length).map fun a => (List.range g.length).map fun b => leG g a b).getD a [] = (List.range g.length).map fun b => leG g a b := by
    rw [List.getD_eq_getElem?_getD, List.getElem?_map, List.getElem?_range ha]; rfl
  rw [e, List.getD_eq_getElem?_getD, List.getElem?_map, List.getElem?_range hb]; rfl
theorem tab_eq {g : List GP} {t : List (List Bool)} (ht : sqr g.length t) (h : ∀ a b, a < g.length → b < g.length → tbl t a b = leG g a b) : t = tabG g := by
  have hs := tabG_sqr g
  apply List.ext_getElem?
  intro a
  by_cases ha : a < g.length
  · obtain ⟨r, r1, r2, r3⟩ := tbl_row ht ha
    obtain ⟨q, q1, q2, q3⟩ := tbl_row hs ha
    rw [r1, q1]
    congr 1
    apply List.ext_getElem?
    intro b
    by_cases hb : b < g.length
    · have k1 := r3 b hb
      have k2 := q3 b hb
      rw [h a b ha hb] at k1
      rw [tbl_tabG g ha hb] at k2
      rw [List.getElem?_map] at k1 k2
      cases hr : r[b]? with
      | none => rw [hr] at k1; cases k1
      | some x =>
        cases hq : q[b]? with
        | none => rw [hq] at k2; cases k2
        | some y =>
          rw [hr] at k1
          rw [hq] at k2
          simp at k1 k2
          rw [k1, k2]
    · rw [List.getElem?_eq_none (by omega), List.getElem?_eq_none (by omega)]
  · rw [List.getElem?_eq_none (by have := ht.1; omega), List.getElem?_eq_none (by have := hs.1; omega)]

theorem le_big {n : Nat} (h : n ≤ 1048576) (c : Int) (hc : 1048576 ≤ c) : (n : Int) ≤ c := by omega
theorem gaAtMost_ok (g : List GP) (hg : GameOk g) (hl : g.length ≤ 1048576) : Ct Try.prog 55 [.sl false (g.map posE)] [] (.sl false ((tabG g).map rowV)) [] := by
  have hbig := le_big hl
  have hW : ∀ i, isW (kindE [3000000 + 98]) i = false ∧ rowsAt (kindE [3000000 + 98]) i = false := fun i => ⟨by rw [isW_none i rfl]; rfl, by rw [rowsAt_E]; rfl⟩
  have pg := posL_pure g
  generalize hn : g.length = n at *
  refine Ct.by_ hmix [ 3000000 + 98] Try.func55 rfl ?_
  simp only [run0, run1, run2, run3, run4, run5, run6, run7, run8, run9, run10, run11, run12, run13, run14, run15, run16, run17, run18, run19, run20, run21, run22, reduceCtorEq, Nat.reduceEqDiff, Nat.reduceAdd, Nat.reduceSub, Nat.reduceLeDiff, indexAddrA, indexRefA, appendA, strA, Nat.reduceMul, Nat.zero_mul, Nat.reduceMod, Int.reduceEq, Int.reduceLT, Int.reduceLE, Nat.reduceLT, Nat.lt_irrefl, Nat.reduceBEq, tys0, tys1, tys2, tys3, tys4, tys5, tys6, tys7, tys8, tys9, tys10, tys11, tys12, tys13, tys14, tys15, tys16, tys17, tys18, tys19, tys20, tys21, tys22, tys23, Try.ntmps55, Try.results55, hbig, hn, List.length_map, Int.natCast_nonneg, Int.le_refl, Int.toNat_natCast]
  refine AWp.loop_inv (ι := Nat) (fun k => ⟨[.sl false (g.map posE), .junk, nilV, .ref 0 [] 0 n, .junk, .junk, .junk, .junk, .junk, .junk, .sl false (g.map posE), .int .i64 n, .int .i64 k, .junk, .junk, .junk, .junk, .junk, .junk, .junk, .junk, .junk, .junk, .junk, .junk, .junk, .junk, .junk, .junk, .junk, .junk, .junk, .junk, .junk, .junk, .junk, .junk, .junk, .junk, .junk, .junk, .junk, .junk, .junk, .junk, .junk, .junk, .junk, .junk, .junk, .junk, .junk, .junk, .junk, .junk, .junk], tabL n k (List.replicate k (List.replicate n false))⟩)
    (fun k => k ≤ n) (fun k => n - k) 0 (Nat.zero_le _) ⟨by simp only [Int.natCast_zero]; repeat constructor, by simp [tabL, refT, nilV]⟩ ?_
  intro k hk
  refine W.sound hmix (E := [3000000 + 98]) ?_
  by_cases hkn : k < n
  · have e1 : (k : Int) < (n : Int) := by omega
    have e5 : IntKind.i64.wrap ((k : Int) + 1) = ((k + 1 : Nat) : Int) := by rw [i64_id (by omega) (by omega)]; simp
    obtain ⟨r1, r2⟩ := refT_next hkn
    have r3 := refT_noOwn n k
    have r4 : (refT n k).length = n := by simp [refT]; omega
    unfold tabL
    simp only [run0, run1, run2, run3, run4, run5, run6, run7, run8, run9, run10, run11, run12, run13, run14, run15, run16, run17, run18, run19, run20, run21, run22, reduceCtorEq, Nat.reduceEqDiff, Nat.reduceAdd, Nat.reduceSub, Nat.reduceLeDiff, indexAddrA, indexRefA, appendA, strA, Nat.reduceMul, Nat.zero_mul, Nat.reduceMod, Int.reduceEq, Int.reduceLT, Int.reduceLE, Nat.reduceLT, Nat.lt_irrefl, Nat.reduceBEq, tys0, tys1, tys2, tys3, tys4, tys5, tys6, tys7, tys8, tys9, tys10, tys11, tys12, tys13, tys14, tys15, tys16, tys17, tys18, tys19, tys20, tys21, tys22, tys23, Try.ntmps55, Try.results55, hbig, hn, e1, e5, r1, r2, r3, r4, nilV, List.length_map, Int.natCast_nonneg, Int.le_refl, Int.toNat_natCast]
    refine ⟨k + 1, by omega, by omega, by repeat constructor, ?_⟩
    simp [tabL, rowO, List.replicate_succ']
  · have e1 : ¬ (k : Int) < (n : Int) := by omega
    obtain rfl : k = n := by omega
    have hs0 : sqr k (List.replicate k (List.replicate k false)) := ⟨by simp, fun r hr => by rw [(List.mem_replicate.1 hr).2]; simp⟩
    simp only [run0, run1, run2, run3, run4, run5, run6, run7, run8, run9, run10, run11, run12, run13, run14, run15, run16, run17, run18, run19, run20, run21, run22, reduceCtorEq, Nat.reduceEqDiff, Nat.reduceAdd, Nat.reduceSub, Nat.reduceLeDiff, indexAddrA, indexRefA, appendA, strA, Nat.reduceMul, Nat.zero_mul, Nat.reduceMod, Int.reduceEq, Int.reduceLT, Int.reduceLE, Nat.reduceLT, Nat.lt_irrefl, Nat.reduceBEq, tys0, tys1, tys2, tys3, tys4, tys5, tys6, tys7, tys8, tys9, tys10, tys11, tys12, tys13, tys14, tys15, tys16, tys17, tys18, tys19, tys20, tys21, tys22, tys23, Try.ntmps55, Try.results55, hn, e1, List.length_map]
    refine AWp.loop_inv (ι := Nat × List (List Bool)) (fun p => ⟨[.sl false (g.map posE), .junk, nilV, .ref 0 [] 0 k, .junk, .junk, .junk, .junk, .junk, .junk, .junk, .junk, .junk, .junk, .junk, .junk, .junk, .junk, .junk, .junk, .junk, .junk, .sl false (g.map posE), .int .i64 k, .int .i64 p.1, .junk, .junk, .junk, .junk, .junk, .junk, .junk, .junk, .junk, .junk, .junk, .junk, .junk, .junk, .junk, .junk, .junk, .junk, .junk, .junk, .junk, .junk, .junk, .junk, .junk, .junk, .junk, .junk, .junk, .junk, .junk], tabL k k p.2⟩)
      (fun p => p.1 ≤ k ∧ sqr k p.2 ∧ Kn g p.2 p.1 0) (fun p => k - p.1) (0, List.replicate k (List.replicate k false)) ⟨Nat.zero_le _, hs0, fun a b ha hb hc => by omega⟩ ⟨by simp only [Int.natCast_zero]; repeat constructor, rfl⟩ ?_
    rintro ⟨i, t⟩ ⟨hi, ht, hK⟩
    refine W.sound hmix (E := [3000000 + 98]) ?_
    simp only at hi ht hK
    by_cases hik : i < k
    · have f1 : (i : Int) < (k : Int) := by omega
      have f5 : IntKind.i64.wrap ((i : Int) + 1) = ((i + 1 : Nat) : Int) := by rw [i64_id (by omega) (by omega)]; simp
      simp only [run0, run1, run2, run3, run4, run5, run6, run7, run8, run9, run10, run11, run12, run13, run14, run15, run16, run17, run18, run19, run20, run21, run22, reduceCtorEq, Nat.reduceEqDiff, Nat.reduceAdd, Nat.reduceSub, Nat.reduceLeDiff, indexAddrA, indexRefA, appendA, strA, Nat.reduceMul, Nat.zero_mul, Nat.reduceMod, Int.reduceEq, Int.reduceLT, Int.reduceLE, Nat.reduceLT, Nat.lt_irrefl, Nat.reduceBEq, tys0, tys1, tys2, tys3, tys4, tys5, tys6, tys7, tys8, tys9, tys10, tys11, tys12, tys13, tys14, tys15, tys16, tys17, tys18, tys19, tys20, tys21, tys22, tys23, Try.ntmps55, Try.results55, f1]
      refine AWp.loop_inv (ι := Nat × List (List Bool)) (fun p => ⟨[.sl false (g.map posE), .junk, nilV, .ref 0 [] 0 k, .junk, .int .i64 i, .int .i64 p.1, .junk, .junk, .junk, .junk, .junk, .junk, .junk, .junk, .junk, .junk, .junk, .junk, .junk, .junk, .junk, .sl false (g.map posE), .int .i64 k, .int .i64 i, .junk, .junk, .junk, .junk, .junk, .junk, .junk, .junk, .junk, .junk, .junk, .junk, .junk, .junk, .junk, .junk, .junk, .junk, .junk, .junk, .junk, .junk, .junk, .junk, .junk, .junk, .junk, .junk, .junk, .junk, .junk], tabL k k p.2⟩)
        (fun p => p.1 ≤ i + 1 ∧ sqr k p.2 ∧ Kn g p.2 i p.1) (fun p => i + 1 - p.1) (0, t) ⟨Nat.zero_le _, ht, hK⟩ ⟨by simp only [Int.natCast_zero]; repeat constructor, rfl⟩ ?_
      rintro ⟨m, t⟩ ⟨hm, ht, hK⟩
      refine W.sound hmix (E := [3000000 + 98]) ?_
      simp only at hm ht hK
      by_cases hmi : m ≤ i
      · have k1 : (m : Int) ≤ (i : Int) := by omega
        have k5 : IntKind.i64.wrap ((m : Int) + 1) = ((m + 1 : Nat) : Int) := by rw [i64_id (by omega) (by omega)]; simp
        have hmk : m < k := by omega
        have hmk1 : (m : Int) < (k : Int) := by omega
        have hst := hK.step hg ht hik hmi
        have ht1 := setT_sqr ht i m (shownB g t i m) hik
        have ht2 := setT_sqr ht1 m i (shownB g (setT t i m (shownB g t i m)) m i) hmk
        obtain ⟨ra, ra1, ra2, ra3⟩ := tbl_row ht hik
        obtain ⟨rb, rb1, rb2, rb3⟩ := tbl_row ht1 hmk
        have sa := setT_tab (k := m) (v := shownB g t i m) (n := k) ra1
        have sb := setT_tab (k := i) (v := shownB g (setT t i m (shownB g t i m)) m i) (n := k) rb1
        have g0 : ∀ t, (tabL k k t)[0]? = some (.vec 118 1 0 (refT k k)) := fun t => rfl
        have ga : (tabL k k t)[i + 1]? = some (.vec 4 1 0 (bools ra)) := by
          unfold tabL; rw [List.getElem?_cons_succ, List.getElem?_map, ra1]; rfl
        have gb : (tabL k k (setT t i m (shownB g t i m)))[m + 1]? = some (.vec 4 1 0 (bools rb)) := by
          unfold tabL; rw [List.getElem?_cons_succ, List.getElem?_map, rb1]; rfl
        have na := bools_noOwn ra
        have nb := bools_noOwn rb
        have nr := refT_noOwn k k
        have ri := refT_get hik
        have rm := refT_get hmk
        have rl : (refT k k).length = k := by simp [refT]
        have ea := ra3 m hmk
        have eb := rb3 i hik
        have lk : k ≤ (bools ra).length := by simp [ra2]
        have lk2 : k ≤ (bools rb).length := by simp [rb2]
        subst hn
        simp only [run0, run1, run2, run3, run4, run5, run6, run7, run8, run9, run10, run11, run12, run13, run14, run15, run16, run17, run18, run19, run20, run21, run22, reduceCtorEq, Nat.reduceEqDiff, Nat.reduceAdd, Nat.reduceSub, Nat.reduceLeDiff, indexAddrA, indexRefA, appendA, strA, Nat.reduceMul, Nat.zero_mul, Nat.reduceMod, Int.reduceEq, Int.reduceLT, Int.reduceLE, Nat.reduceLT, Nat.lt_irrefl, Nat.reduceBEq, tys0, tys1, tys2, tys3, tys4, tys5, tys6, tys7, tys8, tys9, tys10, tys11, tys12, tys13, tys14, tys15, tys16, tys17, tys18, tys19, tys20, tys21, tys22, tys23, Try.ntmps55, Try.results55, k1, f1, g0, ga, na, nr, ri, rl, ea, lk, hmk1, ra2, List.length_map, List.mapIdx_cons, List.mapIdx_nil, viewC, Int.natCast_nonneg, Int.toNat_natCast]
        refine ⟨by kernel_rfl, ?_⟩
        refine RunL.lendB rfl rfl ok_f98 rfl hW (gaShown_ok g hg hl t ht i m hik hmk) rfl (fun X => .cons (.pur (.of (show pureB (.sl false (g.map posE)) = true by simp only [pureB, pg]))) (.cons (Vw_tab ht X) (.cons (.pur (.int _ _)) (.cons (.pur (.int _ _)) .nil)))) rfl ?_
        simp only [run0, run1, run2, run3, run4, run5, run6, run7, run8, run9, run10, run11, run12, run13, run14, run15, run16, run17, run18, run19, run20, run21, run22, reduceCtorEq, Nat.reduceEqDiff, Nat.reduceAdd, Nat.reduceSub, Nat.reduceLeDiff, indexAddrA, indexRefA, appendA, strA, Nat.reduceMul, Nat.zero_mul, Nat.reduceMod, Int.reduceEq, Int.reduceLT, Int.reduceLE, Nat.reduceLT, Nat.lt_irrefl, Nat.reduceBEq, tys0, tys1, tys2, tys3, tys4, tys5, tys6, tys7, tys8, tys9, tys10, tys11, tys12, tys13, tys14, tys15, tys16, tys17, tys18, tys19, tys20, tys21, tys22, tys23, Try.ntmps55, Try.results55, k1, f1, g0, ga, na, nr, ri, rl, ea, lk, hmk1, ra2, sa, gb, nb, rm, eb, lk2, rb2, List.length_map, List.mapIdx_cons, List.mapIdx_nil, viewC, Int.natCast_nonneg, Int.toNat_natCast]
        refine ⟨by kernel_rfl, ?_⟩
        refine RunL.lendB rfl rfl ok_f98 rfl hW (gaShown_ok g hg hl _ ht1 m i hmk hik) rfl (fun X => .cons (.pur (.of (show pureB (.sl false (g.map posE)) = true by simp only [pureB, pg]))) (.cons (Vw_tab ht1 X) (.cons (.pur (.int _ _)) (.cons (.pur (.int _ _)) .nil)))) rfl ?_
        simp only [run0, run1, run2, run3, run4, run5, run6, run7, run8, run9, run10, run11, run12, run13, run14, run15, run16, run17, run18, run19, run20, run21, run22, reduceCtorEq, Nat.reduceEqDiff, Nat.reduceAdd, Nat.reduceSub, Nat.reduceLeDiff, indexAddrA, indexRefA, appendA, strA, Nat.reduceMul, Nat.zero_mul, Nat.reduceMod, Int.reduceEq, Int.reduceLT, Int.reduceLE, Nat.reduceLT, Nat.lt_irrefl, Nat.reduceBEq, tys0, tys1, tys2, tys3, tys4, tys5, tys6, tys7, tys8, tys9, tys10, tys11, tys12, tys13, tys14, tys15, tys16, tys17, tys18, tys19, tys20, tys21, tys22, tys23, Try.ntmps55, Try.results55, k1, f1, g0, gb, nb, nr, rm, rl, eb, lk2, rb2, sb, k5, List.length_map, List.mapIdx_cons, List.mapIdx_nil, viewC, Int.natCast_nonneg, Int.toNat_natCast]
        exact ⟨(m + 1, _), ⟨by simp only; omega, ht2, hst⟩, by simp only; omega, by repeat constructor, rfl⟩
      · have k1 : ¬ (m : Int) ≤ (i : Int) := by omega
        obtain rfl : m = i + 1 := by omega
        simp only [run0, run1, run2, run3, run4, run5, run6, run7, run8, run9, run10, run11, run12, run13, run14, run15, run16, run17, run18, run19, run20, run21, run22, reduceCtorEq, Nat.reduceEqDiff, Nat.reduceAdd, Nat.reduceSub, Nat.reduceLeDiff, indexAddrA, indexRefA, appendA, strA, Nat.reduceMul, Nat.zero_mul, Nat.reduceMod, Int.reduceEq, Int.reduceLT, Int.reduceLE, Nat.reduceLT, Nat.lt_irrefl, Nat.reduceBEq, tys0, tys1, tys2, tys3, tys4, tys5, tys6, tys7, tys8, tys9, tys10, tys11, tys12, tys13, tys14, tys15, tys16, tys17, tys18, tys19, tys20, tys21, tys22, tys23, Try.ntmps55, Try.results55, k1, f5]
        exact ⟨(i + 1, t), ⟨by simp only; omega, ht, fun a b ha hb hc => by
          by_cases hai : a ≤ i
          · by_cases hbi : b ≤ i
            · exact hK a b hai hbi (by omega)
            · omega
          · omega⟩, by simp only; omega, by repeat constructor, rfl⟩
    · have f1 : ¬ (i : Int) < (k : Int) := by omega
      obtain rfl : i = k := by omega
      have := tab_eq (g := g) (by rw [hn]; exact ht) (fun a b ha hb => hK a b (by omega) (by omega) (.inl ⟨by omega, by omega⟩))
      subst this
      simp only [run0, run1, run2, run3, run4, run5, run6, run7, run8, run9, run10, run11, run12, run13, run14, run15, run16, run17, run18, run19, run20, run21, run22, reduceCtorEq, Nat.reduceEqDiff, Nat.reduceAdd, Nat.reduceSub, Nat.reduceLeDiff, indexAddrA, indexRefA, appendA, strA, Nat.reduceMul, Nat.zero_mul, Nat.reduceMod, Int.reduceEq, Int.reduceLT, Int.reduceLE, Nat.reduceLT, Nat.lt_irrefl, Nat.reduceBEq, tys0, tys1, tys2, tys3, tys4, tys5, tys6, tys7, tys8, tys9, tys10, tys11, tys12, tys13, tys14, tys15, tys16, tys17, tys18, tys19, tys20, tys21, tys22, tys23, Try.ntmps55, Try.results55, f1]
      have hv := Vw_tab ht []
      rw [List.append_nil] at hv
      exact Fin.value hv

end Go.Proofs.Ytllcljajlemmaaa
/-
  Games: compared, and who wins: the laws.
-/
namespace Go.Proofs.Ytllcljajlemmaaa
open Go K
set_option linter.unusedSimpArgs false
set_option linter.unusedVariables false
set_option maxHeartbeats 1600000
set_option maxRecDepth 8000

theorem tabG_pure (g : List GP) : pureL ((tabG g).map rowV) = true := rows_pure _
theorem orderG_ok (g : List GP) (a b : Nat) (ha : a < g.length) (hb : b < g.length) : Ct Try.prog 65 [.sl false ((tabG g).map rowV), .int .i64 a, .int .i64 b] [] (.int .i64 (cmpG g a b)) [] := by
  have := gaOrder_ok g.length (tabG g) (tabG_sqr g) a b ha hb
  rw [tbl_tabG g ha hb, tbl_tabG g hb ha] at this
  exact this
theorem specCompareG_ok (g : List GP) (a b : Int) (hl : g.length ≤ 1048576) (hs : ∀ p ∈ g, smallP p) : Ct Try.prog 22 [.sl false (g.map posE), .int .i64 a, .int .i64 b] [] (cmpR g a b) [] := by
  have pg := posL_pure g
  have pt := tabG_pure g
  have hw : IntKind.i64.wrap ((g.length : Int) - 1) = (g.length : Int) - 1 := i64_id (by omega) (by omega)
  refine Ct.by_ hmix [] Try.func22 rfl ?_
  simp only [run0, run1, run2, run3, run4, run5, run6, run7, run8, run9, run10, run11, run12, run13, run14, run15, run16, run17, run18, run19, run20, run21, run22, reduceCtorEq, Nat.reduceEqDiff, Nat.reduceAdd, Nat.reduceSub, Nat.reduceLeDiff, indexAddrA, indexRefA, appendA, strA, Nat.reduceMul, Nat.zero_mul, Nat.reduceMod, Int.reduceEq, Int.reduceLT, Int.reduceLE, Nat.reduceLT, Nat.lt_irrefl, Nat.reduceBEq, tys0, tys1, tys2, tys3, tys4, tys5, tys6, tys7, tys8, tys9, tys10, tys11, tys12, tys13, tys14, tys15, tys16, tys17, tys18, tys19, tys20, tys21, tys22, tys23, Try.ntmps22, Try.results22]
  refine RunL.callp rfl rfl ok_f63 (gaHas_ok g a hl hs) (by simp only [pureL, pureB, pg, Bool.and_self]) rfl ?_
  cases h1 : hasB g a
  · simp only [run0, run1, run2, run3, run4, run5, run6, run7, run8, run9, run10, run11, run12, run13, run14, run15, run16, run17, run18, run19, run20, run21, run22, reduceCtorEq, Nat.reduceEqDiff, Nat.reduceAdd, Nat.reduceSub, Nat.reduceLeDiff, indexAddrA, indexRefA, appendA, strA, Nat.reduceMul, Nat.zero_mul, Nat.reduceMod, Int.reduceEq, Int.reduceLT, Int.reduceLE, Nat.reduceLT, Nat.lt_irrefl, Nat.reduceBEq, tys0, tys1, tys2, tys3, tys4, tys5, tys6, tys7, tys8, tys9, tys10, tys11, tys12, tys13, tys14, tys15, tys16, tys17, tys18, tys19, tys20, tys21, tys22, tys23, Try.ntmps22, Try.results22]
    exact Fin.eq (by simp [cmpR, h1]) rfl
  obtain ⟨hgb, a, rfl, ha⟩ := hasB_ok h1
  simp only [run0, run1, run2, run3, run4, run5, run6, run7, run8, run9, run10, run11, run12, run13, run14, run15, run16, run17, run18, run19, run20, run21, run22, reduceCtorEq, Nat.reduceEqDiff, Nat.reduceAdd, Nat.reduceSub, Nat.reduceLeDiff, indexAddrA, indexRefA, appendA, strA, Nat.reduceMul, Nat.zero_mul, Nat.reduceMod, Int.reduceEq, Int.reduceLT, Int.reduceLE, Nat.reduceLT, Nat.lt_irrefl, Nat.reduceBEq, tys0, tys1, tys2, tys3, tys4, tys5, tys6, tys7, tys8, tys9, tys10, tys11, tys12, tys13, tys14, tys15, tys16, tys17, tys18, tys19, tys20, tys21, tys22, tys23, Try.ntmps22, Try.results22, List.length_map, hw]
  refine RunL.callp rfl rfl ok_f64 (l1In_ok b 0 ((g.length : Int) - 1)) (by first | rfl | simp only [pureL, pureB, Bool.and_self, Bool.and_true, Bool.true_and]) rfl ?_
  have h2' : hasB g b = inB b 0 ((g.length : Int) - 1) := by simp [hasB, hgb]
  cases h2 : inB b 0 ((g.length : Int) - 1)
  · simp only [run0, run1, run2, run3, run4, run5, run6, run7, run8, run9, run10, run11, run12, run13, run14, run15, run16, run17, run18, run19, run20, run21, run22, reduceCtorEq, Nat.reduceEqDiff, Nat.reduceAdd, Nat.reduceSub, Nat.reduceLeDiff, indexAddrA, indexRefA, appendA, strA, Nat.reduceMul, Nat.zero_mul, Nat.reduceMod, Int.reduceEq, Int.reduceLT, Int.reduceLE, Nat.reduceLT, Nat.lt_irrefl, Nat.reduceBEq, tys0, tys1, tys2, tys3, tys4, tys5, tys6, tys7, tys8, tys9, tys10, tys11, tys12, tys13, tys14, tys15, tys16, tys17, tys18, tys19, tys20, tys21, tys22, tys23, Try.ntmps22, Try.results22]
    exact Fin.eq (by rw [h2] at h2'; simp [cmpR, h2']) rfl
  rw [h2] at h2'
  obtain ⟨_, b, rfl, hb⟩ := hasB_ok h2'
  have hg := (gameB_ok hgb).1
  simp only [run0, run1, run2, run3, run4, run5, run6, run7, run8, run9, run10, run11, run12, run13, run14, run15, run16, run17, run18, run19, run20, run21, run22, reduceCtorEq, Nat.reduceEqDiff, Nat.reduceAdd, Nat.reduceSub, Nat.reduceLeDiff, indexAddrA, indexRefA, appendA, strA, Nat.reduceMul, Nat.zero_mul, Nat.reduceMod, Int.reduceEq, Int.reduceLT, Int.reduceLE, Nat.reduceLT, Nat.lt_irrefl, Nat.reduceBEq, tys0, tys1, tys2, tys3, tys4, tys5, tys6, tys7, tys8, tys9, tys10, tys11, tys12, tys13, tys14, tys15, tys16, tys17, tys18, tys19, tys20, tys21, tys22, tys23, Try.ntmps22, Try.results22]
  refine RunL.callp rfl rfl ok_f55 (gaAtMost_ok g hg hl) (by simp only [pureL, pureB, pg, Bool.and_self]) rfl ?_
  simp only [run0, run1, run2, run3, run4, run5, run6, run7, run8, run9, run10, run11, run12, run13, run14, run15, run16, run17, run18, run19, run20, run21, run22, reduceCtorEq, Nat.reduceEqDiff, Nat.reduceAdd, Nat.reduceSub, Nat.reduceLeDiff, indexAddrA, indexRefA, appendA, strA, Nat.reduceMul, Nat.zero_mul, Nat.reduceMod, Int.reduceEq, Int.reduceLT, Int.reduceLE, Nat.reduceLT, Nat.lt_irrefl, Nat.reduceBEq, tys0, tys1, tys2, tys3, tys4, tys5, tys6, tys7, tys8, tys9, tys10, tys11, tys12, tys13, tys14, tys15, tys16, tys17, tys18, tys19, tys20, tys21, tys22, tys23, Try.ntmps22, Try.results22]
  refine RunL.callp rfl rfl ok_f65 (orderG_ok g a b ha hb) (by simp only [pureL, pureB, pt, Bool.and_self]) rfl ?_
  simp only [run0, run1, run2, run3, run4, run5, run6, run7, run8, run9, run10, run11, run12, run13, run14, run15, run16, run17, run18, run19, run20, run21, run22, reduceCtorEq, Nat.reduceEqDiff, Nat.reduceAdd, Nat.reduceSub, Nat.reduceLeDiff, indexAddrA, indexRefA, appendA, strA, Nat.reduceMul, Nat.zero_mul, Nat.reduceMod, Int.reduceEq, Int.reduceLT, Int.reduceLE, Nat.reduceLT, Nat.lt_irrefl, Nat.reduceBEq, tys0, tys1, tys2, tys3, tys4, tys5, tys6, tys7, tys8, tys9, tys10, tys11, tys12, tys13, tys14, tys15, tys16, tys17, tys18, tys19, tys20, tys21, tys22, tys23, Try.ntmps22, Try.results22]
  exact Fin.eq (by simp [cmpR, h1, h2']) rfl
theorem int_in {x : AV} (h : IsOf Try.prog 3 x) : ∃ n : Int, x = .int .i64 n := by
  obtain ⟨_, h⟩ := h.one ty_a3
  obtain ⟨n, e, _⟩ := h.int Try.underlying3
  simp at e
  exact ⟨n, e⟩
theorem FnExactCompareGames_ok {a0 a1 a2 : AV} (h0 : IsOf Try.prog 22 a0) (h1 : IsOf Try.prog 3 a1) (h2 : IsOf Try.prog 3 a2) : Ct Try.prog 5 [a0, a1, a2] [] (.bool true) [] := by
  obtain ⟨g, rfl, hl, hf⟩ := laws_isPoS h0
  obtain ⟨x1, rfl⟩ := int_in h1
  obtain ⟨x2, rfl⟩ := int_in h2
  have pg := posL_pure g
  refine Ct.by_ hmix [] Try.func5 rfl ?_
  simp only [run0, run1, run2, run3, run4, run5, run6, run7, run8, run9, run10, run11, run12, run13, run14, run15, run16, run17, run18, run19, run20, run21, run22, reduceCtorEq, Nat.reduceEqDiff, Nat.reduceAdd, Nat.reduceSub, Nat.reduceLeDiff, indexAddrA, indexRefA, appendA, strA, Nat.reduceMul, Nat.zero_mul, Nat.reduceMod, Int.reduceEq, Int.reduceLT, Int.reduceLE, Nat.reduceLT, Nat.lt_irrefl, Nat.reduceBEq, tys0, tys1, tys2, tys3, tys4, tys5, tys6, tys7, tys8, tys9, tys10, tys11, tys12, tys13, tys14, tys15, tys16, tys17, tys18, tys19, tys20, tys21, tys22, tys23, Try.ntmps5, Try.results5]
  refine RunL.callp rfl rfl ok_f13 (szPositionS_ok g 1048576 hl hf (by omega) (by omega)) (by simp only [pureL, pureB, pg, Bool.and_self]) rfl ?_
  rcases szN_spec (g.length + gsz g) 1048576 with ⟨g1, g2⟩ | ⟨g1, g2⟩
  case inr =>
    have e1 : szN (g.length + gsz g) 1048576 < 0 := by omega
    simp only [run0, run1, run2, run3, run4, run5, run6, run7, run8, run9, run10, run11, run12, run13, run14, run15, run16, run17, run18, run19, run20, run21, run22, reduceCtorEq, Nat.reduceEqDiff, Nat.reduceAdd, Nat.reduceSub, Nat.reduceLeDiff, indexAddrA, indexRefA, appendA, strA, Nat.reduceMul, Nat.zero_mul, Nat.reduceMod, Int.reduceEq, Int.reduceLT, Int.reduceLE, Nat.reduceLT, Nat.lt_irrefl, Nat.reduceBEq, tys0, tys1, tys2, tys3, tys4, tys5, tys6, tys7, tys8, tys9, tys10, tys11, tys12, tys13, tys14, tys15, tys16, tys17, tys18, tys19, tys20, tys21, tys22, tys23, Try.ntmps5, Try.results5, e1]
    exact Fin.eq rfl rfl
  have e1 : ¬ szN (g.length + gsz g) 1048576 < 0 := by omega
  have gl : g.length ≤ 1048576 := by omega
  have gs : ∀ p ∈ g, smallP p := fun p hp => by have := gsz_mem hp; unfold psz at this; exact ⟨by omega, by omega⟩
  simp only [run0, run1, run2, run3, run4, run5, run6, run7, run8, run9, run10, run11, run12, run13, run14, run15, run16, run17, run18, run19, run20, run21, run22, reduceCtorEq, Nat.reduceEqDiff, Nat.reduceAdd, Nat.reduceSub, Nat.reduceLeDiff, indexAddrA, indexRefA, appendA, strA, Nat.reduceMul, Nat.zero_mul, Nat.reduceMod, Int.reduceEq, Int.reduceLT, Int.reduceLE, Nat.reduceLT, Nat.lt_irrefl, Nat.reduceBEq, tys0, tys1, tys2, tys3, tys4, tys5, tys6, tys7, tys8, tys9, tys10, tys11, tys12, tys13, tys14, tys15, tys16, tys17, tys18, tys19, tys20, tys21, tys22, tys23, Try.ntmps5, Try.results5, e1]
  refine RunL.callp rfl rfl ok_f15 (toPositionS_ok g gl gs) (by simp only [pureL, pureB, pg, Bool.and_self]) rfl ?_
  simp only [run0, run1, run2, run3, run4, run5, run6, run7, run8, run9, run10, run11, run12, run13, run14, run15, run16, run17, run18, run19, run20, run21, run22, reduceCtorEq, Nat.reduceEqDiff, Nat.reduceAdd, Nat.reduceSub, Nat.reduceLeDiff, indexAddrA, indexRefA, appendA, strA, Nat.reduceMul, Nat.zero_mul, Nat.reduceMod, Int.reduceEq, Int.reduceLT, Int.reduceLE, Nat.reduceLT, Nat.lt_irrefl, Nat.reduceBEq, tys0, tys1, tys2, tys3, tys4, tys5, tys6, tys7, tys8, tys9, tys10, tys11, tys12, tys13, tys14, tys15, tys16, tys17, tys18, tys19, tys20, tys21, tys22, tys23, Try.ntmps5, Try.results5]
  refine RunL.callp rfl rfl ok_f22 (specCompareG_ok g x1 x2 gl gs) (by simp only [pureL, pureB, pg, Bool.and_self]) rfl ?_
  simp only [run0, run1, run2, run3, run4, run5, run6, run7, run8, run9, run10, run11, run12, run13, run14, run15, run16, run17, run18, run19, run20, run21, run22, reduceCtorEq, Nat.reduceEqDiff, Nat.reduceAdd, Nat.reduceSub, Nat.reduceLeDiff, indexAddrA, indexRefA, appendA, strA, Nat.reduceMul, Nat.zero_mul, Nat.reduceMod, Int.reduceEq, Int.reduceLT, Int.reduceLE, Nat.reduceLT, Nat.lt_irrefl, Nat.reduceBEq, tys0, tys1, tys2, tys3, tys4, tys5, tys6, tys7, tys8, tys9, tys10, tys11, tys12, tys13, tys14, tys15, tys16, tys17, tys18, tys19, tys20, tys21, tys22, tys23, Try.ntmps5, Try.results5, cmpR]
  refine RunL.callp rfl rfl ok_f15 (toPositionS_ok g gl gs) (by simp only [pureL, pureB, pg, Bool.and_self]) rfl ?_
  simp only [run0, run1, run2, run3, run4, run5, run6, run7, run8, run9, run10, run11, run12, run13, run14, run15, run16, run17, run18, run19, run20, run21, run22, reduceCtorEq, Nat.reduceEqDiff, Nat.reduceAdd, Nat.reduceSub, Nat.reduceLeDiff, indexAddrA, indexRefA, appendA, strA, Nat.reduceMul, Nat.zero_mul, Nat.reduceMod, Int.reduceEq, Int.reduceLT, Int.reduceLE, Nat.reduceLT, Nat.lt_irrefl, Nat.reduceBEq, tys0, tys1, tys2, tys3, tys4, tys5, tys6, tys7, tys8, tys9, tys10, tys11, tys12, tys13, tys14, tys15, tys16, tys17, tys18, tys19, tys20, tys21, tys22, tys23, Try.ntmps5, Try.results5]
  refine RunL.callp rfl rfl ok_f23 (implCompareG_ok g x1 x2 gl gs) (by simp only [pureL, pureB, pg, Bool.and_self]) rfl ?_
  simp only [run0, run1, run2, run3, run4, run5, run6, run7, run8, run9, run10, run11, run12, run13, run14, run15, run16, run17, run18, run19, run20, run21, run22, reduceCtorEq, Nat.reduceEqDiff, Nat.reduceAdd, Nat.reduceSub, Nat.reduceLeDiff, indexAddrA, indexRefA, appendA, strA, Nat.reduceMul, Nat.zero_mul, Nat.reduceMod, Int.reduceEq, Int.reduceLT, Int.reduceLE, Nat.reduceLT, Nat.lt_irrefl, Nat.reduceBEq, tys0, tys1, tys2, tys3, tys4, tys5, tys6, tys7, tys8, tys9, tys10, tys11, tys12, tys13, tys14, tys15, tys16, tys17, tys18, tys19, tys20, tys21, tys22, tys23, Try.ntmps5, Try.results5, cmpR, bne_self_eq_false]
  refine RunL.callp rfl rfl ok_f15 (toPositionS_ok g gl gs) (by simp only [pureL, pureB, pg, Bool.and_self]) rfl ?_
  simp only [run0, run1, run2, run3, run4, run5, run6, run7, run8, run9, run10, run11, run12, run13, run14, run15, run16, run17, run18, run19, run20, run21, run22, reduceCtorEq, Nat.reduceEqDiff, Nat.reduceAdd, Nat.reduceSub, Nat.reduceLeDiff, indexAddrA, indexRefA, appendA, strA, Nat.reduceMul, Nat.zero_mul, Nat.reduceMod, Int.reduceEq, Int.reduceLT, Int.reduceLE, Nat.reduceLT, Nat.lt_irrefl, Nat.reduceBEq, tys0, tys1, tys2, tys3, tys4, tys5, tys6, tys7, tys8, tys9, tys10, tys11, tys12, tys13, tys14, tys15, tys16, tys17, tys18, tys19, tys20, tys21, tys22, tys23, Try.ntmps5, Try.results5]
  refine RunL.callp rfl rfl ok_f17 (eqPositionS_ok g gl gs) (by simp only [pureL, pureB, pg, Bool.and_self]) rfl ?_
  simp only [run0, run1, run2, run3, run4, run5, run6, run7, run8, run9, run10, run11, run12, run13, run14, run15, run16, run17, run18, run19, run20, run21, run22, reduceCtorEq, Nat.reduceEqDiff, Nat.reduceAdd, Nat.reduceSub, Nat.reduceLeDiff, indexAddrA, indexRefA, appendA, strA, Nat.reduceMul, Nat.zero_mul, Nat.reduceMod, Int.reduceEq, Int.reduceLT, Int.reduceLE, Nat.reduceLT, Nat.lt_irrefl, Nat.reduceBEq, tys0, tys1, tys2, tys3, tys4, tys5, tys6, tys7, tys8, tys9, tys10, tys11, tys12, tys13, tys14, tys15, tys16, tys17, tys18, tys19, tys20, tys21, tys22, tys23, Try.ntmps5, Try.results5]
  exact Fin.eq rfl rfl


/-! ### who wins -/
def outS (c : Int) : ByteArray := if c = 1 then ⟨#[108, 101, 102, 116]⟩ else if c = -1 then ⟨#[114, 105, 103, 104, 116]⟩ else if c = 0 then ⟨#[115, 101, 99, 111, 110, 100]⟩ else ⟨#[102, 105, 114, 115, 116]⟩
theorem nb : ((-1 : Int) == 1) = false ∧ ((0 : Int) == 1) = false ∧ ((2 : Int) == 1) = false ∧ ((0 : Int) == -1) = false ∧ ((2 : Int) == -1) = false ∧ ((2 : Int) == 0) = false ∧ ((1 : Int) == 1) = true ∧ ((-1 : Int) == -1) = true ∧ ((0 : Int) == 0) = true ∧ ((1 : Int) == 0) = false ∧ ((-1 : Int) == 0) = false ∧ ((1 : Int) == -1) = false := by decide
def outR (g : List GP) (a : Int) : AV := .tup [.str (if hasB g a then outS (cmpG g a.toNat 0) else ⟨#[]⟩), .bool (hasB g a)]
theorem hasB_zero {g : List GP} {a : Int} (h : hasB g a = true) : hasB g 0 = true := by
  simp only [hasB, Bool.and_eq_true, inB, decide_eq_true_eq] at h ⊢
  exact ⟨h.1, by omega, by omega⟩
theorem cmpG_val (g : List GP) (a b : Nat) : cmpG g a b = 1 ∨ cmpG g a b = -1 ∨ cmpG g a b = 0 ∨ cmpG g a b = 2 := by
  unfold cmpG ordI
  cases leG g a b <;> cases leG g b a <;> simp
theorem implOut_ok (g : List GP) (a : Int) (hl : g.length ≤ 1048576) (hs : ∀ p ∈ g, smallP p) : Ct Try.prog 25 [.sl false (g.map posE), .int .i64 a] [] (outR g a) [] := by
  have pg := posL_pure g
  refine Ct.by_ hmix [] Try.func25 rfl ?_
  simp only [run0, run1, run2, run3, run4, run5, run6, run7, run8, run9, run10, run11, run12, run13, run14, run15, run16, run17, run18, run19, run20, run21, run22, reduceCtorEq, Nat.reduceEqDiff, Nat.reduceAdd, Nat.reduceSub, Nat.reduceLeDiff, indexAddrA, indexRefA, appendA, strA, Nat.reduceMul, Nat.zero_mul, Nat.reduceMod, Int.reduceEq, Int.reduceLT, Int.reduceLE, Nat.reduceLT, Nat.lt_irrefl, Nat.reduceBEq, tys0, tys1, tys2, tys3, tys4, tys5, tys6, tys7, tys8, tys9, tys10, tys11, tys12, tys13, tys14, tys15, tys16, tys17, tys18, tys19, tys20, tys21, tys22, tys23, Try.ntmps25, Try.results25]
  refine RunL.callp rfl rfl ok_f23 (implCompareG_ok g a 0 hl hs) (by simp only [pureL, pureB, pg, Bool.and_self]) rfl ?_
  cases h1 : hasB g a
  · simp only [run0, run1, run2, run3, run4, run5, run6, run7, run8, run9, run10, run11, run12, run13, run14, run15, run16, run17, run18, run19, run20, run21, run22, reduceCtorEq, Nat.reduceEqDiff, Nat.reduceAdd, Nat.reduceSub, Nat.reduceLeDiff, indexAddrA, indexRefA, appendA, strA, Nat.reduceMul, Nat.zero_mul, Nat.reduceMod, Int.reduceEq, Int.reduceLT, Int.reduceLE, Nat.reduceLT, Nat.lt_irrefl, Nat.reduceBEq, tys0, tys1, tys2, tys3, tys4, tys5, tys6, tys7, tys8, tys9, tys10, tys11, tys12, tys13, tys14, tys15, tys16, tys17, tys18, tys19, tys20, tys21, tys22, tys23, Try.ntmps25, Try.results25, cmpR, h1]
    exact Fin.eq (by simp [outR, h1]) rfl
  have h0 := hasB_zero h1
  unfold outR
  rw [h1, if_pos rfl]
  rcases cmpG_val g a.toNat 0 with h | h | h | h <;> simp only [run0, run1, run2, run3, run4, run5, run6, run7, run8, run9, run10, run11, run12, run13, run14, run15, run16, run17, run18, run19, run20, run21, run22, reduceCtorEq, Nat.reduceEqDiff, Nat.reduceAdd, Nat.reduceSub, Nat.reduceLeDiff, indexAddrA, indexRefA, appendA, strA, Nat.reduceMul, Nat.zero_mul, Nat.reduceMod, Int.reduceEq, Int.reduceLT, Int.reduceLE, Nat.reduceLT, Nat.lt_irrefl, Nat.reduceBEq, tys0, tys1, tys2, tys3, tys4, tys5, tys6, tys7, tys8, tys9, tys10, tys11, tys12, tys13, tys14, tys15, tys16, tys17, tys18, tys19, tys20, tys21, tys22, tys23, Try.ntmps25, Try.results25, cmpR, h1, h0, Int.toNat_zero, h, nb] <;> exact Fin.eq rfl rfl
theorem specOut_ok (g : List GP) (a : Int) (hl : g.length ≤ 1048576) (hs : ∀ p ∈ g, smallP p) : Ct Try.prog 24 [.sl false (g.map posE), .int .i64 a] [] (outR g a) [] := by
  have pg := posL_pure g
  have pt := tabG_pure g
  refine Ct.by_ hmix [] Try.func24 rfl ?_
  simp only [run0, run1, run2, run3, run4, run5, run6, run7, run8, run9, run10, run11, run12, run13, run14, run15, run16, run17, run18, run19, run20, run21, run22, reduceCtorEq, Nat.reduceEqDiff, Nat.reduceAdd, Nat.reduceSub, Nat.reduceLeDiff, indexAddrA, indexRefA, appendA, strA, Nat.reduceMul, Nat.zero_mul, Nat.reduceMod, Int.reduceEq, Int.reduceLT, Int.reduceLE, Nat.reduceLT, Nat.lt_irrefl, Nat.reduceBEq, tys0, tys1, tys2, tys3, tys4, tys5, tys6, tys7, tys8, tys9, tys10, tys11, tys12, tys13, tys14, tys15, tys16, tys17, tys18, tys19, tys20, tys21, tys22, tys23, Try.ntmps24, Try.results24]
  refine RunL.callp rfl rfl ok_f63 (gaHas_ok g a hl hs) (by simp only [pureL, pureB, pg, Bool.and_self]) rfl ?_
  cases h1 : hasB g a
  · simp only [run0, run1, run2, run3, run4, run5, run6, run7, run8, run9, run10, run11, run12, run13, run14, run15, run16, run17, run18, run19, run20, run21, run22, reduceCtorEq, Nat.reduceEqDiff, Nat.reduceAdd, Nat.reduceSub, Nat.reduceLeDiff, indexAddrA, indexRefA, appendA, strA, Nat.reduceMul, Nat.zero_mul, Nat.reduceMod, Int.reduceEq, Int.reduceLT, Int.reduceLE, Nat.reduceLT, Nat.lt_irrefl, Nat.reduceBEq, tys0, tys1, tys2, tys3, tys4, tys5, tys6, tys7, tys8, tys9, tys10, tys11, tys12, tys13, tys14, tys15, tys16, tys17, tys18, tys19, tys20, tys21, tys22, tys23, Try.ntmps24, Try.results24]
    exact Fin.eq (by simp [outR, h1]) rfl
  unfold outR
  rw [h1, if_pos rfl]
  obtain ⟨hgb, a, rfl, ha⟩ := hasB_ok h1
  have hg := (gameB_ok hgb).1
  have ho := orderG_ok g a 0 ha (by omega)
  rw [Int.natCast_zero] at ho
  simp only [run0, run1, run2, run3, run4, run5, run6, run7, run8, run9, run10, run11, run12, run13, run14, run15, run16, run17, run18, run19, run20, run21, run22, reduceCtorEq, Nat.reduceEqDiff, Nat.reduceAdd, Nat.reduceSub, Nat.reduceLeDiff, indexAddrA, indexRefA, appendA, strA, Nat.reduceMul, Nat.zero_mul, Nat.reduceMod, Int.reduceEq, Int.reduceLT, Int.reduceLE, Nat.reduceLT, Nat.lt_irrefl, Nat.reduceBEq, tys0, tys1, tys2, tys3, tys4, tys5, tys6, tys7, tys8, tys9, tys10, tys11, tys12, tys13, tys14, tys15, tys16, tys17, tys18, tys19, tys20, tys21, tys22, tys23, Try.ntmps24, Try.results24]
  refine RunL.callp rfl rfl ok_f55 (gaAtMost_ok g hg hl) (by simp only [pureL, pureB, pg, Bool.and_self]) rfl ?_
  simp only [run0, run1, run2, run3, run4, run5, run6, run7, run8, run9, run10, run11, run12, run13, run14, run15, run16, run17, run18, run19, run20, run21, run22, reduceCtorEq, Nat.reduceEqDiff, Nat.reduceAdd, Nat.reduceSub, Nat.reduceLeDiff, indexAddrA, indexRefA, appendA, strA, Nat.reduceMul, Nat.zero_mul, Nat.reduceMod, Int.reduceEq, Int.reduceLT, Int.reduceLE, Nat.reduceLT, Nat.lt_irrefl, Nat.reduceBEq, tys0, tys1, tys2, tys3, tys4, tys5, tys6, tys7, tys8, tys9, tys10, tys11, tys12, tys13, tys14, tys15, tys16, tys17, tys18, tys19, tys20, tys21, tys22, tys23, Try.ntmps24, Try.results24]
  refine RunL.callp rfl rfl ok_f65 ho (by simp only [pureL, pureB, pt, Bool.and_self]) rfl ?_
  rcases cmpG_val g a 0 with h | h | h | h <;> simp only [run0, run1, run2, run3, run4, run5, run6, run7, run8, run9, run10, run11, run12, run13, run14, run15, run16, run17, run18, run19, run20, run21, run22, reduceCtorEq, Nat.reduceEqDiff, Nat.reduceAdd, Nat.reduceSub, Nat.reduceLeDiff, indexAddrA, indexRefA, appendA, strA, Nat.reduceMul, Nat.zero_mul, Nat.reduceMod, Int.reduceEq, Int.reduceLT, Int.reduceLE, Nat.reduceLT, Nat.lt_irrefl, Nat.reduceBEq, tys0, tys1, tys2, tys3, tys4, tys5, tys6, tys7, tys8, tys9, tys10, tys11, tys12, tys13, tys14, tys15, tys16, tys17, tys18, tys19, tys20, tys21, tys22, tys23, Try.ntmps24, Try.results24, h, nb] <;> exact Fin.eq (by rw [Int.toNat_natCast, h]; rfl) rfl
theorem FnExactOutcomeOf_ok {a0 a1 : AV} (h0 : IsOf Try.prog 22 a0) (h1 : IsOf Try.prog 3 a1) : Ct Try.prog 6 [a0, a1] [] (.bool true) [] := by
  obtain ⟨g, rfl, hl, hf⟩ := laws_isPoS h0
  obtain ⟨x1, rfl⟩ := int_in h1
  have pg := posL_pure g
  refine Ct.by_ hmix [] Try.func6 rfl ?_
  simp only [run0, run1, run2, run3, run4, run5, run6, run7, run8, run9, run10, run11, run12, run13, run14, run15, run16, run17, run18, run19, run20, run21, run22, reduceCtorEq, Nat.reduceEqDiff, Nat.reduceAdd, Nat.reduceSub, Nat.reduceLeDiff, indexAddrA, indexRefA, appendA, strA, Nat.reduceMul, Nat.zero_mul, Nat.reduceMod, Int.reduceEq, Int.reduceLT, Int.reduceLE, Nat.reduceLT, Nat.lt_irrefl, Nat.reduceBEq, tys0, tys1, tys2, tys3, tys4, tys5, tys6, tys7, tys8, tys9, tys10, tys11, tys12, tys13, tys14, tys15, tys16, tys17, tys18, tys19, tys20, tys21, tys22, tys23, Try.ntmps6, Try.results6]
  refine RunL.callp rfl rfl ok_f13 (szPositionS_ok g 1048576 hl hf (by omega) (by omega)) (by simp only [pureL, pureB, pg, Bool.and_self]) rfl ?_
  rcases szN_spec (g.length + gsz g) 1048576 with ⟨g1, g2⟩ | ⟨g1, g2⟩
  case inr =>
    have e1 : szN (g.length + gsz g) 1048576 < 0 := by omega
    simp only [run0, run1, run2, run3, run4, run5, run6, run7, run8, run9, run10, run11, run12, run13, run14, run15, run16, run17, run18, run19, run20, run21, run22, reduceCtorEq, Nat.reduceEqDiff, Nat.reduceAdd, Nat.reduceSub, Nat.reduceLeDiff, indexAddrA, indexRefA, appendA, strA, Nat.reduceMul, Nat.zero_mul, Nat.reduceMod, Int.reduceEq, Int.reduceLT, Int.reduceLE, Nat.reduceLT, Nat.lt_irrefl, Nat.reduceBEq, tys0, tys1, tys2, tys3, tys4, tys5, tys6, tys7, tys8, tys9, tys10, tys11, tys12, tys13, tys14, tys15, tys16, tys17, tys18, tys19, tys20, tys21, tys22, tys23, Try.ntmps6, Try.results6, e1]
    exact Fin.eq rfl rfl
  have e1 : ¬ szN (g.length + gsz g) 1048576 < 0 := by omega
  have gl : g.length ≤ 1048576 := by omega
  have gs : ∀ p ∈ g, smallP p := fun p hp => by have := gsz_mem hp; unfold psz at this; exact ⟨by omega, by omega⟩
  simp only [run0, run1, run2, run3, run4, run5, run6, run7, run8, run9, run10, run11, run12, run13, run14, run15, run16, run17, run18, run19, run20, run21, run22, reduceCtorEq, Nat.reduceEqDiff, Nat.reduceAdd, Nat.reduceSub, Nat.reduceLeDiff, indexAddrA, indexRefA, appendA, strA, Nat.reduceMul, Nat.zero_mul, Nat.reduceMod, Int.reduceEq, Int.reduceLT, Int.reduceLE, Nat.reduceLT, Nat.lt_irrefl, Nat.reduceBEq, tys0, tys1, tys2, tys3, tys4, tys5, tys6, tys7, tys8, tys9, tys10, tys11, tys12, tys13, tys14, tys15, tys16, tys17, tys18, tys19, tys20, tys21, tys22, tys23, Try.ntmps6, Try.results6, e1]
  refine RunL.callp rfl rfl ok_f15 (toPositionS_ok g gl gs) (by simp only [pureL, pureB, pg, Bool.and_self]) rfl ?_
  simp only [run0, run1, run2, run3, run4, run5, run6, run7, run8, run9, run10, run11, run12, run13, run14, run15, run16, run17, run18, run19, run20, run21, run22, reduceCtorEq, Nat.reduceEqDiff, Nat.reduceAdd, Nat.reduceSub, Nat.reduceLeDiff, indexAddrA, indexRefA, appendA, strA, Nat.reduceMul, Nat.zero_mul, Nat.reduceMod, Int.reduceEq, Int.reduceLT, Int.reduceLE, Nat.reduceLT, Nat.lt_irrefl, Nat.reduceBEq, tys0, tys1, tys2, tys3, tys4, tys5, tys6, tys7, tys8, tys9, tys10, tys11, tys12, tys13, tys14, tys15, tys16, tys17, tys18, tys19, tys20, tys21, tys22, tys23, Try.ntmps6, Try.results6]
  refine RunL.callp rfl rfl ok_f24 (specOut_ok g x1 gl gs) (by simp only [pureL, pureB, pg, Bool.and_self]) rfl ?_
  simp only [run0, run1, run2, run3, run4, run5, run6, run7, run8, run9, run10, run11, run12, run13, run14, run15, run16, run17, run18, run19, run20, run21, run22, reduceCtorEq, Nat.reduceEqDiff, Nat.reduceAdd, Nat.reduceSub, Nat.reduceLeDiff, indexAddrA, indexRefA, appendA, strA, Nat.reduceMul, Nat.zero_mul, Nat.reduceMod, Int.reduceEq, Int.reduceLT, Int.reduceLE, Nat.reduceLT, Nat.lt_irrefl, Nat.reduceBEq, tys0, tys1, tys2, tys3, tys4, tys5, tys6, tys7, tys8, tys9, tys10, tys11, tys12, tys13, tys14, tys15, tys16, tys17, tys18, tys19, tys20, tys21, tys22, tys23, Try.ntmps6, Try.results6, outR]
  refine RunL.callp rfl rfl ok_f15 (toPositionS_ok g gl gs) (by simp only [pureL, pureB, pg, Bool.and_self]) rfl ?_
  simp only [run0, run1, run2, run3, run4, run5, run6, run7, run8, run9, run10, run11, run12, run13, run14, run15, run16, run17, run18, run19, run20, run21, run22, reduceCtorEq, Nat.reduceEqDiff, Nat.reduceAdd, Nat.reduceSub, Nat.reduceLeDiff, indexAddrA, indexRefA, appendA, strA, Nat.reduceMul, Nat.zero_mul, Nat.reduceMod, Int.reduceEq, Int.reduceLT, Int.reduceLE, Nat.reduceLT, Nat.lt_irrefl, Nat.reduceBEq, tys0, tys1, tys2, tys3, tys4, tys5, tys6, tys7, tys8, tys9, tys10, tys11, tys12, tys13, tys14, tys15, tys16, tys17, tys18, tys19, tys20, tys21, tys22, tys23, Try.ntmps6, Try.results6]
  refine RunL.callp rfl rfl ok_f25 (implOut_ok g x1 gl gs) (by simp only [pureL, pureB, pg, Bool.and_self]) rfl ?_
  simp only [run0, run1, run2, run3, run4, run5, run6, run7, run8, run9, run10, run11, run12, run13, run14, run15, run16, run17, run18, run19, run20, run21, run22, reduceCtorEq, Nat.reduceEqDiff, Nat.reduceAdd, Nat.reduceSub, Nat.reduceLeDiff, indexAddrA, indexRefA, appendA, strA, Nat.reduceMul, Nat.zero_mul, Nat.reduceMod, Int.reduceEq, Int.reduceLT, Int.reduceLE, Nat.reduceLT, Nat.lt_irrefl, Nat.reduceBEq, tys0, tys1, tys2, tys3, tys4, tys5, tys6, tys7, tys8, tys9, tys10, tys11, tys12, tys13, tys14, tys15, tys16, tys17, tys18, tys19, tys20, tys21, tys22, tys23, Try.ntmps6, Try.results6, outR, bne_self_eq_false]
  refine RunL.callp rfl rfl ok_f15 (toPositionS_ok g gl gs) (by simp only [pureL, pureB, pg, Bool.and_self]) rfl ?_
  simp only [run0, run1, run2, run3, run4, run5, run6, run7, run8, run9, run10, run11, run12, run13, run14, run15, run16, run17, run18, run19, run20, run21, run22, reduceCtorEq, Nat.reduceEqDiff, Nat.reduceAdd, Nat.reduceSub, Nat.reduceLeDiff, indexAddrA, indexRefA, appendA, strA, Nat.reduceMul, Nat.zero_mul, Nat.reduceMod, Int.reduceEq, Int.reduceLT, Int.reduceLE, Nat.reduceLT, Nat.lt_irrefl, Nat.reduceBEq, tys0, tys1, tys2, tys3, tys4, tys5, tys6, tys7, tys8, tys9, tys10, tys11, tys12, tys13, tys14, tys15, tys16, tys17, tys18, tys19, tys20, tys21, tys22, tys23, Try.ntmps6, Try.results6]
  refine RunL.callp rfl rfl ok_f17 (eqPositionS_ok g gl gs) (by simp only [pureL, pureB, pg, Bool.and_self]) rfl ?_
  simp only [run0, run1, run2, run3, run4, run5, run6, run7, run8, run9, run10, run11, run12, run13, run14, run15, run16, run17, run18, run19, run20, run21, run22, reduceCtorEq, Nat.reduceEqDiff, Nat.reduceAdd, Nat.reduceSub, Nat.reduceLeDiff, indexAddrA, indexRefA, appendA, strA, Nat.reduceMul, Nat.zero_mul, Nat.reduceMod, Int.reduceEq, Int.reduceLT, Int.reduceLE, Nat.reduceLT, Nat.lt_irrefl, Nat.reduceBEq, tys0, tys1, tys2, tys3, tys4, tys5, tys6, tys7, tys8, tys9, tys10, tys11, tys12, tys13, tys14, tys15, tys16, tys17, tys18, tys19, tys20, tys21, tys22, tys23, Try.ntmps6, Try.results6]
  exact Fin.eq rfl rfl


end Go.Proofs.Ytllcljajlemmaaa
