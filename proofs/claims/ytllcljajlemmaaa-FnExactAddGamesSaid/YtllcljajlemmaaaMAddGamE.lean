/-
  Texts joined in one: PO3, PO4, PO5, PO6, NW3, NW4, LB4, OP2, LB5, LB6, LB7, LB8, LB9, LBA, LBB, LBC.
-/
import Derived.Test.YtllcljajlemmaaaMAddGamD
import Derived.Test.YtllcljajlemmaaaMAddGamC
/-
  Games: the program's search for the order of positions.
-/
namespace Go.Proofs.Ytllcljajlemmaaa
open Go K
set_option linter.unusedSimpArgs false
set_option linter.unusedVariables false
set_option maxHeartbeats 3200000
set_option maxRecDepth 8000

theorem jArr : WideMaps.ArrKey Try.prog 164 3 2 := ⟨Try.underlying164, by kernel_rfl, by kernel_rfl, by kernel_rfl⟩
theorem jT : MapT Try.prog 164 4 ekP AV.bool false := mapT_pair jArr (fun _ => rfl) (fun _ => rfl) (by kernel_rfl)
theorem wf_nat {a : Nat} (h : a ≤ 1048576) : (Lit.int .i64 (a : Int)).wf = true := by
  simp only [Lit.wf, Bool.and_eq_true, decide_eq_true_eq]
  have h1 : IntKind.i64.min = -9223372036854775808 := by decide
  have h2 : IntKind.i64.max = 9223372036854775807 := by decide
  rw [h1, h2]
  omega
theorem jKey {a b : Nat} (ha : a ≤ 1048576) (hb : b ≤ 1048576) : (keyOf Try.prog 164 (valK (ekP ((a : Int), (b : Int))))).isSome = true := by
  have := WideMaps.keyOf_pair jArr Try.underlying3 ⟨Try.prog.types.size - 1, by kernel_rfl⟩ (wf_nat ha) (wf_nat hb)
  show (keyOf Try.prog 164 (.agg #[.int .i64 (a : Int), .int .i64 (b : Int)])).isSome = true
  rw [this]; rfl
theorem MemOk.map {g : List GP} (hl : g.length ≤ 1048576) {m : Memo} (h : MemOk g m) : MapOk Try.prog 164 ekP m :=
  ⟨h.nd, fun k hk => by
    obtain ⟨p, hp, rfl⟩ := List.mem_map.1 hk
    obtain ⟨j, hj, rfl⟩ := List.getElem_of_mem hp
    have := getM_at h.nd (List.getElem?_eq_getElem hj)
    obtain ⟨a, b, e, ha, hb, _⟩ := h.ok _ _ this
    rw [e]
    exact jKey (by omega) (by omega)⟩

/-- What the call owns while positions are compared. -/
def jsL (L0 : List AObj) (mb : Nat) (s : JS) : List AObj := L0.set mb (memO s.1) ++ s.2
section
variable {L0 : List AObj} {jb mb : Nat} {s : JS}
theorem jsL_len : (jsL L0 mb s).length = L0.length + s.2.length := by simp [jsL]
theorem jsL_old {B : AObj} (h : L0[jb]? = some B) (hne : mb ≠ jb) : (jsL L0 mb s)[jb]? = some B := by
  have := (List.getElem?_eq_some_iff.1 h).1
  unfold jsL
  rw [List.getElem?_append_left (by simpa using this), List.getElem?_set_ne hne]; exact h
theorem jsL_map (h : mb < L0.length) : (jsL L0 mb s)[mb]? = some (memO s.1) := by
  unfold jsL
  rw [List.getElem?_append_left (by simpa using h), List.getElem?_set_self h]
theorem jsL_set (h : mb < L0.length) (m : Memo) : (jsL L0 mb s).set mb (memO m) = jsL L0 mb (m, s.2) := by
  unfold jsL
  rw [List.set_append_left _ _ (by simpa using h), List.set_set]
theorem jsL_app (o : AObj) : jsL L0 mb s ++ [o] = jsL L0 mb (s.1, s.2 ++ [o]) := by simp [jsL]
theorem jsL_app2 (o o2 : AObj) : jsL L0 mb s ++ [o] ++ [o2] = jsL L0 mb (s.1, s.2 ++ [o, o2]) := by simp [jsL]
end

theorem pos_at {g : List GP} {a : Nat} (h : a < g.length) : (g.map posE)[a]? = some (.agg [.sl false (ints (lefts g a)), .sl false (ints (rights g a))]) := by
  simp [lefts, rights, List.getD_eq_getElem?_getD, h, posE]
theorem lefts_len {g : List GP} (hg : GameOk g) {a : Nat} (h : a < g.length) : (lefts g a).length ≤ 1048576 ∧ (rights g a).length ≤ 1048576 := by
  have := (hg a g[a] (List.getElem?_eq_getElem h)).1
  unfold lefts rights
  rw [List.getD_eq_getElem?_getD, List.getElem?_eq_getElem h]
  exact this

structure AtS where
  d : List Int
  r : List Int
  q : Bool × JS

theorem atMost_ok (g : List GP) (hg : GameOk g) (hl : g.length ≤ 1048576) : ∀ (f a b : Nat), a < g.length → b < g.length → a + b < f → ∀ (L0 : List AObj) (jb mb : Nat) (s : JS),
    L0[jb]? = some (.box 126 [.sl false (g.map posE), .map mb]) → mb < L0.length → mb ≠ jb → MemOk g s.1 →
    Ct Try.prog 115 [.ptr jb 0, .int .i64 a, .int .i64 b] (jsL L0 mb s) (.bool (atM g f s a b).1) (jsL L0 mb (atM g f s a b).2)
  | 0, a, b, _, _, h, _, _, _, _, _, _, _, _ => absurd h (Nat.not_lt_zero _)
  | f + 1, a, b, ha, hb, hf, L0, jb, mb, s, hj, hm, hne, hmo => by
    have hJ : (jsL L0 mb s)[jb]? = some (.box 126 [.sl false (g.map posE), .map mb]) := jsL_old hj hne
    have hM : (jsL L0 mb s)[mb]? = some (memO s.1) := jsL_map hm
    have hJl := (List.getElem?_eq_some_iff.1 hJ).1
    have hMl := (List.getElem?_eq_some_iff.1 hM).1
    have hj1 : ∀ B, (jsL L0 mb s ++ [B])[jb]? = some (.box 126 [.sl false (g.map posE), .map mb]) := fun B => by rw [List.getElem?_append_left hJl]; exact hJ
    have hm1 : ∀ B, (jsL L0 mb s ++ [B])[mb]? = some (memO s.1) := fun B => by rw [List.getElem?_append_left hMl]; exact hM
    have hmp := hmo.map hl
    have hky := jKey (a := a) (b := b) (by omega) (by omega)
    have hap := jsL_app (L0 := L0) (mb := mb) (s := s) (keyO a b)
    have hlen := jsL_len (L0 := L0) (mb := mb) (s := s)
    refine Ct.by_ hmix [] Try.func115 rfl ?_
    simp only [run0, run1, run2, run3, run4, run5, run6, run7, run8, run9, run10, run11, run12, run13, run14, run15, run16, run17, run18, run19, run20, run21, run22, reduceCtorEq, Nat.reduceEqDiff, Nat.reduceAdd, Nat.reduceSub, Nat.reduceLeDiff, indexAddrA, indexRefA, appendA, strA, Nat.reduceMul, Nat.zero_mul, Nat.reduceMod, Int.reduceEq, Int.reduceLT, Int.reduceLE, Nat.reduceLT, Nat.lt_irrefl, Nat.reduceBEq, tys0, tys1, tys2, tys3, tys4, tys5, tys6, tys7, tys8, tys9, tys10, tys11, tys12, tys13, tys14, tys15, tys16, tys17, tys18, tys19, tys20, tys21, tys22, tys23, Try.ntmps115, Try.results115, hj1, List.getElem?_append_right, Nat.sub_self]
    refine ⟨by kernel_rfl, ?_⟩
    refine RunL.look jT s.1 ((a : Int), (b : Int)) rfl rfl rfl rfl (hm1 _) Try.underlying124 hmp hky rfl ?_
    cases hk : getM s.1 ((a : Int), (b : Int)) with
    | some v =>
      have hA : atM g (f + 1) s a b = (v, (s.1, s.2 ++ [keyO a b])) := by simp only [atM, hk]
      rw [hA]
      simp only [run0, run1, run2, run3, run4, run5, run6, run7, run8, run9, run10, run11, run12, run13, run14, run15, run16, run17, run18, run19, run20, run21, run22, reduceCtorEq, Nat.reduceEqDiff, Nat.reduceAdd, Nat.reduceSub, Nat.reduceLeDiff, indexAddrA, indexRefA, appendA, strA, Nat.reduceMul, Nat.zero_mul, Nat.reduceMod, Int.reduceEq, Int.reduceLT, Int.reduceLE, Nat.reduceLT, Nat.lt_irrefl, Nat.reduceBEq, tys0, tys1, tys2, tys3, tys4, tys5, tys6, tys7, tys8, tys9, tys10, tys11, tys12, tys13, tys14, tys15, tys16, tys17, tys18, tys19, tys20, tys21, tys22, tys23, Try.ntmps115, Try.results115, lookR, hk, Option.getD_some]
      exact Fin.own hap rfl
    | none =>
      have hA : atM g (f + 1) s a b = ((((rights g b).foldl (fun (q : Bool × JS) y => if q.1 then (!(atM g f q.2 y.toNat a).1, (atM g f q.2 y.toNat a).2) else q) ((lefts g a).foldl (fun (q : Bool × JS) x => if q.1 then (!(atM g f q.2 b x.toNat).1, (atM g f q.2 b x.toNat).2) else q) (true, (s.1, s.2 ++ [keyO a b])))).1), (putM ((rights g b).foldl (fun (q : Bool × JS) y => if q.1 then (!(atM g f q.2 y.toNat a).1, (atM g f q.2 y.toNat a).2) else q) ((lefts g a).foldl (fun (q : Bool × JS) x => if q.1 then (!(atM g f q.2 b x.toNat).1, (atM g f q.2 b x.toNat).2) else q) (true, (s.1, s.2 ++ [keyO a b])))).2.1 ((a : Int), (b : Int)) ((rights g b).foldl (fun (q : Bool × JS) y => if q.1 then (!(atM g f q.2 y.toNat a).1, (atM g f q.2 y.toNat a).2) else q) ((lefts g a).foldl (fun (q : Bool × JS) x => if q.1 then (!(atM g f q.2 b x.toNat).1, (atM g f q.2 b x.toNat).2) else q) (true, (s.1, s.2 ++ [keyO a b])))).1, ((rights g b).foldl (fun (q : Bool × JS) y => if q.1 then (!(atM g f q.2 y.toNat a).1, (atM g f q.2 y.toNat a).2) else q) ((lefts g a).foldl (fun (q : Bool × JS) x => if q.1 then (!(atM g f q.2 b x.toNat).1, (atM g f q.2 b x.toNat).2) else q) (true, (s.1, s.2 ++ [keyO a b])))).2.2)) := by
        simp only [atM, hk]
      rw [hA]
      clear hA
      have hla := lefts_len hg ha
      have hlb := lefts_len hg hb
      have pa := pos_at ha
      have pb := pos_at hb
      have ha1 : (a : Int) < (g.length : Int) := by omega
      have hb1 : (b : Int) < (g.length : Int) := by omega
      have hq0 : ∃ q0 : Bool × JS, q0 = (true, (s.1, s.2 ++ [keyO a b])) := ⟨_, rfl⟩
      obtain ⟨q0, hq0⟩ := hq0
      rw [← hq0]
      simp only [run0, run1, run2, run3, run4, run5, run6, run7, run8, run9, run10, run11, run12, run13, run14, run15, run16, run17, run18, run19, run20, run21, run22, reduceCtorEq, Nat.reduceEqDiff, Nat.reduceAdd, Nat.reduceSub, Nat.reduceLeDiff, indexAddrA, indexRefA, appendA, strA, Nat.reduceMul, Nat.zero_mul, Nat.reduceMod, Int.reduceEq, Int.reduceLT, Int.reduceLE, Nat.reduceLT, Nat.lt_irrefl, Nat.reduceBEq, tys0, tys1, tys2, tys3, tys4, tys5, tys6, tys7, tys8, tys9, tys10, tys11, tys12, tys13, tys14, tys15, tys16, tys17, tys18, tys19, tys20, tys21, tys22, tys23, Try.ntmps115, Try.results115, lookR, hk, Option.getD_none, hj1, pa, ha1, List.length_map, Int.toNat_natCast, Int.natCast_nonneg, List.getElem?_append_right, Nat.sub_self]
      refine AWp.loop_inv (ι := AtS) (fun p => ⟨[.ptr jb 0, .int .i64 a, .int .i64 b, .junk, .junk, .junk, .bool false, .ptr (jsL L0 mb s).length 0, .junk, .junk, .bool p.q.1, .junk, .junk, .junk, .junk, .junk, .junk, .junk, .junk, .junk, .junk, .junk, .junk, .junk, .junk, .junk, .junk, .junk, .junk, .junk, .junk, .junk, .junk, .junk, .junk, .junk, .sl false (ints (lefts g a)), .int .i64 (lefts g a).length, .int .i64 p.d.length, .junk, .junk, .junk, .junk, .junk, .junk, .junk, .junk, .junk, .junk, .junk, .junk, .junk, .junk, .junk, .junk, .junk, .junk, .junk, .junk, .junk, .junk, .junk, .junk, .junk, .junk, .junk, .junk, .junk, .junk, .junk, .junk, .junk, .junk, .junk, .junk, .junk, .junk, .junk, .junk, .junk], jsL L0 mb p.q.2⟩)
        (fun p => lefts g a = p.d ++ p.r ∧ p.q = p.d.foldl (fun (q : Bool × JS) x => if q.1 then (!(atM g f q.2 b x.toNat).1, (atM g f q.2 b x.toNat).2) else q) q0 ∧ MemOk g p.q.2.1 ∧ ∃ Y, p.q.2.2 = s.2 ++ keyO a b :: Y) (fun p => p.r.length) ⟨[], lefts g a, q0⟩ ⟨rfl, rfl, by rw [hq0]; exact hmo, [], by rw [hq0]⟩
        ⟨by rw [hq0]; simp only [List.length_nil, Int.natCast_zero]; repeat constructor, by rw [hq0]; exact hap⟩ ?_
      rintro ⟨d, r, q⟩ ⟨h1, h2, h3, Y, h4⟩
      refine W.sound hmix (E := []) ?_
      simp only at h1 h2 h3 h4
      have hJ2 : (jsL L0 mb q.2)[jb]? = some (.box 126 [.sl false (g.map posE), .map mb]) := jsL_old hj hne
      cases r with
      | cons x r =>
        obtain ⟨e1, e2, e5⟩ := int_split h1 hla.1
        have hx := lefts_lt hg (a := a) (x := x) (by rw [h1]; simp)
        obtain ⟨k, rfl⟩ := Int.eq_ofNat_of_zero_le hx.1
        cases hb2 : q.1
        · simp only [run0, run1, run2, run3, run4, run5, run6, run7, run8, run9, run10, run11, run12, run13, run14, run15, run16, run17, run18, run19, run20, run21, run22, reduceCtorEq, Nat.reduceEqDiff, Nat.reduceAdd, Nat.reduceSub, Nat.reduceLeDiff, indexAddrA, indexRefA, appendA, strA, Nat.reduceMul, Nat.zero_mul, Nat.reduceMod, Int.reduceEq, Int.reduceLT, Int.reduceLE, Nat.reduceLT, Nat.lt_irrefl, Nat.reduceBEq, tys0, tys1, tys2, tys3, tys4, tys5, tys6, tys7, tys8, tys9, tys10, tys11, tys12, tys13, tys14, tys15, tys16, tys17, tys18, tys19, tys20, tys21, tys22, tys23, Try.ntmps115, Try.results115, List.length_map, e1, e2, e5, hb2, Int.toNat_natCast, Int.natCast_nonneg]
          exact ⟨⟨d ++ [(k : Int)], r, q⟩, ⟨by simp [h1], by rw [List.foldl_append, ← h2]; simp [hb2], h3, Y, h4⟩, by simp, by simp only [List.length_append, List.length_cons, List.length_nil, hb2]; repeat constructor, rfl⟩
        · obtain ⟨_, m2, Z, m3⟩ := atM_law hg f q.2 b k hb (by omega) (by omega) h3
          simp only [run0, run1, run2, run3, run4, run5, run6, run7, run8, run9, run10, run11, run12, run13, run14, run15, run16, run17, run18, run19, run20, run21, run22, reduceCtorEq, Nat.reduceEqDiff, Nat.reduceAdd, Nat.reduceSub, Nat.reduceLeDiff, indexAddrA, indexRefA, appendA, strA, Nat.reduceMul, Nat.zero_mul, Nat.reduceMod, Int.reduceEq, Int.reduceLT, Int.reduceLE, Nat.reduceLT, Nat.lt_irrefl, Nat.reduceBEq, tys0, tys1, tys2, tys3, tys4, tys5, tys6, tys7, tys8, tys9, tys10, tys11, tys12, tys13, tys14, tys15, tys16, tys17, tys18, tys19, tys20, tys21, tys22, tys23, Try.ntmps115, Try.results115, List.length_map, e1, e2, hb2, Int.toNat_natCast, Int.natCast_nonneg]
          refine RunL.call rfl rfl rfl ok_f115 rfl (.inl rfl) (atMost_ok g hg hl f b k hb (by omega) (by omega) L0 jb mb q.2 hj hm hne h3) ?_
          simp only [run0, run1, run2, run3, run4, run5, run6, run7, run8, run9, run10, run11, run12, run13, run14, run15, run16, run17, run18, run19, run20, run21, run22, reduceCtorEq, Nat.reduceEqDiff, Nat.reduceAdd, Nat.reduceSub, Nat.reduceLeDiff, indexAddrA, indexRefA, appendA, strA, Nat.reduceMul, Nat.zero_mul, Nat.reduceMod, Int.reduceEq, Int.reduceLT, Int.reduceLE, Nat.reduceLT, Nat.lt_irrefl, Nat.reduceBEq, tys0, tys1, tys2, tys3, tys4, tys5, tys6, tys7, tys8, tys9, tys10, tys11, tys12, tys13, tys14, tys15, tys16, tys17, tys18, tys19, tys20, tys21, tys22, tys23, Try.ntmps115, Try.results115, e5]
          exact ⟨⟨d ++ [(k : Int)], r, (!(atM g f q.2 b k).1, (atM g f q.2 b k).2)⟩, ⟨by simp [h1], by rw [List.foldl_append, ← h2]; simp [hb2], m2, Y ++ keyO b k :: Z, by simp only [m3, h4, List.append_assoc, List.cons_append]⟩, by simp, by simp only [List.length_append, List.length_cons, List.length_nil]; repeat constructor, rfl⟩
      | nil =>
        have e1 := int_end h1
        have hd : d = lefts g a := by rw [h1, List.append_nil]
        subst hd
        rw [← h2]
        clear h1 h2
        simp only [run0, run1, run2, run3, run4, run5, run6, run7, run8, run9, run10, run11, run12, run13, run14, run15, run16, run17, run18, run19, run20, run21, run22, reduceCtorEq, Nat.reduceEqDiff, Nat.reduceAdd, Nat.reduceSub, Nat.reduceLeDiff, indexAddrA, indexRefA, appendA, strA, Nat.reduceMul, Nat.zero_mul, Nat.reduceMod, Int.reduceEq, Int.reduceLT, Int.reduceLE, Nat.reduceLT, Nat.lt_irrefl, Nat.reduceBEq, tys0, tys1, tys2, tys3, tys4, tys5, tys6, tys7, tys8, tys9, tys10, tys11, tys12, tys13, tys14, tys15, tys16, tys17, tys18, tys19, tys20, tys21, tys22, tys23, Try.ntmps115, Try.results115, List.length_map, e1, hJ2, pb, hb1, Int.toNat_natCast, Int.natCast_nonneg]
        refine AWp.loop_inv (ι := AtS) (fun p => ⟨[.ptr jb 0, .int .i64 a, .int .i64 b, .junk, .junk, .junk, .bool false, .ptr (jsL L0 mb s).length 0, .junk, .junk, .bool p.q.1, .junk, .junk, .junk, .junk, .junk, .junk, .junk, .junk, .junk, .junk, .junk, .junk, .junk, .junk, .junk, .junk, .junk, .junk, .junk, .junk, .junk, .junk, .junk, .junk, .junk, .junk, .junk, .junk, .junk, .junk, .junk, .junk, .junk, .junk, .junk, .junk, .junk, .junk, .junk, .junk, .junk, .junk, .junk, .junk, .junk, .junk, .junk, .sl false (ints (rights g b)), .int .i64 (rights g b).length, .int .i64 p.d.length, .junk, .junk, .junk, .junk, .junk, .junk, .junk, .junk, .junk, .junk, .junk, .junk, .junk, .junk, .junk, .junk, .junk, .junk, .junk], jsL L0 mb p.q.2⟩)
          (fun p => rights g b = p.d ++ p.r ∧ p.q = p.d.foldl (fun (q : Bool × JS) y => if q.1 then (!(atM g f q.2 y.toNat a).1, (atM g f q.2 y.toNat a).2) else q) q ∧ MemOk g p.q.2.1 ∧ ∃ Y, p.q.2.2 = s.2 ++ keyO a b :: Y) (fun p => p.r.length) ⟨[], rights g b, q⟩ ⟨rfl, rfl, h3, Y, h4⟩
          ⟨by simp only [List.length_nil, Int.natCast_zero]; repeat constructor, rfl⟩ ?_
        rintro ⟨d, r, p⟩ ⟨h1, h2, k3, Y2, k4⟩
        refine W.sound hmix (E := []) ?_
        simp only at h1 h2 k3 k4
        have hJ3 : (jsL L0 mb p.2)[jb]? = some (.box 126 [.sl false (g.map posE), .map mb]) := jsL_old hj hne
        cases r with
        | cons x r =>
          obtain ⟨e1, e2, e5⟩ := int_split h1 hlb.2
          have hx := rights_lt hg (a := b) (x := x) (by rw [h1]; simp)
          obtain ⟨k, rfl⟩ := Int.eq_ofNat_of_zero_le hx.1
          cases hb2 : p.1
          · simp only [run0, run1, run2, run3, run4, run5, run6, run7, run8, run9, run10, run11, run12, run13, run14, run15, run16, run17, run18, run19, run20, run21, run22, reduceCtorEq, Nat.reduceEqDiff, Nat.reduceAdd, Nat.reduceSub, Nat.reduceLeDiff, indexAddrA, indexRefA, appendA, strA, Nat.reduceMul, Nat.zero_mul, Nat.reduceMod, Int.reduceEq, Int.reduceLT, Int.reduceLE, Nat.reduceLT, Nat.lt_irrefl, Nat.reduceBEq, tys0, tys1, tys2, tys3, tys4, tys5, tys6, tys7, tys8, tys9, tys10, tys11, tys12, tys13, tys14, tys15, tys16, tys17, tys18, tys19, tys20, tys21, tys22, tys23, Try.ntmps115, Try.results115, List.length_map, e1, e2, e5, hb2, Int.toNat_natCast, Int.natCast_nonneg]
            exact ⟨⟨d ++ [(k : Int)], r, p⟩, ⟨by simp [h1], by rw [List.foldl_append, ← h2]; simp [hb2], k3, Y2, k4⟩, by simp, by simp only [List.length_append, List.length_cons, List.length_nil, hb2]; repeat constructor, rfl⟩
          · obtain ⟨_, m2, Z, m3⟩ := atM_law hg f p.2 k a (by omega) ha (by omega) k3
            simp only [run0, run1, run2, run3, run4, run5, run6, run7, run8, run9, run10, run11, run12, run13, run14, run15, run16, run17, run18, run19, run20, run21, run22, reduceCtorEq, Nat.reduceEqDiff, Nat.reduceAdd, Nat.reduceSub, Nat.reduceLeDiff, indexAddrA, indexRefA, appendA, strA, Nat.reduceMul, Nat.zero_mul, Nat.reduceMod, Int.reduceEq, Int.reduceLT, Int.reduceLE, Nat.reduceLT, Nat.lt_irrefl, Nat.reduceBEq, tys0, tys1, tys2, tys3, tys4, tys5, tys6, tys7, tys8, tys9, tys10, tys11, tys12, tys13, tys14, tys15, tys16, tys17, tys18, tys19, tys20, tys21, tys22, tys23, Try.ntmps115, Try.results115, List.length_map, e1, e2, hb2, Int.toNat_natCast, Int.natCast_nonneg]
            refine RunL.call rfl rfl rfl ok_f115 rfl (.inl rfl) (atMost_ok g hg hl f k a (by omega) ha (by omega) L0 jb mb p.2 hj hm hne k3) ?_
            simp only [run0, run1, run2, run3, run4, run5, run6, run7, run8, run9, run10, run11, run12, run13, run14, run15, run16, run17, run18, run19, run20, run21, run22, reduceCtorEq, Nat.reduceEqDiff, Nat.reduceAdd, Nat.reduceSub, Nat.reduceLeDiff, indexAddrA, indexRefA, appendA, strA, Nat.reduceMul, Nat.zero_mul, Nat.reduceMod, Int.reduceEq, Int.reduceLT, Int.reduceLE, Nat.reduceLT, Nat.lt_irrefl, Nat.reduceBEq, tys0, tys1, tys2, tys3, tys4, tys5, tys6, tys7, tys8, tys9, tys10, tys11, tys12, tys13, tys14, tys15, tys16, tys17, tys18, tys19, tys20, tys21, tys22, tys23, Try.ntmps115, Try.results115, e5]
            exact ⟨⟨d ++ [(k : Int)], r, (!(atM g f p.2 k a).1, (atM g f p.2 k a).2)⟩, ⟨by simp [h1], by rw [List.foldl_append, ← h2]; simp [hb2], m2, Y2 ++ keyO k a :: Z, by simp only [m3, k4, List.append_assoc, List.cons_append]⟩, by simp, by simp only [List.length_append, List.length_cons, List.length_nil]; repeat constructor, rfl⟩
        | nil =>
          have e1 := int_end h1
          have hd : d = rights g b := by rw [h1, List.append_nil]
          subst hd
          rw [← h2]
          have hkb : (jsL L0 mb p.2)[(jsL L0 mb s).length]? = some (keyO a b) := by
            rw [hlen]
            unfold jsL
            rw [List.getElem?_append_right (by simp), k4]
            simp
          simp only [keyO] at hkb
          have hM3 : (jsL L0 mb p.2)[mb]? = some (memO p.2.1) := jsL_map hm
          simp only [run0, run1, run2, run3, run4, run5, run6, run7, run8, run9, run10, run11, run12, run13, run14, run15, run16, run17, run18, run19, run20, run21, run22, reduceCtorEq, Nat.reduceEqDiff, Nat.reduceAdd, Nat.reduceSub, Nat.reduceLeDiff, indexAddrA, indexRefA, appendA, strA, Nat.reduceMul, Nat.zero_mul, Nat.reduceMod, Int.reduceEq, Int.reduceLT, Int.reduceLE, Nat.reduceLT, Nat.lt_irrefl, Nat.reduceBEq, tys0, tys1, tys2, tys3, tys4, tys5, tys6, tys7, tys8, tys9, tys10, tys11, tys12, tys13, tys14, tys15, tys16, tys17, tys18, tys19, tys20, tys21, tys22, tys23, Try.ntmps115, Try.results115, List.length_map, e1, hJ3, hkb]
          refine ⟨by kernel_rfl, ?_⟩
          refine RunL.put jT p.2.1 ((a : Int), (b : Int)) p.1 rfl rfl rfl rfl rfl hM3 Try.underlying124 (k3.map hl) hky rfl ?_
          simp only [run0, run1, run2, run3, run4, run5, run6, run7, run8, run9, run10, run11, run12, run13, run14, run15, run16, run17, run18, run19, run20, run21, run22, reduceCtorEq, Nat.reduceEqDiff, Nat.reduceAdd, Nat.reduceSub, Nat.reduceLeDiff, indexAddrA, indexRefA, appendA, strA, Nat.reduceMul, Nat.zero_mul, Nat.reduceMod, Int.reduceEq, Int.reduceLT, Int.reduceLE, Nat.reduceLT, Nat.lt_irrefl, Nat.reduceBEq, tys0, tys1, tys2, tys3, tys4, tys5, tys6, tys7, tys8, tys9, tys10, tys11, tys12, tys13, tys14, tys15, tys16, tys17, tys18, tys19, tys20, tys21, tys22, tys23, Try.ntmps115, Try.results115]
          exact Fin.own (jsL_set hm _) rfl

end Go.Proofs.Ytllcljajlemmaaa
/-
  Games: how two positions are ordered: the program; the reference's table.
-/
namespace Go.Proofs.Ytllcljajlemmaaa
open Go K
set_option linter.unusedSimpArgs false
set_option linter.unusedVariables false
set_option maxHeartbeats 3200000
set_option maxRecDepth 8000

theorem newJudge_ok (g : List GP) (L : List AObj) : Ct Try.prog 59 [.sl false (g.map posE)] L (.ptr (L.length + 1) 0) (L ++ [memO [], .box 126 [.sl false (g.map posE), .map L.length]]) := by
  refine Ct.by_ hmix [] Try.func59 rfl ?_
  simp only [run0, run1, run2, run3, run4, run5, run6, run7, run8, run9, run10, run11, run12, run13, run14, run15, run16, run17, run18, run19, run20, run21, run22, reduceCtorEq, Nat.reduceEqDiff, Nat.reduceAdd, Nat.reduceSub, Nat.reduceLeDiff, indexAddrA, indexRefA, appendA, strA, Nat.reduceMul, Nat.zero_mul, Nat.reduceMod, Int.reduceEq, Int.reduceLT, Int.reduceLE, Nat.reduceLT, Nat.lt_irrefl, Nat.reduceBEq, tys0, tys1, tys2, tys3, tys4, tys5, tys6, tys7, tys8, tys9, tys10, tys11, tys12, tys13, tys14, tys15, tys16, tys17, tys18, tys19, tys20, tys21, tys22, tys23, Try.ntmps59, Try.results59]
  refine RunL.newMap 164 4 rfl rfl rfl ?_
  simp only [run0, run1, run2, run3, run4, run5, run6, run7, run8, run9, run10, run11, run12, run13, run14, run15, run16, run17, run18, run19, run20, run21, run22, reduceCtorEq, Nat.reduceEqDiff, Nat.reduceAdd, Nat.reduceSub, Nat.reduceLeDiff, indexAddrA, indexRefA, appendA, strA, Nat.reduceMul, Nat.zero_mul, Nat.reduceMod, Int.reduceEq, Int.reduceLT, Int.reduceLE, Nat.reduceLT, Nat.lt_irrefl, Nat.reduceBEq, tys0, tys1, tys2, tys3, tys4, tys5, tys6, tys7, tys8, tys9, tys10, tys11, tys12, tys13, tys14, tys15, tys16, tys17, tys18, tys19, tys20, tys21, tys22, tys23, Try.ntmps59, Try.results59]
  exact Fin.own (by simp [memO, mapO]) rfl

def ordI (x y : Bool) : Int := if x && y then 0 else if x then -1 else if y then 1 else 2
def cmpG (g : List GP) (a b : Nat) : Int := ordI (leG g a b) (leG g b a)
def cmpJ (g : List GP) (s : JS) (a b : Nat) : JS := (atM g (b + a + 1) (atM g (a + b + 1) s a b).2 b a).2
theorem cmpJ_law {g : List GP} (hg : GameOk g) {s : JS} {a b : Nat} (ha : a < g.length) (hb : b < g.length) (hm : MemOk g s.1) : MemOk g (cmpJ g s a b).1 := by
  obtain ⟨h1, h2, _⟩ := atM_law hg (a + b + 1) s a b ha hb (by omega) hm
  exact (atM_law hg (b + a + 1) _ b a hb ha (by omega) h2).2.1
theorem compareJ_ok (g : List GP) (hg : GameOk g) (hl : g.length ≤ 1048576) (a b : Nat) (ha : a < g.length) (hb : b < g.length) (L0 : List AObj) (jb mb : Nat) (s : JS)
    (hj : L0[jb]? = some (.box 126 [.sl false (g.map posE), .map mb])) (hm : mb < L0.length) (hne : mb ≠ jb) (hmo : MemOk g s.1) :
    Ct Try.prog 67 [.ptr jb 0, .int .i64 a, .int .i64 b] (jsL L0 mb s) (.int .i64 (cmpG g a b)) (jsL L0 mb (cmpJ g s a b)) := by
  obtain ⟨h1, h2, _⟩ := atM_law hg (a + b + 1) s a b ha hb (by omega) hmo
  obtain ⟨h3, h4, _⟩ := atM_law hg (b + a + 1) _ b a hb ha (by omega) h2
  have c1 := atMost_ok g hg hl (a + b + 1) a b ha hb (by omega) L0 jb mb s hj hm hne hmo
  have c2 := atMost_ok g hg hl (b + a + 1) b a hb ha (by omega) L0 jb mb _ hj hm hne h2
  rw [h1] at c1
  rw [h3] at c2
  refine Ct.by_ hmix [] Try.func67 rfl ?_
  simp only [run0, run1, run2, run3, run4, run5, run6, run7, run8, run9, run10, run11, run12, run13, run14, run15, run16, run17, run18, run19, run20, run21, run22, reduceCtorEq, Nat.reduceEqDiff, Nat.reduceAdd, Nat.reduceSub, Nat.reduceLeDiff, indexAddrA, indexRefA, appendA, strA, Nat.reduceMul, Nat.zero_mul, Nat.reduceMod, Int.reduceEq, Int.reduceLT, Int.reduceLE, Nat.reduceLT, Nat.lt_irrefl, Nat.reduceBEq, tys0, tys1, tys2, tys3, tys4, tys5, tys6, tys7, tys8, tys9, tys10, tys11, tys12, tys13, tys14, tys15, tys16, tys17, tys18, tys19, tys20, tys21, tys22, tys23, Try.ntmps67, Try.results67]
  refine RunL.call rfl rfl rfl ok_f115 rfl (.inl rfl) c1 ?_
  simp only [run0, run1, run2, run3, run4, run5, run6, run7, run8, run9, run10, run11, run12, run13, run14, run15, run16, run17, run18, run19, run20, run21, run22, reduceCtorEq, Nat.reduceEqDiff, Nat.reduceAdd, Nat.reduceSub, Nat.reduceLeDiff, indexAddrA, indexRefA, appendA, strA, Nat.reduceMul, Nat.zero_mul, Nat.reduceMod, Int.reduceEq, Int.reduceLT, Int.reduceLE, Nat.reduceLT, Nat.lt_irrefl, Nat.reduceBEq, tys0, tys1, tys2, tys3, tys4, tys5, tys6, tys7, tys8, tys9, tys10, tys11, tys12, tys13, tys14, tys15, tys16, tys17, tys18, tys19, tys20, tys21, tys22, tys23, Try.ntmps67, Try.results67]
  refine RunL.call rfl rfl rfl ok_f115 rfl (.inl rfl) c2 ?_
  unfold cmpG
  cases leG g a b <;> cases leG g b a <;> simp only [run0, run1, run2, run3, run4, run5, run6, run7, run8, run9, run10, run11, run12, run13, run14, run15, run16, run17, run18, run19, run20, run21, run22, reduceCtorEq, Nat.reduceEqDiff, Nat.reduceAdd, Nat.reduceSub, Nat.reduceLeDiff, indexAddrA, indexRefA, appendA, strA, Nat.reduceMul, Nat.zero_mul, Nat.reduceMod, Int.reduceEq, Int.reduceLT, Int.reduceLE, Nat.reduceLT, Nat.lt_irrefl, Nat.reduceBEq, tys0, tys1, tys2, tys3, tys4, tys5, tys6, tys7, tys8, tys9, tys10, tys11, tys12, tys13, tys14, tys15, tys16, tys17, tys18, tys19, tys20, tys21, tys22, tys23, Try.ntmps67, Try.results67] <;> exact Fin.own rfl rfl

def cmpR (g : List GP) (a b : Int) : AV := .tup [.int .i64 (if hasB g a && hasB g b then cmpG g a.toNat b.toNat else 0), .bool (hasB g a && hasB g b)]
theorem hasB_ok {g : List GP} {a : Int} (h : hasB g a = true) : gameB g = true ∧ ∃ k : Nat, a = (k : Int) ∧ k < g.length := by
  simp only [hasB, Bool.and_eq_true, inB, decide_eq_true_eq] at h
  obtain ⟨k, rfl⟩ := Int.eq_ofNat_of_zero_le h.2.1
  exact ⟨h.1, k, rfl, by omega⟩
theorem implCompareG_ok (g : List GP) (a b : Int) (hl : g.length ≤ 1048576) (hs : ∀ p ∈ g, smallP p) : Ct Try.prog 23 [.sl false (g.map posE), .int .i64 a, .int .i64 b] [] (cmpR g a b) [] := by
  have pg := posL_pure g
  refine Ct.by_ hmix [] Try.func23 rfl ?_
  simp only [run0, run1, run2, run3, run4, run5, run6, run7, run8, run9, run10, run11, run12, run13, run14, run15, run16, run17, run18, run19, run20, run21, run22, reduceCtorEq, Nat.reduceEqDiff, Nat.reduceAdd, Nat.reduceSub, Nat.reduceLeDiff, indexAddrA, indexRefA, appendA, strA, Nat.reduceMul, Nat.zero_mul, Nat.reduceMod, Int.reduceEq, Int.reduceLT, Int.reduceLE, Nat.reduceLT, Nat.lt_irrefl, Nat.reduceBEq, tys0, tys1, tys2, tys3, tys4, tys5, tys6, tys7, tys8, tys9, tys10, tys11, tys12, tys13, tys14, tys15, tys16, tys17, tys18, tys19, tys20, tys21, tys22, tys23, Try.ntmps23, Try.results23]
  refine RunL.callp rfl rfl ok_f66 (hasPosition_ok g a hl hs) (by simp only [pureL, pureB, pg, Bool.and_self]) rfl ?_
  cases h1 : hasB g a
  · simp only [run0, run1, run2, run3, run4, run5, run6, run7, run8, run9, run10, run11, run12, run13, run14, run15, run16, run17, run18, run19, run20, run21, run22, reduceCtorEq, Nat.reduceEqDiff, Nat.reduceAdd, Nat.reduceSub, Nat.reduceLeDiff, indexAddrA, indexRefA, appendA, strA, Nat.reduceMul, Nat.zero_mul, Nat.reduceMod, Int.reduceEq, Int.reduceLT, Int.reduceLE, Nat.reduceLT, Nat.lt_irrefl, Nat.reduceBEq, tys0, tys1, tys2, tys3, tys4, tys5, tys6, tys7, tys8, tys9, tys10, tys11, tys12, tys13, tys14, tys15, tys16, tys17, tys18, tys19, tys20, tys21, tys22, tys23, Try.ntmps23, Try.results23]
    exact Fin.eq (by simp [cmpR, h1]) rfl
  simp only [run0, run1, run2, run3, run4, run5, run6, run7, run8, run9, run10, run11, run12, run13, run14, run15, run16, run17, run18, run19, run20, run21, run22, reduceCtorEq, Nat.reduceEqDiff, Nat.reduceAdd, Nat.reduceSub, Nat.reduceLeDiff, indexAddrA, indexRefA, appendA, strA, Nat.reduceMul, Nat.zero_mul, Nat.reduceMod, Int.reduceEq, Int.reduceLT, Int.reduceLE, Nat.reduceLT, Nat.lt_irrefl, Nat.reduceBEq, tys0, tys1, tys2, tys3, tys4, tys5, tys6, tys7, tys8, tys9, tys10, tys11, tys12, tys13, tys14, tys15, tys16, tys17, tys18, tys19, tys20, tys21, tys22, tys23, Try.ntmps23, Try.results23]
  refine RunL.callp rfl rfl ok_f66 (hasPosition_ok g b hl hs) (by simp only [pureL, pureB, pg, Bool.and_self]) rfl ?_
  cases h2 : hasB g b
  · simp only [run0, run1, run2, run3, run4, run5, run6, run7, run8, run9, run10, run11, run12, run13, run14, run15, run16, run17, run18, run19, run20, run21, run22, reduceCtorEq, Nat.reduceEqDiff, Nat.reduceAdd, Nat.reduceSub, Nat.reduceLeDiff, indexAddrA, indexRefA, appendA, strA, Nat.reduceMul, Nat.zero_mul, Nat.reduceMod, Int.reduceEq, Int.reduceLT, Int.reduceLE, Nat.reduceLT, Nat.lt_irrefl, Nat.reduceBEq, tys0, tys1, tys2, tys3, tys4, tys5, tys6, tys7, tys8, tys9, tys10, tys11, tys12, tys13, tys14, tys15, tys16, tys17, tys18, tys19, tys20, tys21, tys22, tys23, Try.ntmps23, Try.results23]
    exact Fin.eq (by simp [cmpR, h1, h2]) rfl
  obtain ⟨hgb, a, rfl, ha⟩ := hasB_ok h1
  obtain ⟨_, b, rfl, hb⟩ := hasB_ok h2
  have hg := (gameB_ok hgb).1
  simp only [run0, run1, run2, run3, run4, run5, run6, run7, run8, run9, run10, run11, run12, run13, run14, run15, run16, run17, run18, run19, run20, run21, run22, reduceCtorEq, Nat.reduceEqDiff, Nat.reduceAdd, Nat.reduceSub, Nat.reduceLeDiff, indexAddrA, indexRefA, appendA, strA, Nat.reduceMul, Nat.zero_mul, Nat.reduceMod, Int.reduceEq, Int.reduceLT, Int.reduceLE, Nat.reduceLT, Nat.lt_irrefl, Nat.reduceBEq, tys0, tys1, tys2, tys3, tys4, tys5, tys6, tys7, tys8, tys9, tys10, tys11, tys12, tys13, tys14, tys15, tys16, tys17, tys18, tys19, tys20, tys21, tys22, tys23, Try.ntmps23, Try.results23]
  refine RunL.call rfl rfl rfl ok_f59 rfl (.inl rfl) (newJudge_ok g []) ?_
  simp only [run0, run1, run2, run3, run4, run5, run6, run7, run8, run9, run10, run11, run12, run13, run14, run15, run16, run17, run18, run19, run20, run21, run22, reduceCtorEq, Nat.reduceEqDiff, Nat.reduceAdd, Nat.reduceSub, Nat.reduceLeDiff, indexAddrA, indexRefA, appendA, strA, Nat.reduceMul, Nat.zero_mul, Nat.reduceMod, Int.reduceEq, Int.reduceLT, Int.reduceLE, Nat.reduceLT, Nat.lt_irrefl, Nat.reduceBEq, tys0, tys1, tys2, tys3, tys4, tys5, tys6, tys7, tys8, tys9, tys10, tys11, tys12, tys13, tys14, tys15, tys16, tys17, tys18, tys19, tys20, tys21, tys22, tys23, Try.ntmps23, Try.results23]
  have hc := compareJ_ok g hg hl a b ha hb [memO [], .box 126 [.sl false (g.map posE), .map 0]] 1 0 ([], []) rfl (by simp) (by omega) (MemOk.nil g)
  refine RunL.call rfl rfl rfl ok_f67 rfl (.inl rfl) hc ?_
  simp only [run0, run1, run2, run3, run4, run5, run6, run7, run8, run9, run10, run11, run12, run13, run14, run15, run16, run17, run18, run19, run20, run21, run22, reduceCtorEq, Nat.reduceEqDiff, Nat.reduceAdd, Nat.reduceSub, Nat.reduceLeDiff, indexAddrA, indexRefA, appendA, strA, Nat.reduceMul, Nat.zero_mul, Nat.reduceMod, Int.reduceEq, Int.reduceLT, Int.reduceLE, Nat.reduceLT, Nat.lt_irrefl, Nat.reduceBEq, tys0, tys1, tys2, tys3, tys4, tys5, tys6, tys7, tys8, tys9, tys10, tys11, tys12, tys13, tys14, tys15, tys16, tys17, tys18, tys19, tys20, tys21, tys22, tys23, Try.ntmps23, Try.results23]
  exact Fin.eq (by simp [cmpR, h1, h2]) rfl

/-! ### the reference's table -/
abbrev bools (l : List Bool) : List AV := l.map AV.bool
def rowV (l : List Bool) : AV := .sl false (bools l)
theorem bools_pure : ∀ l : List Bool, pureL (bools l) = true
  | [] => rfl
  | x :: r => by
    have := bools_pure r
    simp only [bools, List.map_cons, pureL, pureB, Bool.true_and] at this ⊢
    exact this
theorem rows_pure : ∀ t : List (List Bool), pureL (t.map rowV) = true
  | [] => rfl
  | x :: r => by simp only [List.map_cons, rowV, pureL, pureB, bools_pure, rows_pure r, Bool.and_self]
/-- An entry of a table. -/
def tbl (t : List (List Bool)) (a b : Nat) : Bool := (t.getD a []).getD b false
/-- All rows are so long. -/
def sqr (n : Nat) (t : List (List Bool)) : Prop := t.length = n ∧ ∀ r ∈ t, r.length = n
theorem tbl_row {n : Nat} {t : List (List Bool)} (h : sqr n t) {a : Nat} (ha : a < n) : ∃ r, t[a]? = some r ∧ r.length = n ∧ ∀ b, b < n → (bools r)[b]? = some (.bool (tbl t a b)) := by
  have hlt : a < t.length := by rw [h.1]; exact ha
  refine ⟨t[a], List.getElem?_eq_getElem hlt, h.2 _ (List.getElem_mem hlt), fun b hb => ?_⟩
  have hr := h.2 _ (List.getElem_mem hlt)
  have e : t.getD a [] = t[a] := by simp [List.getD_eq_getElem?_getD, hlt]
  unfold tbl
  rw [e, List.getD_eq_getElem?_getD, List.getElem?_map, List.getElem?_eq_getElem (by omega)]
  rfl
def shownB (g : List GP) (t : List (List Bool)) (a b : Nat) : Bool := (lefts g a).all (fun x => !tbl t b x.toNat) && (rights g b).all (fun y => !tbl t y.toNat a)
theorem gaShown_ok (g : List GP) (hg : GameOk g) (hl : g.length ≤ 1048576) (t : List (List Bool)) (ht : sqr g.length t) (a b : Nat) (ha : a < g.length) (hb : b < g.length) :
    Ct Try.prog 98 [.sl false (g.map posE), .sl false (t.map rowV), .int .i64 a, .int .i64 b] [] (.bool (shownB g t a b)) [] := by
  have hla := lefts_len hg ha
  have hlb := lefts_len hg hb
  have pa := pos_at ha
  have pb := pos_at hb
  have ha1 : (a : Int) < (g.length : Int) := by omega
  have hb1 : (b : Int) < (g.length : Int) := by omega
  have htl : t.length = g.length := ht.1
  obtain ⟨rb, rb1, rb2, rb3⟩ := tbl_row ht hb
  have rb4 : (t.map rowV)[b]? = some (.sl false (bools rb)) := by simp [rb1, rowV]
  refine Ct.by_ hmix [] Try.func98 rfl ?_
  simp only [run0, run1, run2, run3, run4, run5, run6, run7, run8, run9, run10, run11, run12, run13, run14, run15, run16, run17, run18, run19, run20, run21, run22, reduceCtorEq, Nat.reduceEqDiff, Nat.reduceAdd, Nat.reduceSub, Nat.reduceLeDiff, indexAddrA, indexRefA, appendA, strA, Nat.reduceMul, Nat.zero_mul, Nat.reduceMod, Int.reduceEq, Int.reduceLT, Int.reduceLE, Nat.reduceLT, Nat.lt_irrefl, Nat.reduceBEq, tys0, tys1, tys2, tys3, tys4, tys5, tys6, tys7, tys8, tys9, tys10, tys11, tys12, tys13, tys14, tys15, tys16, tys17, tys18, tys19, tys20, tys21, tys22, tys23, Try.ntmps98, Try.results98, pa, ha1, List.length_map, Int.toNat_natCast, Int.natCast_nonneg]
  refine AWp.loop_inv (ι := List Int × List Int) (fun p => ⟨[.sl false (g.map posE), .sl false (t.map rowV), .int .i64 a, .int .i64 b, .junk, .junk, .junk, .junk, .bool false, .junk, .junk, .junk, .junk, .junk, .junk, .junk, .junk, .sl false (ints (lefts g a)), .int .i64 (lefts g a).length, .int .i64 p.1.length, .junk, .junk, .junk, .junk, .junk, .junk, .junk, .junk, .junk, .junk, .junk, .junk, .junk, .junk, .junk, .junk, .junk, .junk, .junk, .junk, .junk, .junk, .junk, .junk, .junk, .junk, .junk, .junk, .junk], []⟩)
    (fun p => lefts g a = p.1 ++ p.2 ∧ p.1.all (fun x => !tbl t b x.toNat) = true) (fun p => p.2.length) ([], lefts g a) ⟨rfl, rfl⟩ ⟨by simp only [List.length_nil, Int.natCast_zero]; repeat constructor, rfl⟩ ?_
  rintro ⟨d, r⟩ ⟨h1, h2⟩
  refine W.sound hmix (E := []) ?_
  simp only at h1 h2
  cases r with
  | cons x r =>
    obtain ⟨e1, e2, e5⟩ := int_split h1 hla.1
    have hx := lefts_lt hg (a := a) (x := x) (by rw [h1]; simp)
    obtain ⟨k, rfl⟩ := Int.eq_ofNat_of_zero_le hx.1
    have hk := rb3 k (by omega)
    have hk1 : (k : Int) < (rb.length : Int) := by omega
    cases hv : tbl t b k
    · rw [hv] at hk
      simp only [run0, run1, run2, run3, run4, run5, run6, run7, run8, run9, run10, run11, run12, run13, run14, run15, run16, run17, run18, run19, run20, run21, run22, reduceCtorEq, Nat.reduceEqDiff, Nat.reduceAdd, Nat.reduceSub, Nat.reduceLeDiff, indexAddrA, indexRefA, appendA, strA, Nat.reduceMul, Nat.zero_mul, Nat.reduceMod, Int.reduceEq, Int.reduceLT, Int.reduceLE, Nat.reduceLT, Nat.lt_irrefl, Nat.reduceBEq, tys0, tys1, tys2, tys3, tys4, tys5, tys6, tys7, tys8, tys9, tys10, tys11, tys12, tys13, tys14, tys15, tys16, tys17, tys18, tys19, tys20, tys21, tys22, tys23, Try.ntmps98, Try.results98, List.length_map, e1, e2, e5, hb1, htl, rb4, hk, hk1, Int.toNat_natCast, Int.natCast_nonneg]
      exact ⟨(d ++ [(k : Int)], r), ⟨by simp [h1], by simp [List.all_append, h2, hv]⟩, by simp, by simp only [List.length_append, List.length_cons, List.length_nil]; repeat constructor⟩
    · rw [hv] at hk
      simp only [run0, run1, run2, run3, run4, run5, run6, run7, run8, run9, run10, run11, run12, run13, run14, run15, run16, run17, run18, run19, run20, run21, run22, reduceCtorEq, Nat.reduceEqDiff, Nat.reduceAdd, Nat.reduceSub, Nat.reduceLeDiff, indexAddrA, indexRefA, appendA, strA, Nat.reduceMul, Nat.zero_mul, Nat.reduceMod, Int.reduceEq, Int.reduceLT, Int.reduceLE, Nat.reduceLT, Nat.lt_irrefl, Nat.reduceBEq, tys0, tys1, tys2, tys3, tys4, tys5, tys6, tys7, tys8, tys9, tys10, tys11, tys12, tys13, tys14, tys15, tys16, tys17, tys18, tys19, tys20, tys21, tys22, tys23, Try.ntmps98, Try.results98, List.length_map, e1, e2, hb1, htl, rb4, hk, hk1, Int.toNat_natCast, Int.natCast_nonneg]
      exact Fin.eq (by unfold shownB; rw [h1]; simp [hv]) rfl
  | nil =>
    have e1 := int_end h1
    have hd : d = lefts g a := by rw [h1, List.append_nil]
    subst hd
    simp only [run0, run1, run2, run3, run4, run5, run6, run7, run8, run9, run10, run11, run12, run13, run14, run15, run16, run17, run18, run19, run20, run21, run22, reduceCtorEq, Nat.reduceEqDiff, Nat.reduceAdd, Nat.reduceSub, Nat.reduceLeDiff, indexAddrA, indexRefA, appendA, strA, Nat.reduceMul, Nat.zero_mul, Nat.reduceMod, Int.reduceEq, Int.reduceLT, Int.reduceLE, Nat.reduceLT, Nat.lt_irrefl, Nat.reduceBEq, tys0, tys1, tys2, tys3, tys4, tys5, tys6, tys7, tys8, tys9, tys10, tys11, tys12, tys13, tys14, tys15, tys16, tys17, tys18, tys19, tys20, tys21, tys22, tys23, Try.ntmps98, Try.results98, e1, pb, hb1, List.length_map, Int.toNat_natCast, Int.natCast_nonneg]
    refine AWp.loop_inv (ι := List Int × List Int) (fun p => ⟨[.sl false (g.map posE), .sl false (t.map rowV), .int .i64 a, .int .i64 b, .junk, .junk, .junk, .junk, .bool false, .junk, .junk, .junk, .junk, .junk, .junk, .junk, .junk, .junk, .junk, .junk, .junk, .junk, .junk, .junk, .junk, .junk, .junk, .junk, .junk, .junk, .junk, .junk, .junk, .junk, .junk, .sl false (ints (rights g b)), .int .i64 (rights g b).length, .int .i64 p.1.length, .junk, .junk, .junk, .junk, .junk, .junk, .junk, .junk, .junk, .junk, .junk], []⟩)
      (fun p => rights g b = p.1 ++ p.2 ∧ p.1.all (fun y => !tbl t y.toNat a) = true) (fun p => p.2.length) ([], rights g b) ⟨rfl, rfl⟩ ⟨by simp only [List.length_nil, Int.natCast_zero]; repeat constructor, rfl⟩ ?_
    rintro ⟨d, r⟩ ⟨k1, k2⟩
    refine W.sound hmix (E := []) ?_
    simp only at k1 k2
    cases r with
    | cons x r =>
      obtain ⟨e1, e2, e5⟩ := int_split k1 hlb.2
      have hx := rights_lt hg (a := b) (x := x) (by rw [k1]; simp)
      obtain ⟨k, rfl⟩ := Int.eq_ofNat_of_zero_le hx.1
      have hkl : k < g.length := by omega
      obtain ⟨rk, rk1, rk2, rk3⟩ := tbl_row ht hkl
      have rk4 : (t.map rowV)[k]? = some (.sl false (bools rk)) := by simp [rk1, rowV]
      have hk := rk3 a (by omega)
      have hk1 : (a : Int) < (rk.length : Int) := by omega
      have hk2 : (k : Int) < (g.length : Int) := by omega
      cases hv : tbl t k a
      · rw [hv] at hk
        simp only [run0, run1, run2, run3, run4, run5, run6, run7, run8, run9, run10, run11, run12, run13, run14, run15, run16, run17, run18, run19, run20, run21, run22, reduceCtorEq, Nat.reduceEqDiff, Nat.reduceAdd, Nat.reduceSub, Nat.reduceLeDiff, indexAddrA, indexRefA, appendA, strA, Nat.reduceMul, Nat.zero_mul, Nat.reduceMod, Int.reduceEq, Int.reduceLT, Int.reduceLE, Nat.reduceLT, Nat.lt_irrefl, Nat.reduceBEq, tys0, tys1, tys2, tys3, tys4, tys5, tys6, tys7, tys8, tys9, tys10, tys11, tys12, tys13, tys14, tys15, tys16, tys17, tys18, tys19, tys20, tys21, tys22, tys23, Try.ntmps98, Try.results98, List.length_map, e1, e2, e5, htl, rk4, hk, hk1, hk2, Int.toNat_natCast, Int.natCast_nonneg]
        exact ⟨(d ++ [(k : Int)], r), ⟨by simp [k1], by simp [List.all_append, k2, hv]⟩, by simp, by simp only [List.length_append, List.length_cons, List.length_nil]; repeat constructor⟩
      · rw [hv] at hk
        simp only [run0, run1, run2, run3, run4, run5, run6, run7, run8, run9, run10, run11, run12, run13, run14, run15, run16, run17, run18, run19, run20, run21, run22, reduceCtorEq, Nat.reduceEqDiff, Nat.reduceAdd, Nat.reduceSub, Nat.reduceLeDiff, indexAddrA, indexRefA, appendA, strA, Nat.reduceMul, Nat.zero_mul, Nat.reduceMod, Int.reduceEq, Int.reduceLT, Int.reduceLE, Nat.reduceLT, Nat.lt_irrefl, Nat.reduceBEq, tys0, tys1, tys2, tys3, tys4, tys5, tys6, tys7, tys8, tys9, tys10, tys11, tys12, tys13, tys14, tys15, tys16, tys17, tys18, tys19, tys20, tys21, tys22, tys23, Try.ntmps98, Try.results98, List.length_map, e1, e2, htl, rk4, hk, hk1, hk2, Int.toNat_natCast, Int.natCast_nonneg]
        exact Fin.eq (by unfold shownB; rw [k1]; simp [hv]) rfl
    | nil =>
      have e1 := int_end k1
      have hd : d = rights g b := by rw [k1, List.append_nil]
      subst hd
      simp only [run0, run1, run2, run3, run4, run5, run6, run7, run8, run9, run10, run11, run12, run13, run14, run15, run16, run17, run18, run19, run20, run21, run22, reduceCtorEq, Nat.reduceEqDiff, Nat.reduceAdd, Nat.reduceSub, Nat.reduceLeDiff, indexAddrA, indexRefA, appendA, strA, Nat.reduceMul, Nat.zero_mul, Nat.reduceMod, Int.reduceEq, Int.reduceLT, Int.reduceLE, Nat.reduceLT, Nat.lt_irrefl, Nat.reduceBEq, tys0, tys1, tys2, tys3, tys4, tys5, tys6, tys7, tys8, tys9, tys10, tys11, tys12, tys13, tys14, tys15, tys16, tys17, tys18, tys19, tys20, tys21, tys22, tys23, Try.ntmps98, Try.results98, e1, List.length_map]
      exact Fin.eq (by unfold shownB; rw [h2, k2]; rfl) rfl
theorem gaOrder_ok (n : Nat) (t : List (List Bool)) (ht : sqr n t) (a b : Nat) (ha : a < n) (hb : b < n) :
    Ct Try.prog 65 [.sl false (t.map rowV), .int .i64 a, .int .i64 b] [] (.int .i64 (ordI (tbl t a b) (tbl t b a))) [] := by
  have htl : t.length = n := ht.1
  obtain ⟨ra, ra1, ra2, ra3⟩ := tbl_row ht ha
  obtain ⟨rb, rb1, rb2, rb3⟩ := tbl_row ht hb
  have ra4 : (t.map rowV)[a]? = some (.sl false (bools ra)) := by simp [ra1, rowV]
  have rb4 : (t.map rowV)[b]? = some (.sl false (bools rb)) := by simp [rb1, rowV]
  have k1 := ra3 b hb
  have k2 := rb3 a ha
  have ha1 : (a : Int) < (n : Int) := by omega
  have hb1 : (b : Int) < (n : Int) := by omega
  refine Ct.by_ hmix [] Try.func65 rfl ?_
  generalize tbl t a b = x at *
  generalize tbl t b a = y at *
  cases x <;> cases y <;> simp only [run0, run1, run2, run3, run4, run5, run6, run7, run8, run9, run10, run11, run12, run13, run14, run15, run16, run17, run18, run19, run20, run21, run22, reduceCtorEq, Nat.reduceEqDiff, Nat.reduceAdd, Nat.reduceSub, Nat.reduceLeDiff, indexAddrA, indexRefA, appendA, strA, Nat.reduceMul, Nat.zero_mul, Nat.reduceMod, Int.reduceEq, Int.reduceLT, Int.reduceLE, Nat.reduceLT, Nat.lt_irrefl, Nat.reduceBEq, tys0, tys1, tys2, tys3, tys4, tys5, tys6, tys7, tys8, tys9, tys10, tys11, tys12, tys13, tys14, tys15, tys16, tys17, tys18, tys19, tys20, tys21, tys22, tys23, Try.ntmps65, Try.results65, List.length_map, htl, ra2, rb2, ra4, rb4, k1, k2, ha1, hb1, Int.toNat_natCast, Int.natCast_nonneg] <;> exact Fin.eq rfl rfl

end Go.Proofs.Ytllcljajlemmaaa
/-
  Games: the reference's table of the order of positions.
-/
namespace Go.Proofs.Ytllcljajlemmaaa
open Go K
set_option linter.unusedSimpArgs false
set_option linter.unusedVariables false
set_option maxHeartbeats 3200000
set_option maxRecDepth 8000

def setT (t : List (List Bool)) (i k : Nat) (v : Bool) : List (List Bool) := t.set i ((t.getD i []).set k v)
theorem setT_sqr {n : Nat} {t : List (List Bool)} (h : sqr n t) (i k : Nat) (v : Bool) (hi : i < n) : sqr n (setT t i k v) := by
  obtain ⟨r, h1, h2, _⟩ := tbl_row h hi
  refine ⟨by simp [setT, h.1], fun q hq => ?_⟩
  unfold setT at hq
  rcases List.mem_or_eq_of_mem_set hq with hq | rfl
  · exact h.2 q hq
  · rw [List.length_set, List.getD_eq_getElem?_getD, h1]; exact h2
theorem tbl_setT {n : Nat} {t : List (List Bool)} (h : sqr n t) {i k : Nat} (v : Bool) (hi : i < n) (hk : k < n) (a b : Nat) : tbl (setT t i k v) a b = if a = i ∧ b = k then v else tbl t a b := by
  obtain ⟨r, h1, h2, _⟩ := tbl_row h hi
  have hl : i < t.length := by rw [h.1]; exact hi
  unfold tbl setT
  by_cases ha : a = i
  · subst ha
    rw [List.getD_eq_getElem?_getD (l := t.set a _), List.getElem?_set_self hl, Option.getD_some, List.getD_eq_getElem?_getD (l := t), h1, Option.getD_some]
    by_cases hb : b = k
    · subst hb
      rw [if_pos ⟨rfl, rfl⟩, List.getD_eq_getElem?_getD, List.getElem?_set_self (by omega)]; rfl
    · rw [if_neg (fun e => hb e.2), List.getD_eq_getElem?_getD, List.getElem?_set_ne (fun e => hb e.symm), List.getD_eq_getElem?_getD]
  · rw [if_neg (fun e => ha e.1), List.getD_eq_getElem?_getD (l := t.set i _), List.getElem?_set_ne (fun e => ha e.symm), List.getD_eq_getElem?_getD (l := t)]
/-- What is right of a table so far. -/
def Kn (g : List GP) (t : List (List Bool)) (i k : Nat) : Prop := ∀ a b, a ≤ i → b ≤ i → (a < i ∧ b < i) ∨ (a < k ∧ b = i) ∨ (b < k ∧ a = i) → tbl t a b = leG g a b
theorem shown_le {g : List GP} (hg : GameOk g) {t : List (List Bool)} {a b : Nat} (h1 : ∀ x : Nat, x < a → tbl t b x = leG g b x) (h2 : ∀ y : Nat, y < b → tbl t y a = leG g y a) : shownB g t a b = leG g a b := by
  rw [leG_eq hg]
  unfold shownB
  congr 1
  · refine all_congr_mem fun x hx => ?_
    have := lefts_lt hg hx
    rw [h1 x.toNat (by omega)]
  · refine all_congr_mem fun y hy => ?_
    have := rights_lt hg hy
    rw [h2 y.toNat (by omega)]
theorem Kn.step {g : List GP} (hg : GameOk g) {n : Nat} {t : List (List Bool)} (ht : sqr n t) {i k : Nat} (hi : i < n) (hk : k ≤ i) (h : Kn g t i k) :
    Kn g (setT (setT t i k (shownB g t i k)) k i (shownB g (setT t i k (shownB g t i k)) k i)) i (k + 1) := by
  have v1 : shownB g t i k = leG g i k := shown_le hg (fun x hx => by
    by_cases hki : k = i
    · exact h k x hk (by omega) (.inr (.inr ⟨by omega, hki⟩))
    · exact h k x hk (by omega) (.inl ⟨by omega, hx⟩)) (fun y hy => h y i (by omega) (Nat.le_refl _) (.inr (.inl ⟨hy, rfl⟩)))
  rw [v1]
  have hs := setT_sqr ht i k (leG g i k) hi
  have v2 : shownB g (setT t i k (leG g i k)) k i = leG g k i := shown_le hg (fun x hx => by
    rw [tbl_setT ht _ hi (by omega)]
    split
    · rename_i e; rw [e.2]
    · exact h i x (Nat.le_refl _) (by omega) (.inr (.inr ⟨hx, rfl⟩))) (fun y hy => by
    rw [tbl_setT ht _ hi (by omega)]
    split
    · rename_i e; omega
    · by_cases hki : k = i
      · exact h y k (by omega) hk (.inr (.inl ⟨by omega, hki⟩))
      · exact h y k (by omega) hk (.inl ⟨hy, by omega⟩))
  rw [v2]
  intro a b ha hb hc
  rw [tbl_setT hs _ (by omega) hi, tbl_setT ht _ hi (by omega)]
  split
  · rename_i e; rw [e.1, e.2]
  · split
    · rename_i e; rw [e.1, e.2]
    · rename_i e1 e2
      refine h a b ha hb ?_
      rcases hc with hc | hc | hc
      · exact .inl hc
      · exact .inr (.inl ⟨by have := hc.1; have : a ≠ k := fun q => e1 ⟨q, hc.2⟩; omega, hc.2⟩)
      · exact .inr (.inr ⟨by have := hc.1; have : b ≠ k := fun q => e2 ⟨hc.2, q⟩; omega, hc.2⟩)

/-! ### the walk -/
def refT (n k : Nat) : List AV := (List.range k).map (fun i => .ref (i + 1) [] 0 n) ++ List.replicate (n - k) nilV
def rowO (r : List Bool) : AObj := .vec 4 1 0 (bools r)
def tabL (n k : Nat) (t : List (List Bool)) : List AObj := .vec 118 1 0 (refT n k) :: t.map rowO
theorem refT_noOwn (n k : Nat) : noOwn (refT n k) = true := by
  refine List.all_eq_true.2 fun e he => ?_
  rcases List.mem_append.1 he with he | he
  · obtain ⟨i, _, rfl⟩ := List.mem_map.1 he; rfl
  · rw [(List.mem_replicate.1 he).2]; rfl
theorem bools_noOwn (l : List Bool) : noOwn (bools l) = true := by
  refine List.all_eq_true.2 fun e he => ?_
  obtain ⟨i, _, rfl⟩ := List.mem_map.1 he; rfl
theorem refT_get {n i : Nat} (h : i < n) : (refT n n)[i]? = some (.ref (i + 1) [] 0 n) := by
  unfold refT
  rw [List.getElem?_append_left (by simpa using h), List.getElem?_map, List.getElem?_range h]; rfl
theorem refT_next {n k : Nat} (h : k < n) : (refT n k)[k]? = some nilV ∧ (refT n k).set k (.ref (k + 1) [] 0 n) = refT n (k + 1) := by
  have hr : List.replicate (n - k) nilV = nilV :: List.replicate (n - (k + 1)) nilV := by rw [show n - k = n - (k + 1) + 1 by omega, List.replicate_succ]
  unfold refT
  rw [hr]
  constructor
  · rw [List.getElem?_append_right (by simp)]; simp
  · rw [List.set_append_right _ _ (by simp)]
    simp [List.range_succ]
theorem Vw_row {L : List AObj} {id n : Nat} {r : List Bool} (h : L[id]? = some (rowO r)) (hn : n = r.length) : Vw L (.ref id [] 0 n) (rowV r) := by
  subst hn
  have := Vw.refPur (o := false) h (n := r.length) (by simp) (fun e he c hc => by
    obtain ⟨y, _, rfl⟩ := List.mem_map.1 he
    simp only [AV.cells, List.mem_cons, List.not_mem_nil, or_false] at hc
    subst hc
    exact ⟨.bool _, fun xs h => by cases h⟩)
  rwa [List.take_of_length_le (by simp)] at this
theorem Vw_tab {n : Nat} {t : List (List Bool)} (ht : sqr n t) (X : List AObj) : Vw (tabL n n t ++ X) (.ref 0 [] 0 n) (.sl false (t.map rowV)) := by
  refine Vw.ref (es := refT n n) (es' := refT n n) (T := 118) (sz := 1) rfl rfl (by simp [ht.1]) fun i e y he hy => ?_
  have hi : i < n := by
    have := (List.getElem?_eq_some_iff.1 hy).1
    simp [ht.1] at this; exact this
  rw [refT_get hi] at he
  cases he
  rw [List.getElem?_map] at hy
  obtain ⟨r, h1, h2, _⟩ := tbl_row ht hi
  rw [h1] at hy
  cases hy
  refine ⟨rfl, fun j c d hc hd => ?_⟩
  cases j with
  | succ j => simp [AV.cells] at hc
  | zero =>
    simp [AV.cells, rowV] at hc hd
    subst hc hd
    have : (tabL n n t ++ X)[i + 1]? = some (rowO r) := by
      unfold tabL
      rw [List.cons_append, List.getElem?_cons_succ, List.getElem?_append_left (by rw [List.length_map, ht.1]; exact hi), List.getElem?_map, h1]; rfl
    exact Vw_row this h2.symm
structure TbS where
  i : Nat
  k : Nat
  t : List (List Bool)
theorem setT_tab {n : Nat} {t : List (List Bool)} {r : List Bool} {i k : Nat} {v : Bool} (h1 : t[i]? = some r) : (tabL n n t).set (i + 1) (.vec 4 1 0 ((bools r).set k (.bool v))) = tabL n n (setT t i k v) := by
  unfold tabL setT
  rw [List.set_cons_succ, List.map_set, List.getD_eq_getElem?_getD, h1, Option.getD_some]
  have e : (bools r).set k (.bool v) = bools (r.set k v) := by simp [bools, List.map_set]
  rw [e]
  rfl

/-- The whole table. -/
def tabG (g : List GP) : List (List Bool) := (List.range g.length).map fun a => (List.range g.length).map fun b => leG g a b
theorem tabG_sqr (g : List GP) : sqr g.length (tabG g) := by
  refine ⟨by simp [tabG], fun r hr => ?_⟩
  obtain ⟨a, _, rfl⟩ := List.mem_map.1 hr
  simp
theorem tbl_tabG (g : List GP) {a b : Nat} (ha : a < g.length) (hb : b < g.length) : tbl (tabG g) a b = leG g a b := by
  unfold tbl tabG
  have e : ((List.range g.length).map fun a => (List.range g.length).map fun b => leG g a b).getD a [] = (List.range g.length).map fun b => leG g a b := by
    rw [List.getD_eq_getElem?_getD, List.getElem?_map, List.getElem?_range ha]; rfl
  rw [e, List.getD_eq_getElem?_getD, List.getElem?_map, List.getElem?_range hb]; rfl
theorem tab_eq {g : List GP} {t : List (List Bool)} (ht : sqr g.length t) (h : ∀ a b, a < g.length → b < g.length → tbl t a b = leG g a b) : t = tabG g := by
  have hs := tabG_sqr g
  apply List.ext_getElem?
  intro a
  by_cases ha : a < g.length
  · obtain ⟨r, r1, r2, r3⟩ := tbl_row ht ha
    obtain ⟨q, q1, q2, q3⟩ := tbl_row hs ha
    rw [r1, q1]
    congr 1
    apply List.ext_getElem?
    intro b
    by_cases hb : b < g.length
    · have k1 := r3 b hb
      have k2 := q3 b hb
      rw [h a b ha hb] at k1
      rw [tbl_tabG g ha hb] at k2
      rw [List.getElem?_map] at k1 k2
      cases hr : r[b]? with
      | none => rw [hr] at k1; cases k1
      | some x =>
        cases hq : q[b]? with
        | none => rw [hq] at k2; cases k2
        | some y =>
          rw [hr] at k1
          rw [hq] at k2
          simp at k1 k2
          rw [k1, k2]
    · rw [List.getElem?_eq_none (by omega), List.getElem?_eq_none (by omega)]
  · rw [List.getElem?_eq_none (by have := ht.1; omega), List.getElem?_eq_none (by have := hs.1; omega)]

theorem le_big {n : Nat} (h : n ≤ 1048576) (c : Int) (hc : 1048576 ≤ c) : (n : Int) ≤ c := by omega
theorem gaAtMost_ok (g : List GP) (hg : GameOk g) (hl : g.length ≤ 1048576) : Ct Try.prog 55 [.sl false (g.map posE)] [] (.sl false ((tabG g).map rowV)) [] := by
  have hbig := le_big hl
  have hW : ∀ i, isW (kindE [3000000 + 98]) i = false ∧ rowsAt (kindE [3000000 + 98]) i = false := fun i => ⟨by rw [isW_none i rfl]; rfl, by rw [rowsAt_E]; rfl⟩
  have pg := posL_pure g
  generalize hn : g.length = n at *
  refine Ct.by_ hmix [ 3000000 + 98] Try.func55 rfl ?_
  simp only [run0, run1, run2, run3, run4, run5, run6, run7, run8, run9, run10, run11, run12, run13, run14, run15, run16, run17, run18, run19, run20, run21, run22, reduceCtorEq, Nat.reduceEqDiff, Nat.reduceAdd, Nat.reduceSub, Nat.reduceLeDiff, indexAddrA, indexRefA, appendA, strA, Nat.reduceMul, Nat.zero_mul, Nat.reduceMod, Int.reduceEq, Int.reduceLT, Int.reduceLE, Nat.reduceLT, Nat.lt_irrefl, Nat.reduceBEq, tys0, tys1, tys2, tys3, tys4, tys5, tys6, tys7, tys8, tys9, tys10, tys11, tys12, tys13, tys14, tys15, tys16, tys17, tys18, tys19, tys20, tys21, tys22, tys23, Try.ntmps55, Try.results55, hbig, hn, List.length_map, Int.natCast_nonneg, Int.le_refl, Int.toNat_natCast]
  refine AWp.loop_inv (ι := Nat) (fun k => ⟨[.sl false (g.map posE), .junk, nilV, .ref 0 [] 0 n, .junk, .junk, .junk, .junk, .junk, .junk, .sl false (g.map posE), .int .i64 n, .int .i64 k, .junk, .junk, .junk, .junk, .junk, .junk, .junk, .junk, .junk, .junk, .junk, .junk, .junk, .junk, .junk, .junk, .junk, .junk, .junk, .junk, .junk, .junk, .junk, .junk, .junk, .junk, .junk, .junk, .junk, .junk, .junk, .junk, .junk, .junk, .junk, .junk, .junk, .junk, .junk, .junk, .junk, .junk, .junk], tabL n k (List.replicate k (List.replicate n false))⟩)
    (fun k => k ≤ n) (fun k => n - k) 0 (Nat.zero_le _) ⟨by simp only [Int.natCast_zero]; repeat constructor, by simp [tabL, refT, nilV]⟩ ?_
  intro k hk
  refine W.sound hmix (E := [3000000 + 98]) ?_
  by_cases hkn : k < n
  · have e1 : (k : Int) < (n : Int) := by omega
    have e5 : IntKind.i64.wrap ((k : Int) + 1) = ((k + 1 : Nat) : Int) := by rw [i64_id (by omega) (by omega)]; simp
    obtain ⟨r1, r2⟩ := refT_next hkn
    have r3 := refT_noOwn n k
    have r4 : (refT n k).length = n := by simp [refT]; omega
    unfold tabL
    simp only [run0, run1, run2, run3, run4, run5, run6, run7, run8, run9, run10, run11, run12, run13, run14, run15, run16, run17, run18, run19, run20, run21, run22, reduceCtorEq, Nat.reduceEqDiff, Nat.reduceAdd, Nat.reduceSub, Nat.reduceLeDiff, indexAddrA, indexRefA, appendA, strA, Nat.reduceMul, Nat.zero_mul, Nat.reduceMod, Int.reduceEq, Int.reduceLT, Int.reduceLE, Nat.reduceLT, Nat.lt_irrefl, Nat.reduceBEq, tys0, tys1, tys2, tys3, tys4, tys5, tys6, tys7, tys8, tys9, tys10, tys11, tys12, tys13, tys14, tys15, tys16, tys17, tys18, tys19, tys20, tys21, tys22, tys23, Try.ntmps55, Try.results55, hbig, hn, e1, e5, r1, r2, r3, r4, nilV, List.length_map, Int.natCast_nonneg, Int.le_refl, Int.toNat_natCast]
    refine ⟨k + 1, by omega, by omega, by repeat constructor, ?_⟩
    simp [tabL, rowO, List.replicate_succ']
  · have e1 : ¬ (k : Int) < (n : Int) := by omega
    obtain rfl : k = n := by omega
    have hs0 : sqr k (List.replicate k (List.replicate k false)) := ⟨by simp, fun r hr => by rw [(List.mem_replicate.1 hr).2]; simp⟩
    simp only [run0, run1, run2, run3, run4, run5, run6, run7, run8, run9, run10, run11, run12, run13, run14, run15, run16, run17, run18, run19, run20, run21, run22, reduceCtorEq, Nat.reduceEqDiff, Nat.reduceAdd, Nat.reduceSub, Nat.reduceLeDiff, indexAddrA, indexRefA, appendA, strA, Nat.reduceMul, Nat.zero_mul, Nat.reduceMod, Int.reduceEq, Int.reduceLT, Int.reduceLE, Nat.reduceLT, Nat.lt_irrefl, Nat.reduceBEq, tys0, tys1, tys2, tys3, tys4, tys5, tys6, tys7, tys8, tys9, tys10, tys11, tys12, tys13, tys14, tys15, tys16, tys17, tys18, tys19, tys20, tys21, tys22, tys23, Try.ntmps55, Try.results55, hn, e1, List.length_map]
    refine AWp.loop_inv (ι := Nat × List (List Bool)) (fun p => ⟨[.sl false (g.map posE), .junk, nilV, .ref 0 [] 0 k, .junk, .junk, .junk, .junk, .junk, .junk, .junk, .junk, .junk, .junk, .junk, .junk, .junk, .junk, .junk, .junk, .junk, .junk, .sl false (g.map posE), .int .i64 k, .int .i64 p.1, .junk, .junk, .junk, .junk, .junk, .junk, .junk, .junk, .junk, .junk, .junk, .junk, .junk, .junk, .junk, .junk, .junk, .junk, .junk, .junk, .junk, .junk, .junk, .junk, .junk, .junk, .junk, .junk, .junk, .junk, .junk], tabL k k p.2⟩)
      (fun p => p.1 ≤ k ∧ sqr k p.2 ∧ Kn g p.2 p.1 0) (fun p => k - p.1) (0, List.replicate k (List.replicate k false)) ⟨Nat.zero_le _, hs0, fun a b ha hb hc => by omega⟩ ⟨by simp only [Int.natCast_zero]; repeat constructor, rfl⟩ ?_
    rintro ⟨i, t⟩ ⟨hi, ht, hK⟩
    refine W.sound hmix (E := [3000000 + 98]) ?_
    simp only at hi ht hK
    by_cases hik : i < k
    · have f1 : (i : Int) < (k : Int) := by omega
      have f5 : IntKind.i64.wrap ((i : Int) + 1) = ((i + 1 : Nat) : Int) := by rw [i64_id (by omega) (by omega)]; simp
      simp only [run0, run1, run2, run3, run4, run5, run6, run7, run8, run9, run10, run11, run12, run13, run14, run15, run16, run17, run18, run19, run20, run21, run22, reduceCtorEq, Nat.reduceEqDiff, Nat.reduceAdd, Nat.reduceSub, Nat.reduceLeDiff, indexAddrA, indexRefA, appendA, strA, Nat.reduceMul, Nat.zero_mul, Nat.reduceMod, Int.reduceEq, Int.reduceLT, Int.reduceLE, Nat.reduceLT, Nat.lt_irrefl, Nat.reduceBEq, tys0, tys1, tys2, tys3, tys4, tys5, tys6, tys7, tys8, tys9, tys10, tys11, tys12, tys13, tys14, tys15, tys16, tys17, tys18, tys19, tys20, tys21, tys22, tys23, Try.ntmps55, Try.results55, f1]
      refine AWp.loop_inv (ι := Nat × List (List Bool)) (fun p => ⟨[.sl false (g.map posE), .junk, nilV, .ref 0 [] 0 k, .junk, .int .i64 i, .int .i64 p.1, .junk, .junk, .junk, .junk, .junk, .junk, .junk, .junk, .junk, .junk, .junk, .junk, .junk, .junk, .junk, .sl false (g.map posE), .int .i64 k, .int .i64 i, .junk, .junk, .junk, .junk, .junk, .junk, .junk, .junk, .junk, .junk, .junk, .junk, .junk, .junk, .junk, .junk, .junk, .junk, .junk, .junk, .junk, .junk, .junk, .junk, .junk, .junk, .junk, .junk, .junk, .junk, .junk], tabL k k p.2⟩)
        (fun p => p.1 ≤ i + 1 ∧ sqr k p.2 ∧ Kn g p.2 i p.1) (fun p => i + 1 - p.1) (0, t) ⟨Nat.zero_le _, ht, hK⟩ ⟨by simp only [Int.natCast_zero]; repeat constructor, rfl⟩ ?_
      rintro ⟨m, t⟩ ⟨hm, ht, hK⟩
      refine W.sound hmix (E := [3000000 + 98]) ?_
      simp only at hm ht hK
      by_cases hmi : m ≤ i
      · have k1 : (m : Int) ≤ (i : Int) := by omega
        have k5 : IntKind.i64.wrap ((m : Int) + 1) = ((m + 1 : Nat) : Int) := by rw [i64_id (by omega) (by omega)]; simp
        have hmk : m < k := by omega
        have hmk1 : (m : Int) < (k : Int) := by omega
        have hst := hK.step hg ht hik hmi
        have ht1 := setT_sqr ht i m (shownB g t i m) hik
        have ht2 := setT_sqr ht1 m i (shownB g (setT t i m (shownB g t i m)) m i) hmk
        obtain ⟨ra, ra1, ra2, ra3⟩ := tbl_row ht hik
        obtain ⟨rb, rb1, rb2, rb3⟩ := tbl_row ht1 hmk
        have sa := setT_tab (k := m) (v := shownB g t i m) (n := k) ra1
        have sb := setT_tab (k := i) (v := shownB g (setT t i m (shownB g t i m)) m i) (n := k) rb1
        have g0 : ∀ t, (tabL k k t)[0]? = some (.vec 118 1 0 (refT k k)) := fun t => rfl
        have ga : (tabL k k t)[i + 1]? = some (.vec 4 1 0 (bools ra)) := by
          unfold tabL; rw [List.getElem?_cons_succ, List.getElem?_map, ra1]; rfl
        have gb : (tabL k k (setT t i m (shownB g t i m)))[m + 1]? = some (.vec 4 1 0 (bools rb)) := by
          unfold tabL; rw [List.getElem?_cons_succ, List.getElem?_map, rb1]; rfl
        have na := bools_noOwn ra
        have nb := bools_noOwn rb
        have nr := refT_noOwn k k
        have ri := refT_get hik
        have rm := refT_get hmk
        have rl : (refT k k).length = k := by simp [refT]
        have ea := ra3 m hmk
        have eb := rb3 i hik
        have lk : k ≤ (bools ra).length := by simp [ra2]
        have lk2 : k ≤ (bools rb).length := by simp [rb2]
        subst hn
        simp only [run0, run1, run2, run3, run4, run5, run6, run7, run8, run9, run10, run11, run12, run13, run14, run15, run16, run17, run18, run19, run20, run21, run22, reduceCtorEq, Nat.reduceEqDiff, Nat.reduceAdd, Nat.reduceSub, Nat.reduceLeDiff, indexAddrA, indexRefA, appendA, strA, Nat.reduceMul, Nat.zero_mul, Nat.reduceMod, Int.reduceEq, Int.reduceLT, Int.reduceLE, Nat.reduceLT, Nat.lt_irrefl, Nat.reduceBEq, tys0, tys1, tys2, tys3, tys4, tys5, tys6, tys7, tys8, tys9, tys10, tys11, tys12, tys13, tys14, tys15, tys16, tys17, tys18, tys19, tys20, tys21, tys22, tys23, Try.ntmps55, Try.results55, k1, f1, g0, ga, na, nr, ri, rl, ea, lk, hmk1, ra2, List.length_map, List.mapIdx_cons, List.mapIdx_nil, viewC, Int.natCast_nonneg, Int.toNat_natCast]
        refine ⟨by kernel_rfl, ?_⟩
        refine RunL.lendB rfl rfl ok_f98 rfl hW (gaShown_ok g hg hl t ht i m hik hmk) rfl (fun X => .cons (.pur (.of (show pureB (.sl false (g.map posE)) = true by simp only [pureB, pg]))) (.cons (Vw_tab ht X) (.cons (.pur (.int _ _)) (.cons (.pur (.int _ _)) .nil)))) rfl ?_
        simp only [run0, run1, run2, run3, run4, run5, run6, run7, run8, run9, run10, run11, run12, run13, run14, run15, run16, run17, run18, run19, run20, run21, run22, reduceCtorEq, Nat.reduceEqDiff, Nat.reduceAdd, Nat.reduceSub, Nat.reduceLeDiff, indexAddrA, indexRefA, appendA, strA, Nat.reduceMul, Nat.zero_mul, Nat.reduceMod, Int.reduceEq, Int.reduceLT, Int.reduceLE, Nat.reduceLT, Nat.lt_irrefl, Nat.reduceBEq, tys0, tys1, tys2, tys3, tys4, tys5, tys6, tys7, tys8, tys9, tys10, tys11, tys12, tys13, tys14, tys15, tys16, tys17, tys18, tys19, tys20, tys21, tys22, tys23, Try.ntmps55, Try.results55, k1, f1, g0, ga, na, nr, ri, rl, ea, lk, hmk1, ra2, sa, gb, nb, rm, eb, lk2, rb2, List.length_map, List.mapIdx_cons, List.mapIdx_nil, viewC, Int.natCast_nonneg, Int.toNat_natCast]
        refine ⟨by kernel_rfl, ?_⟩
        refine RunL.lendB rfl rfl ok_f98 rfl hW (gaShown_ok g hg hl _ ht1 m i hmk hik) rfl (fun X => .cons (.pur (.of (show pureB (.sl false (g.map posE)) = true by simp only [pureB, pg]))) (.cons (Vw_tab ht1 X) (.cons (.pur (.int _ _)) (.cons (.pur (.int _ _)) .nil)))) rfl ?_
        simp only [run0, run1, run2, run3, run4, run5, run6, run7, run8, run9, run10, run11, run12, run13, run14, run15, run16, run17, run18, run19, run20, run21, run22, reduceCtorEq, Nat.reduceEqDiff, Nat.reduceAdd, Nat.reduceSub, Nat.reduceLeDiff, indexAddrA, indexRefA, appendA, strA, Nat.reduceMul, Nat.zero_mul, Nat.reduceMod, Int.reduceEq, Int.reduceLT, Int.reduceLE, Nat.reduceLT, Nat.lt_irrefl, Nat.reduceBEq, tys0, tys1, tys2, tys3, tys4, tys5, tys6, tys7, tys8, tys9, tys10, tys11, tys12, tys13, tys14, tys15, tys16, tys17, tys18, tys19, tys20, tys21, tys22, tys23, Try.ntmps55, Try.results55, k1, f1, g0, gb, nb, nr, rm, rl, eb, lk2, rb2, sb, k5, List.length_map, List.mapIdx_cons, List.mapIdx_nil, viewC, Int.natCast_nonneg, Int.toNat_natCast]
        exact ⟨(m + 1, _), ⟨by simp only; omega, ht2, hst⟩, by simp only; omega, by repeat constructor, rfl⟩
      · have k1 : ¬ (m : Int) ≤ (i : Int) := by omega
        obtain rfl : m = i + 1 := by omega
        simp only [run0, run1, run2, run3, run4, run5, run6, run7, run8, run9, run10, run11, run12, run13, run14, run15, run16, run17, run18, run19, run20, run21, run22, reduceCtorEq, Nat.reduceEqDiff, Nat.reduceAdd, Nat.reduceSub, Nat.reduceLeDiff, indexAddrA, indexRefA, appendA, strA, Nat.reduceMul, Nat.zero_mul, Nat.reduceMod, Int.reduceEq, Int.reduceLT, Int.reduceLE, Nat.reduceLT, Nat.lt_irrefl, Nat.reduceBEq, tys0, tys1, tys2, tys3, tys4, tys5, tys6, tys7, tys8, tys9, tys10, tys11, tys12, tys13, tys14, tys15, tys16, tys17, tys18, tys19, tys20, tys21, tys22, tys23, Try.ntmps55, Try.results55, k1, f5]
        exact ⟨(i + 1, t), ⟨by simp only; omega, ht, fun a b ha hb hc => by
          by_cases hai : a ≤ i
          · by_cases hbi : b ≤ i
            · exact hK a b hai hbi (by omega)
            · omega
          · omega⟩, by simp only; omega, by repeat constructor, rfl⟩
    · have f1 : ¬ (i : Int) < (k : Int) := by omega
      obtain rfl : i = k := by omega
      have := tab_eq (g := g) (by rw [hn]; exact ht) (fun a b ha hb => hK a b (by omega) (by omega) (.inl ⟨by omega, by omega⟩))
      subst this
      simp only [run0, run1, run2, run3, run4, run5, run6, run7, run8, run9, run10, run11, run12, run13, run14, run15, run16, run17, run18, run19, run20, run21, run22, reduceCtorEq, Nat.reduceEqDiff, Nat.reduceAdd, Nat.reduceSub, Nat.reduceLeDiff, indexAddrA, indexRefA, appendA, strA, Nat.reduceMul, Nat.zero_mul, Nat.reduceMod, Int.reduceEq, Int.reduceLT, Int.reduceLE, Nat.reduceLT, Nat.lt_irrefl, Nat.reduceBEq, tys0, tys1, tys2, tys3, tys4, tys5, tys6, tys7, tys8, tys9, tys10, tys11, tys12, tys13, tys14, tys15, tys16, tys17, tys18, tys19, tys20, tys21, tys22, tys23, Try.ntmps55, Try.results55, f1]
      have hv := Vw_tab ht []
      rw [List.append_nil] at hv
      exact Fin.value hv

end Go.Proofs.Ytllcljajlemmaaa
/-
  Games: compared, and who wins: the laws.
-/
namespace Go.Proofs.Ytllcljajlemmaaa
open Go K
set_option linter.unusedSimpArgs false
set_option linter.unusedVariables false
set_option maxHeartbeats 1600000
set_option maxRecDepth 8000

theorem tabG_pure (g : List GP) : pureL ((tabG g).map rowV) = true := rows_pure _
theorem orderG_ok (g : List GP) (a b : Nat) (ha : a < g.length) (hb : b < g.length) : Ct Try.prog 65 [.sl false ((tabG g).map rowV), .int .i64 a, .int .i64 b] [] (.int .i64 (cmpG g a b)) [] := by
  have := gaOrder_ok g.length (tabG g) (tabG_sqr g) a b ha hb
  rw [tbl_tabG g ha hb, tbl_tabG g hb ha] at this
  exact this
theorem specCompareG_ok (g : List GP) (a b : Int) (hl : g.length ≤ 1048576) (hs : ∀ p ∈ g, smallP p) : Ct Try.prog 22 [.sl false (g.map posE), .int .i64 a, .int .i64 b] [] (cmpR g a b) [] := by
  have pg := posL_pure g
  have pt := tabG_pure g
  have hw : IntKind.i64.wrap ((g.length : Int) - 1) = (g.length : Int) - 1 := i64_id (by omega) (by omega)
  refine Ct.by_ hmix [] Try.func22 rfl ?_
  simp only [run0, run1, run2, run3, run4, run5, run6, run7, run8, run9, run10, run11, run12, run13, run14, run15, run16, run17, run18, run19, run20, run21, run22, reduceCtorEq, Nat.reduceEqDiff, Nat.reduceAdd, Nat.reduceSub, Nat.reduceLeDiff, indexAddrA, indexRefA, appendA, strA, Nat.reduceMul, Nat.zero_mul, Nat.reduceMod, Int.reduceEq, Int.reduceLT, Int.reduceLE, Nat.reduceLT, Nat.lt_irrefl, Nat.reduceBEq, tys0, tys1, tys2, tys3, tys4, tys5, tys6, tys7, tys8, tys9, tys10, tys11, tys12, tys13, tys14, tys15, tys16, tys17, tys18, tys19, tys20, tys21, tys22, tys23, Try.ntmps22, Try.results22]
  refine RunL.callp rfl rfl ok_f63 (gaHas_ok g a hl hs) (by simp only [pureL, pureB, pg, Bool.and_self]) rfl ?_
  cases h1 : hasB g a
  · simp only [run0, run1, run2, run3, run4, run5, run6, run7, run8, run9, run10, run11, run12, run13, run14, run15, run16, run17, run18, run19, run20, run21, run22, reduceCtorEq, Nat.reduceEqDiff, Nat.reduceAdd, Nat.reduceSub, Nat.reduceLeDiff, indexAddrA, indexRefA, appendA, strA, Nat.reduceMul, Nat.zero_mul, Nat.reduceMod, Int.reduceEq, Int.reduceLT, Int.reduceLE, Nat.reduceLT, Nat.lt_irrefl, Nat.reduceBEq, tys0, tys1, tys2, tys3, tys4, tys5, tys6, tys7, tys8, tys9, tys10, tys11, tys12, tys13, tys14, tys15, tys16, tys17, tys18, tys19, tys20, tys21, tys22, tys23, Try.ntmps22, Try.results22]
    exact Fin.eq (by simp [cmpR, h1]) rfl
  obtain ⟨hgb, a, rfl, ha⟩ := hasB_ok h1
  simp only [run0, run1, run2, run3, run4, run5, run6, run7, run8, run9, run10, run11, run12, run13, run14, run15, run16, run17, run18, run19, run20, run21, run22, reduceCtorEq, Nat.reduceEqDiff, Nat.reduceAdd, Nat.reduceSub, Nat.reduceLeDiff, indexAddrA, indexRefA, appendA, strA, Nat.reduceMul, Nat.zero_mul, Nat.reduceMod, Int.reduceEq, Int.reduceLT, Int.reduceLE, Nat.reduceLT, Nat.lt_irrefl, Nat.reduceBEq, tys0, tys1, tys2, tys3, tys4, tys5, tys6, tys7, tys8, tys9, tys10, tys11, tys12, tys13, tys14, tys15, tys16, tys17, tys18, tys19, tys20, tys21, tys22, tys23, Try.ntmps22, Try.results22, List.length_map, hw]
  refine RunL.callp rfl rfl ok_f64 (l1In_ok b 0 ((g.length : Int) - 1)) (by first | rfl | simp only [pureL, pureB, Bool.and_self, Bool.and_true, Bool.true_and]) rfl ?_
  have h2' : hasB g b = inB b 0 ((g.length : Int) - 1) := by simp [hasB, hgb]
  cases h2 : inB b 0 ((g.length : Int) - 1)
  · simp only [run0, run1, run2, run3, run4, run5, run6, run7, run8, run9, run10, run11, run12, run13, run14, run15, run16, run17, run18, run19, run20, run21, run22, reduceCtorEq, Nat.reduceEqDiff, Nat.reduceAdd, Nat.reduceSub, Nat.reduceLeDiff, indexAddrA, indexRefA, appendA, strA, Nat.reduceMul, Nat.zero_mul, Nat.reduceMod, Int.reduceEq, Int.reduceLT, Int.reduceLE, Nat.reduceLT, Nat.lt_irrefl, Nat.reduceBEq, tys0, tys1, tys2, tys3, tys4, tys5, tys6, tys7, tys8, tys9, tys10, tys11, tys12, tys13, tys14, tys15, tys16, tys17, tys18, tys19, tys20, tys21, tys22, tys23, Try.ntmps22, Try.results22]
    exact Fin.eq (by rw [h2] at h2'; simp [cmpR, h2']) rfl
  rw [h2] at h2'
  obtain ⟨_, b, rfl, hb⟩ := hasB_ok h2'
  have hg := (gameB_ok hgb).1
  simp only [run0, run1, run2, run3, run4, run5, run6, run7, run8, run9, run10, run11, run12, run13, run14, run15, run16, run17, run18, run19, run20, run21, run22, reduceCtorEq, Nat.reduceEqDiff, Nat.reduceAdd, Nat.reduceSub, Nat.reduceLeDiff, indexAddrA, indexRefA, appendA, strA, Nat.reduceMul, Nat.zero_mul, Nat.reduceMod, Int.reduceEq, Int.reduceLT, Int.reduceLE, Nat.reduceLT, Nat.lt_irrefl, Nat.reduceBEq, tys0, tys1, tys2, tys3, tys4, tys5, tys6, tys7, tys8, tys9, tys10, tys11, tys12, tys13, tys14, tys15, tys16, tys17, tys18, tys19, tys20, tys21, tys22, tys23, Try.ntmps22, Try.results22]
  refine RunL.callp rfl rfl ok_f55 (gaAtMost_ok g hg hl) (by simp only [pureL, pureB, pg, Bool.and_self]) rfl ?_
  simp only [run0, run1, run2, run3, run4, run5, run6, run7, run8, run9, run10, run11, run12, run13, run14, run15, run16, run17, run18, run19, run20, run21, run22, reduceCtorEq, Nat.reduceEqDiff, Nat.reduceAdd, Nat.reduceSub, Nat.reduceLeDiff, indexAddrA, indexRefA, appendA, strA, Nat.reduceMul, Nat.zero_mul, Nat.reduceMod, Int.reduceEq, Int.reduceLT, Int.reduceLE, Nat.reduceLT, Nat.lt_irrefl, Nat.reduceBEq, tys0, tys1, tys2, tys3, tys4, tys5, tys6, tys7, tys8, tys9, tys10, tys11, tys12, tys13, tys14, tys15, tys16, tys17, tys18, tys19, tys20, tys21, tys22, tys23, Try.ntmps22, Try.results22]
  refine RunL.callp rfl rfl ok_f65 (orderG_ok g a b ha hb) (by simp only [pureL, pureB, pt, Bool.and_self]) rfl ?_
  simp only [run0, run1, run2, run3, run4, run5, run6, run7, run8, run9, run10, run11, run12, run13, run14, run15, run16, run17, run18, run19, run20, run21, run22, reduceCtorEq, Nat.reduceEqDiff, Nat.reduceAdd, Nat.reduceSub, Nat.reduceLeDiff, indexAddrA, indexRefA, appendA, strA, Nat.reduceMul, Nat.zero_mul, Nat.reduceMod, Int.reduceEq, Int.reduceLT, Int.reduceLE, Nat.reduceLT, Nat.lt_irrefl, Nat.reduceBEq, tys0, tys1, tys2, tys3, tys4, tys5, tys6, tys7, tys8, tys9, tys10, tys11, tys12, tys13, tys14, tys15, tys16, tys17, tys18, tys19, tys20, tys21, tys22, tys23, Try.ntmps22, Try.results22]
  exact Fin.eq (by simp [cmpR, h1, h2']) rfl
theorem int_in {x : AV} (h : IsOf Try.prog 3 x) : ∃ n : Int, x = .int .i64 n := by
  obtain ⟨_, h⟩ := h.one ty_a3
  obtain ⟨n, e, _⟩ := h.int Try.underlying3
  simp at e
  exact ⟨n, e⟩
theorem FnExactCompareGames_ok {a0 a1 a2 : AV} (h0 : IsOf Try.prog 22 a0) (h1 : IsOf Try.prog 3 a1) (h2 : IsOf Try.prog 3 a2) : Ct Try.prog 5 [a0, a1, a2] [] (.bool true) [] := by
  obtain ⟨g, rfl, hl, hf⟩ := laws_isPoS h0
  obtain ⟨x1, rfl⟩ := int_in h1
  obtain ⟨x2, rfl⟩ := int_in h2
  have pg := posL_pure g
  refine Ct.by_ hmix [] Try.func5 rfl ?_
  simp only [run0, run1, run2, run3, run4, run5, run6, run7, run8, run9, run10, run11, run12, run13, run14, run15, run16, run17, run18, run19, run20, run21, run22, reduceCtorEq, Nat.reduceEqDiff, Nat.reduceAdd, Nat.reduceSub, Nat.reduceLeDiff, indexAddrA, indexRefA, appendA, strA, Nat.reduceMul, Nat.zero_mul, Nat.reduceMod, Int.reduceEq, Int.reduceLT, Int.reduceLE, Nat.reduceLT, Nat.lt_irrefl, Nat.reduceBEq, tys0, tys1, tys2, tys3, tys4, tys5, tys6, tys7, tys8, tys9, tys10, tys11, tys12, tys13, tys14, tys15, tys16, tys17, tys18, tys19, tys20, tys21, tys22, tys23, Try.ntmps5, Try.results5]
  refine RunL.callp rfl rfl ok_f13 (szPositionS_ok g 1048576 hl hf (by omega) (by omega)) (by simp only [pureL, pureB, pg, Bool.and_self]) rfl ?_
  rcases szN_spec (g.length + gsz g) 1048576 with ⟨g1, g2⟩ | ⟨g1, g2⟩
  case inr =>
    have e1 : szN (g.length + gsz g) 1048576 < 0 := by omega
    simp only [run0, run1, run2, run3, run4, run5, run6, run7, run8, run9, run10, run11, run12, run13, run14, run15, run16, run17, run18, run19, run20, run21, run22, reduceCtorEq, Nat.reduceEqDiff, Nat.reduceAdd, Nat.reduceSub, Nat.reduceLeDiff, indexAddrA, indexRefA, appendA, strA, Nat.reduceMul, Nat.zero_mul, Nat.reduceMod, Int.reduceEq, Int.reduceLT, Int.reduceLE, Nat.reduceLT, Nat.lt_irrefl, Nat.reduceBEq, tys0, tys1, tys2, tys3, tys4, tys5, tys6, tys7, tys8, tys9, tys10, tys11, tys12, tys13, tys14, tys15, tys16, tys17, tys18, tys19, tys20, tys21, tys22, tys23, Try.ntmps5, Try.results5, e1]
    exact Fin.eq rfl rfl
  have e1 : ¬ szN (g.length + gsz g) 1048576 < 0 := by omega
  have gl : g.length ≤ 1048576 := by omega
  have gs : ∀ p ∈ g, smallP p := fun p hp => by have := gsz_mem hp; unfold psz at this; exact ⟨by omega, by omega⟩
  simp only [run0, run1, run2, run3, run4, run5, run6, run7, run8, run9, run10, run11, run12, run13, run14, run15, run16, run17, run18, run19, run20, run21, run22, reduceCtorEq, Nat.reduceEqDiff, Nat.reduceAdd, Nat.reduceSub, Nat.reduceLeDiff, indexAddrA, indexRefA, appendA, strA, Nat.reduceMul, Nat.zero_mul, Nat.reduceMod, Int.reduceEq, Int.reduceLT, Int.reduceLE, Nat.reduceLT, Nat.lt_irrefl, Nat.reduceBEq, tys0, tys1, tys2, tys3, tys4, tys5, tys6, tys7, tys8, tys9, tys10, tys11, tys12, tys13, tys14, tys15, tys16, tys17, tys18, tys19, tys20, tys21, tys22, tys23, Try.ntmps5, Try.results5, e1]
  refine RunL.callp rfl rfl ok_f15 (toPositionS_ok g gl gs) (by simp only [pureL, pureB, pg, Bool.and_self]) rfl ?_
  simp only [run0, run1, run2, run3, run4, run5, run6, run7, run8, run9, run10, run11, run12, run13, run14, run15, run16, run17, run18, run19, run20, run21, run22, reduceCtorEq, Nat.reduceEqDiff, Nat.reduceAdd, Nat.reduceSub, Nat.reduceLeDiff, indexAddrA, indexRefA, appendA, strA, Nat.reduceMul, Nat.zero_mul, Nat.reduceMod, Int.reduceEq, Int.reduceLT, Int.reduceLE, Nat.reduceLT, Nat.lt_irrefl, Nat.reduceBEq, tys0, tys1, tys2, tys3, tys4, tys5, tys6, tys7, tys8, tys9, tys10, tys11, tys12, tys13, tys14, tys15, tys16, tys17, tys18, tys19, tys20, tys21, tys22, tys23, Try.ntmps5, Try.results5]
  refine RunL.callp rfl rfl ok_f22 (specCompareG_ok g x1 x2 gl gs) (by simp only [pureL, pureB, pg, Bool.and_self]) rfl ?_
  simp only [run0, run1, run2, run3, run4, run5, run6, run7, run8, run9, run10, run11, run12, run13, run14, run15, run16, run17, run18, run19, run20, run21, run22, reduceCtorEq, Nat.reduceEqDiff, Nat.reduceAdd, Nat.reduceSub, Nat.reduceLeDiff, indexAddrA, indexRefA, appendA, strA, Nat.reduceMul, Nat.zero_mul, Nat.reduceMod, Int.reduceEq, Int.reduceLT, Int.reduceLE, Nat.reduceLT, Nat.lt_irrefl, Nat.reduceBEq, tys0, tys1, tys2, tys3, tys4, tys5, tys6, tys7, tys8, tys9, tys10, tys11, tys12, tys13, tys14, tys15, tys16, tys17, tys18, tys19, tys20, tys21, tys22, tys23, Try.ntmps5, Try.results5, cmpR]
  refine RunL.callp rfl rfl ok_f15 (toPositionS_ok g gl gs) (by simp only [pureL, pureB, pg, Bool.and_self]) rfl ?_
  simp only [run0, run1, run2, run3, run4, run5, run6, run7, run8, run9, run10, run11, run12, run13, run14, run15, run16, run17, run18, run19, run20, run21, run22, reduceCtorEq, Nat.reduceEqDiff, Nat.reduceAdd, Nat.reduceSub, Nat.reduceLeDiff, indexAddrA, indexRefA, appendA, strA, Nat.reduceMul, Nat.zero_mul, Nat.reduceMod, Int.reduceEq, Int.reduceLT, Int.reduceLE, Nat.reduceLT, Nat.lt_irrefl, Nat.reduceBEq, tys0, tys1, tys2, tys3, tys4, tys5, tys6, tys7, tys8, tys9, tys10, tys11, tys12, tys13, tys14, tys15, tys16, tys17, tys18, tys19, tys20, tys21, tys22, tys23, Try.ntmps5, Try.results5]
  refine RunL.callp rfl rfl ok_f23 (implCompareG_ok g x1 x2 gl gs) (by simp only [pureL, pureB, pg, Bool.and_self]) rfl ?_
  simp only [run0, run1, run2, run3, run4, run5, run6, run7, run8, run9, run10, run11, run12, run13, run14, run15, run16, run17, run18, run19, run20, run21, run22, reduceCtorEq, Nat.reduceEqDiff, Nat.reduceAdd, Nat.reduceSub, Nat.reduceLeDiff, indexAddrA, indexRefA, appendA, strA, Nat.reduceMul, Nat.zero_mul, Nat.reduceMod, Int.reduceEq, Int.reduceLT, Int.reduceLE, Nat.reduceLT, Nat.lt_irrefl, Nat.reduceBEq, tys0, tys1, tys2, tys3, tys4, tys5, tys6, tys7, tys8, tys9, tys10, tys11, tys12, tys13, tys14, tys15, tys16, tys17, tys18, tys19, tys20, tys21, tys22, tys23, Try.ntmps5, Try.results5, cmpR, bne_self_eq_false]
  refine RunL.callp rfl rfl ok_f15 (toPositionS_ok g gl gs) (by simp only [pureL, pureB, pg, Bool.and_self]) rfl ?_
  simp only [run0, run1, run2, run3, run4, run5, run6, run7, run8, run9, run10, run11, run12, run13, run14, run15, run16, run17, run18, run19, run20, run21, run22, reduceCtorEq, Nat.reduceEqDiff, Nat.reduceAdd, Nat.reduceSub, Nat.reduceLeDiff, indexAddrA, indexRefA, appendA, strA, Nat.reduceMul, Nat.zero_mul, Nat.reduceMod, Int.reduceEq, Int.reduceLT, Int.reduceLE, Nat.reduceLT, Nat.lt_irrefl, Nat.reduceBEq, tys0, tys1, tys2, tys3, tys4, tys5, tys6, tys7, tys8, tys9, tys10, tys11, tys12, tys13, tys14, tys15, tys16, tys17, tys18, tys19, tys20, tys21, tys22, tys23, Try.ntmps5, Try.results5]
  refine RunL.callp rfl rfl ok_f17 (eqPositionS_ok g gl gs) (by simp only [pureL, pureB, pg, Bool.and_self]) rfl ?_
  simp only [run0, run1, run2, run3, run4, run5, run6, run7, run8, run9, run10, run11, run12, run13, run14, run15, run16, run17, run18, run19, run20, run21, run22, reduceCtorEq, Nat.reduceEqDiff, Nat.reduceAdd, Nat.reduceSub, Nat.reduceLeDiff, indexAddrA, indexRefA, appendA, strA, Nat.reduceMul, Nat.zero_mul, Nat.reduceMod, Int.reduceEq, Int.reduceLT, Int.reduceLE, Nat.reduceLT, Nat.lt_irrefl, Nat.reduceBEq, tys0, tys1, tys2, tys3, tys4, tys5, tys6, tys7, tys8, tys9, tys10, tys11, tys12, tys13, tys14, tys15, tys16, tys17, tys18, tys19, tys20, tys21, tys22, tys23, Try.ntmps5, Try.results5]
  exact Fin.eq rfl rfl


/-! ### who wins -/
def outS (c : Int) : ByteArray := if c = 1 then ⟨#[108, 101, 102, 116]⟩ else if c = -1 then ⟨#[114, 105, 103, 104, 116]⟩ else if c = 0 then ⟨#[115, 101, 99, 111, 110, 100]⟩ else ⟨#[102, 105, 114, 115, 116]⟩
theorem nb : ((-1 : Int) == 1) = false ∧ ((0 : Int) == 1) = false ∧ ((2 : Int) == 1) = false ∧ ((0 : Int) == -1) = false ∧ ((2 : Int) == -1) = false ∧ ((2 : Int) == 0) = false ∧ ((1 : Int) == 1) = true ∧ ((-1 : Int) == -1) = true ∧ ((0 : Int) == 0) = true ∧ ((1 : Int) == 0) = false ∧ ((-1 : Int) == 0) = false ∧ ((1 : Int) == -1) = false := by decide
def outR (g : List GP) (a : Int) : AV := .tup [.str (if hasB g a then outS (cmpG g a.toNat 0) else ⟨#[]⟩), .bool (hasB g a)]
theorem hasB_zero {g : List GP} {a : Int} (h : hasB g a = true) : hasB g 0 = true := by
  simp only [hasB, Bool.and_eq_true, inB, decide_eq_true_eq] at h ⊢
  exact ⟨h.1, by omega, by omega⟩
theorem cmpG_val (g : List GP) (a b : Nat) : cmpG g a b = 1 ∨ cmpG g a b = -1 ∨ cmpG g a b = 0 ∨ cmpG g a b = 2 := by
  unfold cmpG ordI
  cases leG g a b <;> cases leG g b a <;> simp
theorem implOut_ok (g : List GP) (a : Int) (hl : g.length ≤ 1048576) (hs : ∀ p ∈ g, smallP p) : Ct Try.prog 25 [.sl false (g.map posE), .int .i64 a] [] (outR g a) [] := by
  have pg := posL_pure g
  refine Ct.by_ hmix [] Try.func25 rfl ?_
  simp only [run0, run1, run2, run3, run4, run5, run6, run7, run8, run9, run10, run11, run12, run13, run14, run15, run16, run17, run18, run19, run20, run21, run22, reduceCtorEq, Nat.reduceEqDiff, Nat.reduceAdd, Nat.reduceSub, Nat.reduceLeDiff, indexAddrA, indexRefA, appendA, strA, Nat.reduceMul, Nat.zero_mul, Nat.reduceMod, Int.reduceEq, Int.reduceLT, Int.reduceLE, Nat.reduceLT, Nat.lt_irrefl, Nat.reduceBEq, tys0, tys1, tys2, tys3, tys4, tys5, tys6, tys7, tys8, tys9, tys10, tys11, tys12, tys13, tys14, tys15, tys16, tys17, tys18, tys19, tys20, tys21, tys22, tys23, Try.ntmps25, Try.results25]
  refine RunL.callp rfl rfl ok_f23 (implCompareG_ok g a 0 hl hs) (by simp only [pureL, pureB, pg, Bool.and_self]) rfl ?_
  cases h1 : hasB g a
  · simp only [run0, run1, run2, run3, run4, run5, run6, run7, run8, run9, run10, run11, run12, run13, run14, run15, run16, run17, run18, run19, run20, run21, run22, reduceCtorEq, Nat.reduceEqDiff, Nat.reduceAdd, Nat.reduceSub, Nat.reduceLeDiff, indexAddrA, indexRefA, appendA, strA, Nat.reduceMul, Nat.zero_mul, Nat.reduceMod, Int.reduceEq, Int.reduceLT, Int.reduceLE, Nat.reduceLT, Nat.lt_irrefl, Nat.reduceBEq, tys0, tys1, tys2, tys3, tys4, tys5, tys6, tys7, tys8, tys9, tys10, tys11, tys12, tys13, tys14, tys15, tys16, tys17, tys18, tys19, tys20, tys21, tys22, tys23, Try.ntmps25, Try.results25, cmpR, h1]
    exact Fin.eq (by simp [outR, h1]) rfl
  have h0 := hasB_zero h1
  unfold outR
  rw [h1, if_pos rfl]
  rcases cmpG_val g a.toNat 0 with h | h | h | h <;> simp only [run0, run1, run2, run3, run4, run5, run6, run7, run8, run9, run10, run11, run12, run13, run14, run15, run16, run17, run18, run19, run20, run21, run22, reduceCtorEq, Nat.reduceEqDiff, Nat.reduceAdd, Nat.reduceSub, Nat.reduceLeDiff, indexAddrA, indexRefA, appendA, strA, Nat.reduceMul, Nat.zero_mul, Nat.reduceMod, Int.reduceEq, Int.reduceLT, Int.reduceLE, Nat.reduceLT, Nat.lt_irrefl, Nat.reduceBEq, tys0, tys1, tys2, tys3, tys4, tys5, tys6, tys7, tys8, tys9, tys10, tys11, tys12, tys13, tys14, tys15, tys16, tys17, tys18, tys19, tys20, tys21, tys22, tys23, Try.ntmps25, Try.results25, cmpR, h1, h0, Int.toNat_zero, h, nb] <;> exact Fin.eq rfl rfl
theorem specOut_ok (g : List GP) (a : Int) (hl : g.length ≤ 1048576) (hs : ∀ p ∈ g, smallP p) : Ct Try.prog 24 [.sl false (g.map posE), .int .i64 a] [] (outR g a) [] := by
  have pg := posL_pure g
  have pt := tabG_pure g
  refine Ct.by_ hmix [] Try.func24 rfl ?_
  simp only [run0, run1, run2, run3, run4, run5, run6, run7, run8, run9, run10, run11, run12, run13, run14, run15, run16, run17, run18, run19, run20, run21, run22, reduceCtorEq, Nat.reduceEqDiff, Nat.reduceAdd, Nat.reduceSub, Nat.reduceLeDiff, indexAddrA, indexRefA, appendA, strA, Nat.reduceMul, Nat.zero_mul, Nat.reduceMod, Int.reduceEq, Int.reduceLT, Int.reduceLE, Nat.reduceLT, Nat.lt_irrefl, Nat.reduceBEq, tys0, tys1, tys2, tys3, tys4, tys5, tys6, tys7, tys8, tys9, tys10, tys11, tys12, tys13, tys14, tys15, tys16, tys17, tys18, tys19, tys20, tys21, tys22, tys23, Try.ntmps24, Try.results24]
  refine RunL.callp rfl rfl ok_f63 (gaHas_ok g a hl hs) (by simp only [pureL, pureB, pg, Bool.and_self]) rfl ?_
  cases h1 : hasB g a
  · simp only [run0, run1, run2, run3, run4, run5, run6, run7, run8, run9, run10, run11, run12, run13, run14, run15, run16, run17, run18, run19, run20, run21, run22, reduceCtorEq, Nat.reduceEqDiff, Nat.reduceAdd, Nat.reduceSub, Nat.reduceLeDiff, indexAddrA, indexRefA, appendA, strA, Nat.reduceMul, Nat.zero_mul, Nat.reduceMod, Int.reduceEq, Int.reduceLT, Int.reduceLE, Nat.reduceLT, Nat.lt_irrefl, Nat.reduceBEq, tys0, tys1, tys2, tys3, tys4, tys5, tys6, tys7, tys8, tys9, tys10, tys11, tys12, tys13, tys14, tys15, tys16, tys17, tys18, tys19, tys20, tys21, tys22, tys23, Try.ntmps24, Try.results24]
    exact Fin.eq (by simp [outR, h1]) rfl
  unfold outR
  rw [h1, if_pos rfl]
  obtain ⟨hgb, a, rfl, ha⟩ := hasB_ok h1
  have hg := (gameB_ok hgb).1
  have ho := orderG_ok g a 0 ha (by omega)
  rw [Int.natCast_zero] at ho
  simp only [run0, run1, run2, run3, run4, run5, run6, run7, run8, run9, run10, run11, run12, run13, run14, run15, run16, run17, run18, run19, run20, run21, run22, reduceCtorEq, Nat.reduceEqDiff, Nat.reduceAdd, Nat.reduceSub, Nat.reduceLeDiff, indexAddrA, indexRefA, appendA, strA, Nat.reduceMul, Nat.zero_mul, Nat.reduceMod, Int.reduceEq, Int.reduceLT, Int.reduceLE, Nat.reduceLT, Nat.lt_irrefl, Nat.reduceBEq, tys0, tys1, tys2, tys3, tys4, tys5, tys6, tys7, tys8, tys9, tys10, tys11, tys12, tys13, tys14, tys15, tys16, tys17, tys18, tys19, tys20, tys21, tys22, tys23, Try.ntmps24, Try.results24]
  refine RunL.callp rfl rfl ok_f55 (gaAtMost_ok g hg hl) (by simp only [pureL, pureB, pg, Bool.and_self]) rfl ?_
  simp only [run0, run1, run2, run3, run4, run5, run6, run7, run8, run9, run10, run11, run12, run13, run14, run15, run16, run17, run18, run19, run20, run21, run22, reduceCtorEq, Nat.reduceEqDiff, Nat.reduceAdd, Nat.reduceSub, Nat.reduceLeDiff, indexAddrA, indexRefA, appendA, strA, Nat.reduceMul, Nat.zero_mul, Nat.reduceMod, Int.reduceEq, Int.reduceLT, Int.reduceLE, Nat.reduceLT, Nat.lt_irrefl, Nat.reduceBEq, tys0, tys1, tys2, tys3, tys4, tys5, tys6, tys7, tys8, tys9, tys10, tys11, tys12, tys13, tys14, tys15, tys16, tys17, tys18, tys19, tys20, tys21, tys22, tys23, Try.ntmps24, Try.results24]
  refine RunL.callp rfl rfl ok_f65 ho (by simp only [pureL, pureB, pt, Bool.and_self]) rfl ?_
  rcases cmpG_val g a 0 with h | h | h | h <;> simp only [run0, run1, run2, run3, run4, run5, run6, run7, run8, run9, run10, run11, run12, run13, run14, run15, run16, run17, run18, run19, run20, run21, run22, reduceCtorEq, Nat.reduceEqDiff, Nat.reduceAdd, Nat.reduceSub, Nat.reduceLeDiff, indexAddrA, indexRefA, appendA, strA, Nat.reduceMul, Nat.zero_mul, Nat.reduceMod, Int.reduceEq, Int.reduceLT, Int.reduceLE, Nat.reduceLT, Nat.lt_irrefl, Nat.reduceBEq, tys0, tys1, tys2, tys3, tys4, tys5, tys6, tys7, tys8, tys9, tys10, tys11, tys12, tys13, tys14, tys15, tys16, tys17, tys18, tys19, tys20, tys21, tys22, tys23, Try.ntmps24, Try.results24, h, nb] <;> exact Fin.eq (by rw [Int.toNat_natCast, h]; rfl) rfl
theorem FnExactOutcomeOf_ok {a0 a1 : AV} (h0 : IsOf Try.prog 22 a0) (h1 : IsOf Try.prog 3 a1) : Ct Try.prog 6 [a0, a1] [] (.bool true) [] := by
  obtain ⟨g, rfl, hl, hf⟩ := laws_isPoS h0
  obtain ⟨x1, rfl⟩ := int_in h1
  have pg := posL_pure g
  refine Ct.by_ hmix [] Try.func6 rfl ?_
  simp only [run0, run1, run2, run3, run4, run5, run6, run7, run8, run9, run10, run11, run12, run13, run14, run15, run16, run17, run18, run19, run20, run21, run22, reduceCtorEq, Nat.reduceEqDiff, Nat.reduceAdd, Nat.reduceSub, Nat.reduceLeDiff, indexAddrA, indexRefA, appendA, strA, Nat.reduceMul, Nat.zero_mul, Nat.reduceMod, Int.reduceEq, Int.reduceLT, Int.reduceLE, Nat.reduceLT, Nat.lt_irrefl, Nat.reduceBEq, tys0, tys1, tys2, tys3, tys4, tys5, tys6, tys7, tys8, tys9, tys10, tys11, tys12, tys13, tys14, tys15, tys16, tys17, tys18, tys19, tys20, tys21, tys22, tys23, Try.ntmps6, Try.results6]
  refine RunL.callp rfl rfl ok_f13 (szPositionS_ok g 1048576 hl hf (by omega) (by omega)) (by simp only [pureL, pureB, pg, Bool.and_self]) rfl ?_
  rcases szN_spec (g.length + gsz g) 1048576 with ⟨g1, g2⟩ | ⟨g1, g2⟩
  case inr =>
    have e1 : szN (g.length + gsz g) 1048576 < 0 := by omega
    simp only [run0, run1, run2, run3, run4, run5, run6, run7, run8, run9, run10, run11, run12, run13, run14, run15, run16, run17, run18, run19, run20, run21, run22, reduceCtorEq, Nat.reduceEqDiff, Nat.reduceAdd, Nat.reduceSub, Nat.reduceLeDiff, indexAddrA, indexRefA, appendA, strA, Nat.reduceMul, Nat.zero_mul, Nat.reduceMod, Int.reduceEq, Int.reduceLT, Int.reduceLE, Nat.reduceLT, Nat.lt_irrefl, Nat.reduceBEq, tys0, tys1, tys2, tys3, tys4, tys5, tys6, tys7, tys8, tys9, tys10, tys11, tys12, tys13, tys14, tys15, tys16, tys17, tys18, tys19, tys20, tys21, tys22, tys23, Try.ntmps6, Try.results6, e1]
    exact Fin.eq rfl rfl
  have e1 : ¬ szN (g.length + gsz g) 1048576 < 0 := by omega
  have gl : g.length ≤ 1048576 := by omega
  have gs : ∀ p ∈ g, smallP p := fun p hp => by have := gsz_mem hp; unfold psz at this; exact ⟨by omega, by omega⟩
  simp only [run0, run1, run2, run3, run4, run5, run6, run7, run8, run9, run10, run11, run12, run13, run14, run15, run16, run17, run18, run19, run20, run21, run22, reduceCtorEq, Nat.reduceEqDiff, Nat.reduceAdd, Nat.reduceSub, Nat.reduceLeDiff, indexAddrA, indexRefA, appendA, strA, Nat.reduceMul, Nat.zero_mul, Nat.reduceMod, Int.reduceEq, Int.reduceLT, Int.reduceLE, Nat.reduceLT, Nat.lt_irrefl, Nat.reduceBEq, tys0, tys1, tys2, tys3, tys4, tys5, tys6, tys7, tys8, tys9, tys10, tys11, tys12, tys13, tys14, tys15, tys16, tys17, tys18, tys19, tys20, tys21, tys22, tys23, Try.ntmps6, Try.results6, e1]
  refine RunL.callp rfl rfl ok_f15 (toPositionS_ok g gl gs) (by simp only [pureL, pureB, pg, Bool.and_self]) rfl ?_
  simp only [run0, run1, run2, run3, run4, run5, run6, run7, run8, run9, run10, run11, run12, run13, run14, run15, run16, run17, run18, run19, run20, run21, run22, reduceCtorEq, Nat.reduceEqDiff, Nat.reduceAdd, Nat.reduceSub, Nat.reduceLeDiff, indexAddrA, indexRefA, appendA, strA, Nat.reduceMul, Nat.zero_mul, Nat.reduceMod, Int.reduceEq, Int.reduceLT, Int.reduceLE, Nat.reduceLT, Nat.lt_irrefl, Nat.reduceBEq, tys0, tys1, tys2, tys3, tys4, tys5, tys6, tys7, tys8, tys9, tys10, tys11, tys12, tys13, tys14, tys15, tys16, tys17, tys18, tys19, tys20, tys21, tys22, tys23, Try.ntmps6, Try.results6]
  refine RunL.callp rfl rfl ok_f24 (specOut_ok g x1 gl gs) (by simp only [pureL, pureB, pg, Bool.and_self]) rfl ?_
  simp only [run0, run1, run2, run3, run4, run5, run6, run7, run8, run9, run10, run11, run12, run13, run14, run15, run16, run17, run18, run19, run20, run21, run22, reduceCtorEq, Nat.reduceEqDiff, Nat.reduceAdd, Nat.reduceSub, Nat.reduceLeDiff, indexAddrA, indexRefA, appendA, strA, Nat.reduceMul, Nat.zero_mul, Nat.reduceMod, Int.reduceEq, Int.reduceLT, Int.reduceLE, Nat.reduceLT, Nat.lt_irrefl, Nat.reduceBEq, tys0, tys1, tys2, tys3, tys4, tys5, tys6, tys7, tys8, tys9, tys10, tys11, tys12, tys13, tys14, tys15, tys16, tys17, tys18, tys19, tys20, tys21, tys22, tys23, Try.ntmps6, Try.results6, outR]
  refine RunL.callp rfl rfl ok_f15 (toPositionS_ok g gl gs) (by simp only [pureL, pureB, pg, Bool.and_self]) rfl ?_
  simp only [run0, run1, run2, run3, run4, run5, run6, run7, run8, run9, run10, run11, run12, run13, run14, run15, run16, run17, run18, run19, run20, run21, run22, reduceCtorEq, Nat.reduceEqDiff, Nat.reduceAdd, Nat.reduceSub, Nat.reduceLeDiff, indexAddrA, indexRefA, appendA, strA, Nat.reduceMul, Nat.zero_mul, Nat.reduceMod, Int.reduceEq, Int.reduceLT, Int.reduceLE, Nat.reduceLT, Nat.lt_irrefl, Nat.reduceBEq, tys0, tys1, tys2, tys3, tys4, tys5, tys6, tys7, tys8, tys9, tys10, tys11, tys12, tys13, tys14, tys15, tys16, tys17, tys18, tys19, tys20, tys21, tys22, tys23, Try.ntmps6, Try.results6]
  refine RunL.callp rfl rfl ok_f25 (implOut_ok g x1 gl gs) (by simp only [pureL, pureB, pg, Bool.and_self]) rfl ?_
  simp only [run0, run1, run2, run3, run4, run5, run6, run7, run8, run9, run10, run11, run12, run13, run14, run15, run16, run17, run18, run19, run20, run21, run22, reduceCtorEq, Nat.reduceEqDiff, Nat.reduceAdd, Nat.reduceSub, Nat.reduceLeDiff, indexAddrA, indexRefA, appendA, strA, Nat.reduceMul, Nat.zero_mul, Nat.reduceMod, Int.reduceEq, Int.reduceLT, Int.reduceLE, Nat.reduceLT, Nat.lt_irrefl, Nat.reduceBEq, tys0, tys1, tys2, tys3, tys4, tys5, tys6, tys7, tys8, tys9, tys10, tys11, tys12, tys13, tys14, tys15, tys16, tys17, tys18, tys19, tys20, tys21, tys22, tys23, Try.ntmps6, Try.results6, outR, bne_self_eq_false]
  refine RunL.callp rfl rfl ok_f15 (toPositionS_ok g gl gs) (by simp only [pureL, pureB, pg, Bool.and_self]) rfl ?_
  simp only [run0, run1, run2, run3, run4, run5, run6, run7, run8, run9, run10, run11, run12, run13, run14, run15, run16, run17, run18, run19, run20, run21, run22, reduceCtorEq, Nat.reduceEqDiff, Nat.reduceAdd, Nat.reduceSub, Nat.reduceLeDiff, indexAddrA, indexRefA, appendA, strA, Nat.reduceMul, Nat.zero_mul, Nat.reduceMod, Int.reduceEq, Int.reduceLT, Int.reduceLE, Nat.reduceLT, Nat.lt_irrefl, Nat.reduceBEq, tys0, tys1, tys2, tys3, tys4, tys5, tys6, tys7, tys8, tys9, tys10, tys11, tys12, tys13, tys14, tys15, tys16, tys17, tys18, tys19, tys20, tys21, tys22, tys23, Try.ntmps6, Try.results6]
  refine RunL.callp rfl rfl ok_f17 (eqPositionS_ok g gl gs) (by simp only [pureL, pureB, pg, Bool.and_self]) rfl ?_
  simp only [run0, run1, run2, run3, run4, run5, run6, run7, run8, run9, run10, run11, run12, run13, run14, run15, run16, run17, run18, run19, run20, run21, run22, reduceCtorEq, Nat.reduceEqDiff, Nat.reduceAdd, Nat.reduceSub, Nat.reduceLeDiff, indexAddrA, indexRefA, appendA, strA, Nat.reduceMul, Nat.zero_mul, Nat.reduceMod, Int.reduceEq, Int.reduceLT, Int.reduceLE, Nat.reduceLT, Nat.lt_irrefl, Nat.reduceBEq, tys0, tys1, tys2, tys3, tys4, tys5, tys6, tys7, tys8, tys9, tys10, tys11, tys12, tys13, tys14, tys15, tys16, tys17, tys18, tys19, tys20, tys21, tys22, tys23, Try.ntmps6, Try.results6]
  exact Fin.eq rfl rfl


end Go.Proofs.Ytllcljajlemmaaa
/-
  Games that are numbers: the reference.
-/
namespace Go.Proofs.Ytllcljajlemmaaa
open Go K
set_option linter.unusedSimpArgs false
set_option linter.unusedVariables false
set_option maxHeartbeats 1600000
set_option maxRecDepth 8000

def wtE (w : Wt) : AV := .agg [.bool w.num, .bool w.told, .int .i64 w.val.1, .int .i64 w.val.2]
theorem wts_pure : ∀ l : List Wt, pureL (l.map wtE) = true
  | [] => rfl
  | x :: r => by simp only [List.map_cons, pureL, wtE, pureB, wts_pure r, Bool.and_self]
theorem wts_noOwn (l : List Wt) : noOwn (l.map wtE) = true := by
  refine List.all_eq_true.2 fun e he => ?_
  obtain ⟨w, _, rfl⟩ := List.mem_map.1 he; rfl
theorem wt_get {ws : List Wt} {x : Int} (h : 0 ≤ x ∧ x < (ws.length : Int)) : (ws.map wtE)[x.toNat]? = some (.agg [.bool (wAt ws x).num, .bool (wAt ws x).told, .int .i64 (wAt ws x).val.1, .int .i64 (wAt ws x).val.2]) := by
  have h2 : x.toNat < ws.length := by omega
  unfold wAt
  rw [List.getD_eq_getElem?_getD, List.getElem?_map, List.getElem?_eq_getElem h2]
  rfl
def inW (ws : List Wt) (l : List Int) : Prop := ∀ x ∈ l, 0 ≤ x ∧ x < (ws.length : Int)
theorem gaKnowing_ok (ws : List Wt) (l : List Int) (h : inW ws l) (hl : l.length ≤ 1048576) : Ct Try.prog 162 [.sl false (ws.map wtE), .sl false (ints l)] [] (.tup [.bool (l.all fun x => (wAt ws x).told), .bool (l.all fun x => (wAt ws x).num)]) [] := by
  refine Ct.by_ hmix [] Try.func162 rfl ?_
  simp only [run0, run1, run2, run3, run4, run5, run6, run7, run8, run9, run10, run11, run12, run13, run14, run15, run16, run17, run18, run19, run20, run21, run22, reduceCtorEq, Nat.reduceEqDiff, Nat.reduceAdd, Nat.reduceSub, Nat.reduceLeDiff, indexAddrA, indexRefA, appendA, strA, Nat.reduceMul, Nat.zero_mul, Nat.reduceMod, Int.reduceEq, Int.reduceLT, Int.reduceLE, Nat.reduceLT, Nat.lt_irrefl, Nat.reduceBEq, tys0, tys1, tys2, tys3, tys4, tys5, tys6, tys7, tys8, tys9, tys10, tys11, tys12, tys13, tys14, tys15, tys16, tys17, tys18, tys19, tys20, tys21, tys22, tys23, Try.ntmps162, Try.results162, ints_length]
  refine AWp.loop_inv (ι := List Int × List Int) (fun q => ⟨[.sl false (ws.map wtE), .junk, .junk, .junk, .bool false, .bool false, .bool (q.1.all fun x => (wAt ws x).told), .bool (q.1.all fun x => (wAt ws x).num), .junk, .junk, .sl false (ints l), .int .i64 l.length, .int .i64 q.1.length, .junk, .junk, .junk, .junk, .junk, .junk, .junk, .junk, .junk, .junk, .junk, .junk, .junk, .junk, .junk, .junk, .junk, .junk, .junk, .junk, .junk, .junk], []⟩)
    (fun q => l = q.1 ++ q.2) (fun q => q.2.length) ([], l) rfl ⟨by simp only [List.length_nil, Int.natCast_zero, List.all_nil]; repeat constructor, rfl⟩ ?_
  rintro ⟨d, r⟩ ha
  refine W.sound hmix (E := []) ?_
  simp only at ha
  cases r with
  | nil =>
    have e1 := int_end ha
    rw [List.append_nil] at ha
    subst ha
    simp only [run0, run1, run2, run3, run4, run5, run6, run7, run8, run9, run10, run11, run12, run13, run14, run15, run16, run17, run18, run19, run20, run21, run22, reduceCtorEq, Nat.reduceEqDiff, Nat.reduceAdd, Nat.reduceSub, Nat.reduceLeDiff, indexAddrA, indexRefA, appendA, strA, Nat.reduceMul, Nat.zero_mul, Nat.reduceMod, Int.reduceEq, Int.reduceLT, Int.reduceLE, Nat.reduceLT, Nat.lt_irrefl, Nat.reduceBEq, tys0, tys1, tys2, tys3, tys4, tys5, tys6, tys7, tys8, tys9, tys10, tys11, tys12, tys13, tys14, tys15, tys16, tys17, tys18, tys19, tys20, tys21, tys22, tys23, Try.ntmps162, Try.results162, e1]
    exact Fin.eq rfl rfl
  | cons e r =>
    obtain ⟨e1, e2, e5⟩ := int_split ha hl
    have he := h e (by rw [ha]; simp)
    have h3 := wt_get he
    have k1 : (((d ++ [e]).all fun x => (wAt ws x).told) = ((d.all fun x => (wAt ws x).told) && (wAt ws e).told)) := by simp
    have k2 : (((d ++ [e]).all fun x => (wAt ws x).num) = ((d.all fun x => (wAt ws x).num) && (wAt ws e).num)) := by simp
    have key : ∀ t n : Bool, t = ((d ++ [e]).all fun x => (wAt ws x).told) → n = ((d ++ [e]).all fun x => (wAt ws x).num) → _ = _ → True := fun _ _ _ _ (_ : (0 : Nat) = 0) => trivial
    clear key
    have o1 := he.1
    have o2 := he.2
    generalize hT : (d.all fun x => (wAt ws x).told) = T at *
    generalize hN : (d.all fun x => (wAt ws x).num) = N at *
    cases T <;> cases N
    all_goals
      simp only [run0, run1, run2, run3, run4, run5, run6, run7, run8, run9, run10, run11, run12, run13, run14, run15, run16, run17, run18, run19, run20, run21, run22, reduceCtorEq, Nat.reduceEqDiff, Nat.reduceAdd, Nat.reduceSub, Nat.reduceLeDiff, indexAddrA, indexRefA, appendA, strA, Nat.reduceMul, Nat.zero_mul, Nat.reduceMod, Int.reduceEq, Int.reduceLT, Int.reduceLE, Nat.reduceLT, Nat.lt_irrefl, Nat.reduceBEq, tys0, tys1, tys2, tys3, tys4, tys5, tys6, tys7, tys8, tys9, tys10, tys11, tys12, tys13, tys14, tys15, tys16, tys17, tys18, tys19, tys20, tys21, tys22, tys23, Try.ntmps162, Try.results162, e1, e2, e5, h3, o1, o2, List.length_map, Int.toNat_natCast, Int.natCast_nonneg]
      exact ⟨(d ++ [e], r), by simp [ha], by simp, by simp only [k1, k2, Bool.false_and, Bool.true_and, List.length_append, List.length_cons, List.length_nil]; repeat constructor⟩
structure GvS where
  d : List Int
  r : List Int
theorem gaValues_ok (ws : List Wt) (l : List Int) (h : inW ws l) (hl : l.length ≤ 1048576) : Ct Try.prog 163 [.sl false (ws.map wtE), .sl false (ints l)] [] (.sl false ((vals ws l).map frE)) [] := by
  refine Ct.by_ hmix [] Try.func163 rfl ?_
  simp only [run0, run1, run2, run3, run4, run5, run6, run7, run8, run9, run10, run11, run12, run13, run14, run15, run16, run17, run18, run19, run20, run21, run22, reduceCtorEq, Nat.reduceEqDiff, Nat.reduceAdd, Nat.reduceSub, Nat.reduceLeDiff, indexAddrA, indexRefA, appendA, strA, Nat.reduceMul, Nat.zero_mul, Nat.reduceMod, Int.reduceEq, Int.reduceLT, Int.reduceLE, Nat.reduceLT, Nat.lt_irrefl, Nat.reduceBEq, tys0, tys1, tys2, tys3, tys4, tys5, tys6, tys7, tys8, tys9, tys10, tys11, tys12, tys13, tys14, tys15, tys16, tys17, tys18, tys19, tys20, tys21, tys22, tys23, Try.ntmps163, Try.results163, ints_length]
  refine AWp.nil 5 42 2 rfl ?_
  refine AWp.loop_inv (ι := List Int × List Int) (fun q => ⟨[.sl false (ws.map wtE), .junk, .junk, .junk, nilV, .ref 0 [] q.1.length q.1.length, .junk, .junk, .sl false (ints l), .int .i64 l.length, .int .i64 q.1.length, .junk, .junk, .junk, .junk, .junk, .junk, .junk, .junk, .junk, .junk, .junk, .junk, .junk], [.vec 42 2 q.1.length ((vals ws q.1).map frE)]⟩)
    (fun q => l = q.1 ++ q.2) (fun q => q.2.length) ([], l) rfl ⟨by simp only [List.length_nil, Int.natCast_zero]; repeat constructor, rfl⟩ ?_
  rintro ⟨d, r⟩ ha
  refine W.sound hmix (E := []) ?_
  simp only at ha
  cases r with
  | nil =>
    have e1 := int_end ha
    rw [List.append_nil] at ha
    subst ha
    simp only [run0, run1, run2, run3, run4, run5, run6, run7, run8, run9, run10, run11, run12, run13, run14, run15, run16, run17, run18, run19, run20, run21, run22, reduceCtorEq, Nat.reduceEqDiff, Nat.reduceAdd, Nat.reduceSub, Nat.reduceLeDiff, indexAddrA, indexRefA, appendA, strA, Nat.reduceMul, Nat.zero_mul, Nat.reduceMod, Int.reduceEq, Int.reduceLT, Int.reduceLE, Nat.reduceLT, Nat.lt_irrefl, Nat.reduceBEq, tys0, tys1, tys2, tys3, tys4, tys5, tys6, tys7, tys8, tys9, tys10, tys11, tys12, tys13, tys14, tys15, tys16, tys17, tys18, tys19, tys20, tys21, tys22, tys23, Try.ntmps163, Try.results163, e1]
    exact Fin.value (Vw_frs rfl rfl (by simp [vals]))
  | cons e r =>
    obtain ⟨e1, e2, e5⟩ := int_split ha hl
    have he := h e (by rw [ha]; simp)
    have h3 := wt_get he
    have o1 := he.1
    have o2 := he.2
    have hda : l.length = d.length + (r.length + 1) := by rw [ha]; simp
    have f3 : d.length + 1 ≤ 137438953472 := by omega
    have f4 := frs_noOwn (vals ws d)
    have f5 : (vals ws d).length = d.length := by simp [vals]
    simp only [run0, run1, run2, run3, run4, run5, run6, run7, run8, run9, run10, run11, run12, run13, run14, run15, run16, run17, run18, run19, run20, run21, run22, reduceCtorEq, Nat.reduceEqDiff, Nat.reduceAdd, Nat.reduceSub, Nat.reduceLeDiff, indexAddrA, indexRefA, appendA, strA, Nat.reduceMul, Nat.zero_mul, Nat.reduceMod, Int.reduceEq, Int.reduceLT, Int.reduceLE, Nat.reduceLT, Nat.lt_irrefl, Nat.reduceBEq, tys0, tys1, tys2, tys3, tys4, tys5, tys6, tys7, tys8, tys9, tys10, tys11, tys12, tys13, tys14, tys15, tys16, tys17, tys18, tys19, tys20, tys21, tys22, tys23, Try.ntmps163, Try.results163, e1, e2, e5, h3, o1, o2, f3, f4, f5, List.length_map, Int.toNat_natCast, Int.natCast_nonneg]
    exact ⟨(d ++ [e], r), by simp [ha], by simp, by simp only [List.length_append, List.length_cons, List.length_nil]; repeat constructor, by simp [frE, vals]⟩
theorem apart_split (d r : List Fr) (e : Fr) (R : List Fr) : apartB (d ++ e :: r) R = (apartB d R && (R.all (fun y => decide (cmpQ e y < 0)) && apartB r R)) := by
  unfold apartB
  rw [List.all_append, List.all_cons]
structure ApS where
  d : List Fr
  r : List Fr
  X : List AObj
theorem gaApart_ok (l r : List Fr) (hl : l.length ≤ 1048576) (hr : r.length ≤ 1048576) : Ct Try.prog 164 [.sl false (l.map frE), .sl false (r.map frE)] [] (.bool (apartB l r)) [] := by
  refine Ct.by_ hmix [] Try.func164 rfl ?_
  simp only [run0, run1, run2, run3, run4, run5, run6, run7, run8, run9, run10, run11, run12, run13, run14, run15, run16, run17, run18, run19, run20, run21, run22, reduceCtorEq, Nat.reduceEqDiff, Nat.reduceAdd, Nat.reduceSub, Nat.reduceLeDiff, indexAddrA, indexRefA, appendA, strA, Nat.reduceMul, Nat.zero_mul, Nat.reduceMod, Int.reduceEq, Int.reduceLT, Int.reduceLE, Nat.reduceLT, Nat.lt_irrefl, Nat.reduceBEq, tys0, tys1, tys2, tys3, tys4, tys5, tys6, tys7, tys8, tys9, tys10, tys11, tys12, tys13, tys14, tys15, tys16, tys17, tys18, tys19, tys20, tys21, tys22, tys23, Try.ntmps164, Try.results164, List.length_map]
  refine AWp.loop_inv (ι := ApS) (fun q => ⟨[.junk, .sl false (r.map frE), .junk, .junk, .bool false, .junk, .junk, .junk, .junk, .sl false (l.map frE), .int .i64 l.length, .int .i64 q.d.length, .junk, .junk, .junk, .junk, .junk, .junk, .junk, .junk, .junk, .junk, .junk, .junk, .junk, .junk, .junk], q.X⟩)
    (fun q => l = q.d ++ q.r ∧ apartB q.d r = true) (fun q => q.r.length) ⟨[], l, []⟩ ⟨rfl, rfl⟩ ⟨by simp only [List.length_nil, Int.natCast_zero]; repeat constructor, rfl⟩ ?_
  rintro ⟨d, s, X⟩ ⟨ha, hd⟩
  refine W.sound hmix (E := []) ?_
  simp only at ha hd
  cases s with
  | nil =>
    have e1 := frs_end ha
    rw [List.append_nil] at ha
    subst ha
    simp only [run0, run1, run2, run3, run4, run5, run6, run7, run8, run9, run10, run11, run12, run13, run14, run15, run16, run17, run18, run19, run20, run21, run22, reduceCtorEq, Nat.reduceEqDiff, Nat.reduceAdd, Nat.reduceSub, Nat.reduceLeDiff, indexAddrA, indexRefA, appendA, strA, Nat.reduceMul, Nat.zero_mul, Nat.reduceMod, Int.reduceEq, Int.reduceLT, Int.reduceLE, Nat.reduceLT, Nat.lt_irrefl, Nat.reduceBEq, tys0, tys1, tys2, tys3, tys4, tys5, tys6, tys7, tys8, tys9, tys10, tys11, tys12, tys13, tys14, tys15, tys16, tys17, tys18, tys19, tys20, tys21, tys22, tys23, Try.ntmps164, Try.results164, e1]
    exact Fin.eq (by rw [hd]) rfl
  | cons e s =>
    obtain ⟨e1, e2, e5⟩ := frs_split ha hl
    simp only [run0, run1, run2, run3, run4, run5, run6, run7, run8, run9, run10, run11, run12, run13, run14, run15, run16, run17, run18, run19, run20, run21, run22, reduceCtorEq, Nat.reduceEqDiff, Nat.reduceAdd, Nat.reduceSub, Nat.reduceLeDiff, indexAddrA, indexRefA, appendA, strA, Nat.reduceMul, Nat.zero_mul, Nat.reduceMod, Int.reduceEq, Int.reduceLT, Int.reduceLE, Nat.reduceLT, Nat.lt_irrefl, Nat.reduceBEq, tys0, tys1, tys2, tys3, tys4, tys5, tys6, tys7, tys8, tys9, tys10, tys11, tys12, tys13, tys14, tys15, tys16, tys17, tys18, tys19, tys20, tys21, tys22, tys23, Try.ntmps164, Try.results164, e1, e2, List.length_map, Int.toNat_natCast, Int.natCast_nonneg]
    refine AWp.loop_inv (ι := ApS) (fun q => ⟨[.junk, .sl false (r.map frE), .junk, .junk, .bool false, .junk, .ptr X.length 0, .junk, .junk, .sl false (l.map frE), .int .i64 l.length, .int .i64 d.length, .junk, .junk, .junk, .sl false (r.map frE), .int .i64 r.length, .int .i64 q.d.length, .junk, .junk, .junk, .junk, .junk, .junk, .junk, .junk, .junk], q.X⟩)
      (fun q => r = q.d ++ q.r ∧ q.d.all (fun y => decide (cmpQ e y < 0)) = true ∧ q.X[X.length]? = some (.box 42 [.int .i64 e.1, .int .i64 e.2])) (fun q => q.r.length) ⟨[], r, X ++ [.box 42 [.int .i64 e.1, .int .i64 e.2]]⟩ ⟨rfl, rfl, by simp⟩ ⟨by simp only [List.length_nil, Int.natCast_zero]; repeat constructor, by first | rfl | simp⟩ ?_
    rintro ⟨d2, s2, Y⟩ ⟨hb, hd2, hY⟩
    refine W.sound hmix (E := []) ?_
    simp only at hb hd2 hY
    cases s2 with
    | nil =>
      have k1 := frs_end hb
      rw [List.append_nil] at hb
      subst hb
      simp only [run0, run1, run2, run3, run4, run5, run6, run7, run8, run9, run10, run11, run12, run13, run14, run15, run16, run17, run18, run19, run20, run21, run22, reduceCtorEq, Nat.reduceEqDiff, Nat.reduceAdd, Nat.reduceSub, Nat.reduceLeDiff, indexAddrA, indexRefA, appendA, strA, Nat.reduceMul, Nat.zero_mul, Nat.reduceMod, Int.reduceEq, Int.reduceLT, Int.reduceLE, Nat.reduceLT, Nat.lt_irrefl, Nat.reduceBEq, tys0, tys1, tys2, tys3, tys4, tys5, tys6, tys7, tys8, tys9, tys10, tys11, tys12, tys13, tys14, tys15, tys16, tys17, tys18, tys19, tys20, tys21, tys22, tys23, Try.ntmps164, Try.results164, k1, e5]
      exact ⟨⟨d ++ [e], s, Y⟩, ⟨by simp [ha], by rw [apart_split, hd, hd2]; rfl⟩, by simp, by simp only [List.length_append, List.length_cons, List.length_nil]; repeat constructor, rfl⟩
    | cons b s2 =>
      obtain ⟨k1, k2, k5⟩ := frs_split hb hr
      have hc := cmpQ_ok e b
      simp only [fr] at hc
      have hY2 : ∀ b, (Y ++ [b])[X.length]? = some (.box 42 [.int .i64 e.1, .int .i64 e.2]) := fun b => by
        rw [List.getElem?_append_left (List.getElem?_eq_some_iff.1 hY).1]; exact hY
      have hY3 : ∀ b, (Y ++ [b])[Y.length]? = some b := fun b => by rw [List.getElem?_append_right (Nat.le_refl _), Nat.sub_self]; rfl
      have hY4 : ∀ b c, (Y ++ [b]).set Y.length c = Y ++ [c] := fun b c => by rw [List.set_append_right _ _ (Nat.le_refl _), Nat.sub_self]; rfl
      simp only [run0, run1, run2, run3, run4, run5, run6, run7, run8, run9, run10, run11, run12, run13, run14, run15, run16, run17, run18, run19, run20, run21, run22, reduceCtorEq, Nat.reduceEqDiff, Nat.reduceAdd, Nat.reduceSub, Nat.reduceLeDiff, indexAddrA, indexRefA, appendA, strA, Nat.reduceMul, Nat.zero_mul, Nat.reduceMod, Int.reduceEq, Int.reduceLT, Int.reduceLE, Nat.reduceLT, Nat.lt_irrefl, Nat.reduceBEq, tys0, tys1, tys2, tys3, tys4, tys5, tys6, tys7, tys8, tys9, tys10, tys11, tys12, tys13, tys14, tys15, tys16, tys17, tys18, tys19, tys20, tys21, tys22, tys23, Try.ntmps164, Try.results164, k1, k2, hY2, hY3, hY4, List.length_map, Int.toNat_natCast, Int.natCast_nonneg]
      refine RunL.callp rfl rfl ok_f78 (hc) (by first | rfl | simp only [pureL, pureB, Bool.and_self, Bool.and_true, Bool.true_and]) rfl ?_
      by_cases hq : 0 ≤ cmpQ e b
      · simp only [run0, run1, run2, run3, run4, run5, run6, run7, run8, run9, run10, run11, run12, run13, run14, run15, run16, run17, run18, run19, run20, run21, run22, reduceCtorEq, Nat.reduceEqDiff, Nat.reduceAdd, Nat.reduceSub, Nat.reduceLeDiff, indexAddrA, indexRefA, appendA, strA, Nat.reduceMul, Nat.zero_mul, Nat.reduceMod, Int.reduceEq, Int.reduceLT, Int.reduceLE, Nat.reduceLT, Nat.lt_irrefl, Nat.reduceBEq, tys0, tys1, tys2, tys3, tys4, tys5, tys6, tys7, tys8, tys9, tys10, tys11, tys12, tys13, tys14, tys15, tys16, tys17, tys18, tys19, tys20, tys21, tys22, tys23, Try.ntmps164, Try.results164, hq]
        refine Fin.eq ?_ rfl
        have : apartB l r = false := by
          rw [ha, apart_split, hd, hb]
          simp only [List.all_append, List.all_cons]
          rw [show decide (cmpQ e b < 0) = false by simp; omega]
          simp
        rw [this]
      · simp only [run0, run1, run2, run3, run4, run5, run6, run7, run8, run9, run10, run11, run12, run13, run14, run15, run16, run17, run18, run19, run20, run21, run22, reduceCtorEq, Nat.reduceEqDiff, Nat.reduceAdd, Nat.reduceSub, Nat.reduceLeDiff, indexAddrA, indexRefA, appendA, strA, Nat.reduceMul, Nat.zero_mul, Nat.reduceMod, Int.reduceEq, Int.reduceLT, Int.reduceLE, Nat.reduceLT, Nat.lt_irrefl, Nat.reduceBEq, tys0, tys1, tys2, tys3, tys4, tys5, tys6, tys7, tys8, tys9, tys10, tys11, tys12, tys13, tys14, tys15, tys16, tys17, tys18, tys19, tys20, tys21, tys22, tys23, Try.ntmps164, Try.results164, hq, k5]
        exact ⟨⟨d2 ++ [b], s2, _⟩, ⟨by simp [hb], by rw [List.all_append, hd2]; simp; omega, hY2 _⟩, by simp, by simp only [List.length_append, List.length_cons, List.length_nil]; repeat constructor, rfl⟩

end Go.Proofs.Ytllcljajlemmaaa
/-
  Games that are numbers: the reference, what a position is worth.
-/
namespace Go.Proofs.Ytllcljajlemmaaa
open Go K
set_option linter.unusedSimpArgs false
set_option linter.unusedVariables false
set_option maxHeartbeats 1600000
set_option maxRecDepth 8000

theorem ints_one (l : List Int) : ((ints l).all fun z => z.cells.length == 1) = true := by
  refine List.all_eq_true.2 fun e he => ?_
  obtain ⟨w, _, rfl⟩ := List.mem_map.1 he; rfl
theorem ints_sh (k : Nat) (l : List Int) : (ints l).map (shA k) = ints l := by
  simp only [ints, List.map_map]
  exact List.map_congr_left fun x _ => rfl
theorem l1OwnI_ok (l : List Int) (hl : l.length ≤ 1048576) : Ct Try.prog 57 [.sl false (ints l)] [] (.ref 0 [] 1 l.length) [.vec 3 1 1 (ints l)] := by
  have f3 : l.length ≤ 137438953472 := by omega
  have f4 := ints_noOwn l
  refine Ct.by_ hmix [] Try.func57 rfl ?_
  have f5 := ints_one l
  simp only [run0, run1, run2, run3, run4, run5, run6, run7, run8, run9, run10, run11, run12, run13, run14, run15, run16, run17, run18, run19, run20, run21, run22, reduceCtorEq, Nat.reduceEqDiff, Nat.reduceAdd, Nat.reduceSub, Nat.reduceLeDiff, indexAddrA, indexRefA, appendA, strA, Nat.reduceMul, Nat.zero_mul, Nat.reduceMod, Int.reduceEq, Int.reduceLT, Int.reduceLE, Nat.reduceLT, Nat.lt_irrefl, Nat.reduceBEq, tys0, tys1, tys2, tys3, tys4, tys5, tys6, tys7, tys8, tys9, tys10, tys11, tys12, tys13, tys14, tys15, tys16, tys17, tys18, tys19, tys20, tys21, tys22, tys23, Try.ntmps57, Try.results57, ints_length, f3, f4, f5, Nat.zero_add, List.nil_append]
  exact Fin.own rfl rfl
theorem Vw_wts {L : List AObj} {id g n : Nat} {T : TypeId} {l : List Wt} {o : Bool} (hL : L[id]? = some (.vec T 4 g (l.map wtE))) (hn : n = l.length) : Vw L (.ref id [] g n) (.sl o (l.map wtE)) := by
  subst hn
  have := Vw.refPur (L := L) (id := id) (g := g) (n := l.length) (o := o) hL (by simp) (fun e he c hc => by
    obtain ⟨e', _, rfl⟩ := List.mem_map.1 he
    simp only [wtE, AV.cells, List.mem_cons, List.not_mem_nil, or_false] at hc
    rcases hc with rfl | rfl | rfl | rfl <;> exact ⟨.of rfl, fun xs h => by cases h⟩)
  rwa [List.take_of_length_le (by simp)] at this
theorem gaNumber_ok (p : GP) (ws : List Wt) (h1 : inW ws p.1) (h2 : inW ws p.2) (l1 : p.1.length ≤ 1000) (l2 : p.2.length ≤ 1000)
    (hF : ((p.1 ++ p.2).all fun x => (wAt ws x).told) = true → ((p.1 ++ p.2).all fun x => (wAt ws x).num) = true → (∀ a ∈ vals ws p.1, FB a) ∧ ∀ a ∈ vals ws p.2, FB a) :
    Ct Try.prog 137 [.agg [.sl false (ints p.1), .sl false (ints p.2)], .sl false (ws.map wtE)] [] (wtE (wS p ws)) [] := by
  have hW : ∀ i, isW (kindE [8000000, 2000000 + 57, 3000000 + 162]) i = false ∧ rowsAt (kindE [8000000, 2000000 + 57, 3000000 + 162]) i = false := fun i => ⟨by rw [isW_none i rfl]; rfl, by rw [rowsAt_E]; rfl⟩
  have hk := gaKnowing_ok ws (p.1 ++ p.2) (fun x hx => by rcases List.mem_append.1 hx with h | h; exact h1 x h; exact h2 x h) (by simp; omega)
  have hv1 := gaValues_ok ws p.1 h1 (by omega)
  have hv2 := gaValues_ok ws p.2 h2 (by omega)
  have ha := gaApart_ok (vals ws p.1) (vals ws p.2) (by simp [vals]; omega) (by simp [vals]; omega)
  have hs : (((p.1 ++ p.2).all fun x => (wAt ws x).told) = true → ((p.1 ++ p.2).all fun x => (wAt ws x).num) = true → _) := fun q1 q2 => shSimplest_ok (vals ws p.1) (vals ws p.2) (by simp [vals]; omega) (by simp [vals]; omega) (hF q1 q2).1 (hF q1 q2).2
  have pw := wts_pure ws
  have f3 : p.1.length + p.2.length ≤ 137438953472 := by omega
  have f4 := ints_noOwn p.1
  have f5 := ints_noOwn p.2
  unfold wS
  generalize (p.1 ++ p.2).all (fun x => (wAt ws x).told) = T at *
  generalize (p.1 ++ p.2).all (fun x => (wAt ws x).num) = N at *
  refine Ct.by_ hmix [ 8000000, 2000000 + 57, 3000000 + 162] Try.func137 rfl ?_
  simp only [run0, run1, run2, run3, run4, run5, run6, run7, run8, run9, run10, run11, run12, run13, run14, run15, run16, run17, run18, run19, run20, run21, run22, reduceCtorEq, Nat.reduceEqDiff, Nat.reduceAdd, Nat.reduceSub, Nat.reduceLeDiff, indexAddrA, indexRefA, appendA, strA, Nat.reduceMul, Nat.zero_mul, Nat.reduceMod, Int.reduceEq, Int.reduceLT, Int.reduceLE, Nat.reduceLT, Nat.lt_irrefl, Nat.reduceBEq, tys0, tys1, tys2, tys3, tys4, tys5, tys6, tys7, tys8, tys9, tys10, tys11, tys12, tys13, tys14, tys15, tys16, tys17, tys18, tys19, tys20, tys21, tys22, tys23, Try.ntmps137, Try.results137]
  refine ⟨[0, 1, 2, 4, 5, 3, 6, 7, 8, 9, 10, 11, 12], by kernel_rfl, ?_⟩
  simp only [run0, run1, run2, run3, run4, run5, run6, run7, run8, run9, run10, run11, run12, run13, run14, run15, run16, run17, run18, run19, run20, run21, run22, reduceCtorEq, Nat.reduceEqDiff, Nat.reduceAdd, Nat.reduceSub, Nat.reduceLeDiff, indexAddrA, indexRefA, appendA, strA, Nat.reduceMul, Nat.zero_mul, Nat.reduceMod, Int.reduceEq, Int.reduceLT, Int.reduceLE, Nat.reduceLT, Nat.lt_irrefl, Nat.reduceBEq, tys0, tys1, tys2, tys3, tys4, tys5, tys6, tys7, tys8, tys9, tys10, tys11, tys12, tys13, tys14, tys15, tys16, tys17, tys18, tys19, tys20, tys21, tys22, tys23, Try.ntmps137, Try.results137]
  refine RunL.callgp rfl rfl ok_f57 rfl (l1OwnI_ok p.1 (by omega)) (by simp only [pureL, pureB, ints_pure, Bool.and_self]) rfl ?_
  have f6 := ints_one p.2
  simp only [run0, run1, run2, run3, run4, run5, run6, run7, run8, run9, run10, run11, run12, run13, run14, run15, run16, run17, run18, run19, run20, run21, run22, reduceCtorEq, Nat.reduceEqDiff, Nat.reduceAdd, Nat.reduceSub, Nat.reduceLeDiff, indexAddrA, indexRefA, appendA, strA, Nat.reduceMul, Nat.zero_mul, Nat.reduceMod, Int.reduceEq, Int.reduceLT, Int.reduceLE, Nat.reduceLT, Nat.lt_irrefl, Nat.reduceBEq, tys0, tys1, tys2, tys3, tys4, tys5, tys6, tys7, tys8, tys9, tys10, tys11, tys12, tys13, tys14, tys15, tys16, tys17, tys18, tys19, tys20, tys21, tys22, tys23, Try.ntmps137, Try.results137, shR, sh1, shA, shO, ints_sh, List.map_cons, List.map_nil, List.append_assoc, List.cons_append, List.nil_append, ints_length, f3, f4, f5, f6, Nat.zero_add]
  refine RunL.lendB rfl rfl ok_f162 rfl hW hk rfl (fun X => .cons (.pur (.of (show pureB (.sl false (ws.map wtE)) = true by simp only [pureB, pw]))) (.cons (Vw_ints (id := 2) (g := 2) (n := p.1.length + p.2.length) (sz := 1) (T := 3) (es := ints p.1 ++ ints p.2) (a := p.1 ++ p.2) rfl (by simp [ints]) (by simp)) .nil)) rfl ?_
  simp only [run0, run1, run2, run3, run4, run5, run6, run7, run8, run9, run10, run11, run12, run13, run14, run15, run16, run17, run18, run19, run20, run21, run22, reduceCtorEq, Nat.reduceEqDiff, Nat.reduceAdd, Nat.reduceSub, Nat.reduceLeDiff, indexAddrA, indexRefA, appendA, strA, Nat.reduceMul, Nat.zero_mul, Nat.reduceMod, Int.reduceEq, Int.reduceLT, Int.reduceLE, Nat.reduceLT, Nat.lt_irrefl, Nat.reduceBEq, tys0, tys1, tys2, tys3, tys4, tys5, tys6, tys7, tys8, tys9, tys10, tys11, tys12, tys13, tys14, tys15, tys16, tys17, tys18, tys19, tys20, tys21, tys22, tys23, Try.ntmps137, Try.results137]
  refine ⟨[0, 1, 2, 3, 4, 5, 6, 7, 8, 9], by kernel_rfl, ?_⟩
  simp only [run0, run1, run2, run3, run4, run5, run6, run7, run8, run9, run10, run11, run12, run13, run14, run15, run16, run17, run18, run19, run20, run21, run22, reduceCtorEq, Nat.reduceEqDiff, Nat.reduceAdd, Nat.reduceSub, Nat.reduceLeDiff, indexAddrA, indexRefA, appendA, strA, Nat.reduceMul, Nat.zero_mul, Nat.reduceMod, Int.reduceEq, Int.reduceLT, Int.reduceLE, Nat.reduceLT, Nat.lt_irrefl, Nat.reduceBEq, tys0, tys1, tys2, tys3, tys4, tys5, tys6, tys7, tys8, tys9, tys10, tys11, tys12, tys13, tys14, tys15, tys16, tys17, tys18, tys19, tys20, tys21, tys22, tys23, Try.ntmps137, Try.results137]
  refine RunL.callp rfl rfl ok_f163 hv1 (by simp only [pureL, pureB, pw, ints_pure, Bool.and_self]) rfl ?_
  simp only [run0, run1, run2, run3, run4, run5, run6, run7, run8, run9, run10, run11, run12, run13, run14, run15, run16, run17, run18, run19, run20, run21, run22, reduceCtorEq, Nat.reduceEqDiff, Nat.reduceAdd, Nat.reduceSub, Nat.reduceLeDiff, indexAddrA, indexRefA, appendA, strA, Nat.reduceMul, Nat.zero_mul, Nat.reduceMod, Int.reduceEq, Int.reduceLT, Int.reduceLE, Nat.reduceLT, Nat.lt_irrefl, Nat.reduceBEq, tys0, tys1, tys2, tys3, tys4, tys5, tys6, tys7, tys8, tys9, tys10, tys11, tys12, tys13, tys14, tys15, tys16, tys17, tys18, tys19, tys20, tys21, tys22, tys23, Try.ntmps137, Try.results137]
  refine RunL.callp rfl rfl ok_f163 hv2 (by simp only [pureL, pureB, pw, ints_pure, Bool.and_self]) rfl ?_
  cases T
  · simp only [run0, run1, run2, run3, run4, run5, run6, run7, run8, run9, run10, run11, run12, run13, run14, run15, run16, run17, run18, run19, run20, run21, run22, reduceCtorEq, Nat.reduceEqDiff, Nat.reduceAdd, Nat.reduceSub, Nat.reduceLeDiff, indexAddrA, indexRefA, appendA, strA, Nat.reduceMul, Nat.zero_mul, Nat.reduceMod, Int.reduceEq, Int.reduceLT, Int.reduceLE, Nat.reduceLT, Nat.lt_irrefl, Nat.reduceBEq, tys0, tys1, tys2, tys3, tys4, tys5, tys6, tys7, tys8, tys9, tys10, tys11, tys12, tys13, tys14, tys15, tys16, tys17, tys18, tys19, tys20, tys21, tys22, tys23, Try.ntmps137, Try.results137]
    exact Fin.eq rfl rfl
  cases N
  · simp only [run0, run1, run2, run3, run4, run5, run6, run7, run8, run9, run10, run11, run12, run13, run14, run15, run16, run17, run18, run19, run20, run21, run22, reduceCtorEq, Nat.reduceEqDiff, Nat.reduceAdd, Nat.reduceSub, Nat.reduceLeDiff, indexAddrA, indexRefA, appendA, strA, Nat.reduceMul, Nat.zero_mul, Nat.reduceMod, Int.reduceEq, Int.reduceLT, Int.reduceLE, Nat.reduceLT, Nat.lt_irrefl, Nat.reduceBEq, tys0, tys1, tys2, tys3, tys4, tys5, tys6, tys7, tys8, tys9, tys10, tys11, tys12, tys13, tys14, tys15, tys16, tys17, tys18, tys19, tys20, tys21, tys22, tys23, Try.ntmps137, Try.results137]
    exact Fin.eq rfl rfl
  have pv1 := frs_pure (vals ws p.1)
  have pv2 := frs_pure (vals ws p.2)
  simp only [run0, run1, run2, run3, run4, run5, run6, run7, run8, run9, run10, run11, run12, run13, run14, run15, run16, run17, run18, run19, run20, run21, run22, reduceCtorEq, Nat.reduceEqDiff, Nat.reduceAdd, Nat.reduceSub, Nat.reduceLeDiff, indexAddrA, indexRefA, appendA, strA, Nat.reduceMul, Nat.zero_mul, Nat.reduceMod, Int.reduceEq, Int.reduceLT, Int.reduceLE, Nat.reduceLT, Nat.lt_irrefl, Nat.reduceBEq, tys0, tys1, tys2, tys3, tys4, tys5, tys6, tys7, tys8, tys9, tys10, tys11, tys12, tys13, tys14, tys15, tys16, tys17, tys18, tys19, tys20, tys21, tys22, tys23, Try.ntmps137, Try.results137]
  refine RunL.callp rfl rfl ok_f164 ha (by simp only [pureL, pureB, pv1, pv2, Bool.and_self]) rfl ?_
  cases hap : apartB (vals ws p.1) (vals ws p.2)
  · simp only [run0, run1, run2, run3, run4, run5, run6, run7, run8, run9, run10, run11, run12, run13, run14, run15, run16, run17, run18, run19, run20, run21, run22, reduceCtorEq, Nat.reduceEqDiff, Nat.reduceAdd, Nat.reduceSub, Nat.reduceLeDiff, indexAddrA, indexRefA, appendA, strA, Nat.reduceMul, Nat.zero_mul, Nat.reduceMod, Int.reduceEq, Int.reduceLT, Int.reduceLE, Nat.reduceLT, Nat.lt_irrefl, Nat.reduceBEq, tys0, tys1, tys2, tys3, tys4, tys5, tys6, tys7, tys8, tys9, tys10, tys11, tys12, tys13, tys14, tys15, tys16, tys17, tys18, tys19, tys20, tys21, tys22, tys23, Try.ntmps137, Try.results137]
    exact Fin.eq rfl rfl
  have hs := hs rfl rfl
  unfold simR at hs
  simp only [run0, run1, run2, run3, run4, run5, run6, run7, run8, run9, run10, run11, run12, run13, run14, run15, run16, run17, run18, run19, run20, run21, run22, reduceCtorEq, Nat.reduceEqDiff, Nat.reduceAdd, Nat.reduceSub, Nat.reduceLeDiff, indexAddrA, indexRefA, appendA, strA, Nat.reduceMul, Nat.zero_mul, Nat.reduceMod, Int.reduceEq, Int.reduceLT, Int.reduceLE, Nat.reduceLT, Nat.lt_irrefl, Nat.reduceBEq, tys0, tys1, tys2, tys3, tys4, tys5, tys6, tys7, tys8, tys9, tys10, tys11, tys12, tys13, tys14, tys15, tys16, tys17, tys18, tys19, tys20, tys21, tys22, tys23, Try.ntmps137, Try.results137]
  refine RunL.callp rfl rfl ok_f80 hs (by simp only [pureL, pureB, pv1, pv2, Bool.and_self]) rfl ?_
  cases hb : cutBad (vals ws p.1) (vals ws p.2)
  · simp only [run0, run1, run2, run3, run4, run5, run6, run7, run8, run9, run10, run11, run12, run13, run14, run15, run16, run17, run18, run19, run20, run21, run22, reduceCtorEq, Nat.reduceEqDiff, Nat.reduceAdd, Nat.reduceSub, Nat.reduceLeDiff, indexAddrA, indexRefA, appendA, strA, Nat.reduceMul, Nat.zero_mul, Nat.reduceMod, Int.reduceEq, Int.reduceLT, Int.reduceLE, Nat.reduceLT, Nat.lt_irrefl, Nat.reduceBEq, tys0, tys1, tys2, tys3, tys4, tys5, tys6, tys7, tys8, tys9, tys10, tys11, tys12, tys13, tys14, tys15, tys16, tys17, tys18, tys19, tys20, tys21, tys22, tys23, Try.ntmps137, Try.results137, frE]
    exact Fin.eq rfl rfl
  · simp only [run0, run1, run2, run3, run4, run5, run6, run7, run8, run9, run10, run11, run12, run13, run14, run15, run16, run17, run18, run19, run20, run21, run22, reduceCtorEq, Nat.reduceEqDiff, Nat.reduceAdd, Nat.reduceSub, Nat.reduceLeDiff, indexAddrA, indexRefA, appendA, strA, Nat.reduceMul, Nat.zero_mul, Nat.reduceMod, Int.reduceEq, Int.reduceLT, Int.reduceLE, Nat.reduceLT, Nat.lt_irrefl, Nat.reduceBEq, tys0, tys1, tys2, tys3, tys4, tys5, tys6, tys7, tys8, tys9, tys10, tys11, tys12, tys13, tys14, tys15, tys16, tys17, tys18, tys19, tys20, tys21, tys22, tys23, Try.ntmps137, Try.results137, frE]
    exact Fin.eq rfl rfl

end Go.Proofs.Ytllcljajlemmaaa
/-
  impl.set: sorted, each once; the reference's l1Put.
-/
namespace Go.Proofs.Ytllcljajlemmaaa
open Go K Go.Sort Go.RowKit
set_option linter.unusedSimpArgs false
set_option linter.unusedVariables false
set_option maxHeartbeats 1600000
set_option maxRecDepth 8000

theorem compactI_ok (l : List Int) (hc : Lib.compact l = l) (id g : Nat) (L : List AObj) (hL : L[id]? = some (.vec 3 1 g (ints l))) (hl : l.length ≤ 1048576) :
    Ct Try.prog 96 [.ref id [] g l.length] L (.ref id [] g l.length) L := by
  have := Ct.rowR (P := Try.prog) (f := 96) (l2 := l) hL rfl (fun b c w hH hb hcap => by
    refine (Try.slices_Compact_int b 0 c l w hH (by omega) hcap).mono ?_
    rintro e w' ⟨rfl, q, rfl⟩
    rw [hc]
    refine ⟨rfl, q, #[], ?_⟩
    simp [turned]) (fun h w => by
    subst h
    exact Try.slices_Compact_int_empty none 0 w)
  rwa [set_eq_self hL] at this
theorem compact_nodup {l : List Int} (h : l.Nodup) : Lib.compact l = l := by
  unfold Lib.compact
  rw [Lib.compactUpTo_all _ _ fun j hj => ?_]
  · have := Lib.range_map_get l.toArray
    simpa using this
  · unfold Lib.keeps
    simp only [decide_eq_true_eq]
    by_cases h0 : j = 0
    · exact .inl h0
    · right
      intro e
      have h1 : j < l.length := hj
      have h2 : j - 1 < l.length := by omega
      rw [getElem!_pos _ j (by simpa using h1), getElem!_pos _ (j - 1) (by simpa using h2)] at e
      simp only [List.getElem_toArray] at e
      exact List.pairwise_iff_getElem.1 h (j - 1) j h2 h1 (by omega) e.symm
theorem srt_perm (l : List Int) : (srt l).Perm l := List.mergeSort_perm _ _
theorem srt_len (l : List Int) : (srt l).length = l.length := (srt_perm l).length_eq
theorem implSet_ok (l : List Int) (hn : l.Nodup) (id g : Nat) (L : List AObj) (hL : L[id]? = some (.vec 3 1 g (ints l))) (hl : l.length ≤ 1048576) :
    Ct Try.prog 51 [.ref id [] g l.length] L (.ref id [] g l.length) (L.set id (.vec 3 1 g (ints (srt l)))) := by
  have c1 := sortI_ok l id g L hL hl
  have hid := (List.getElem?_eq_some_iff.1 hL).1
  have hself : (L.set id (AObj.vec 3 1 g (ints (srt l))))[id]? = some (.vec 3 1 g (ints (srt l))) := List.getElem?_set_self hid
  have c2 := compactI_ok (srt l) (compact_nodup ((srt_perm l).nodup_iff.2 hn)) id g _ hself (by rw [srt_len]; exact hl)
  rw [srt_len] at c2
  refine Ct.by_ hmix [] Try.func51 rfl ?_
  simp only [run0, run1, run2, run3, run4, run5, run6, run7, run8, run9, run10, run11, run12, run13, run14, run15, run16, run17, run18, run19, run20, run21, run22, reduceCtorEq, Nat.reduceEqDiff, Nat.reduceAdd, Nat.reduceSub, Nat.reduceLeDiff, indexAddrA, indexRefA, appendA, strA, Nat.reduceMul, Nat.zero_mul, Nat.reduceMod, Int.reduceEq, Int.reduceLT, Int.reduceLE, Nat.reduceLT, Nat.lt_irrefl, Nat.reduceBEq, tys0, tys1, tys2, tys3, tys4, tys5, tys6, tys7, tys8, tys9, tys10, tys11, tys12, tys13, tys14, tys15, tys16, tys17, tys18, tys19, tys20, tys21, tys22, tys23, Try.ntmps51, Try.results51]
  refine RunL.call rfl rfl rfl ok_f95 rfl (.inl rfl) c1 ?_
  simp only [run0, run1, run2, run3, run4, run5, run6, run7, run8, run9, run10, run11, run12, run13, run14, run15, run16, run17, run18, run19, run20, run21, run22, reduceCtorEq, Nat.reduceEqDiff, Nat.reduceAdd, Nat.reduceSub, Nat.reduceLeDiff, indexAddrA, indexRefA, appendA, strA, Nat.reduceMul, Nat.zero_mul, Nat.reduceMod, Int.reduceEq, Int.reduceLT, Int.reduceLE, Nat.reduceLT, Nat.lt_irrefl, Nat.reduceBEq, tys0, tys1, tys2, tys3, tys4, tys5, tys6, tys7, tys8, tys9, tys10, tys11, tys12, tys13, tys14, tys15, tys16, tys17, tys18, tys19, tys20, tys21, tys22, tys23, Try.ntmps51, Try.results51]
  refine RunL.callM rfl rfl ok_f96 rfl rfl c2 rfl ?_
  simp only [run0, run1, run2, run3, run4, run5, run6, run7, run8, run9, run10, run11, run12, run13, run14, run15, run16, run17, run18, run19, run20, run21, run22, reduceCtorEq, Nat.reduceEqDiff, Nat.reduceAdd, Nat.reduceSub, Nat.reduceLeDiff, indexAddrA, indexRefA, appendA, strA, Nat.reduceMul, Nat.zero_mul, Nat.reduceMod, Int.reduceEq, Int.reduceLT, Int.reduceLE, Nat.reduceLT, Nat.lt_irrefl, Nat.reduceBEq, tys0, tys1, tys2, tys3, tys4, tys5, tys6, tys7, tys8, tys9, tys10, tys11, tys12, tys13, tys14, tys15, tys16, tys17, tys18, tys19, tys20, tys21, tys22, tys23, Try.ntmps51, Try.results51]
  exact Fin.own rfl rfl

/-! ### the reference: a number put into a sorted list -/
def putI (l : List Int) (x : Int) : List Int :=
  match l with
  | [] => [x]
  | y :: r => if y < x then y :: putI r x else if y = x then y :: r else x :: y :: r
theorem putI_len : ∀ (l : List Int) (x : Int), (putI l x).length ≤ l.length + 1
  | [], x => by simp [putI]
  | y :: r, x => by
    have := putI_len r x
    simp only [putI]
    split
    · simp; omega
    · split <;> simp
theorem putI_split (x : Int) : ∀ (l : List Int), ∃ d r, l = d ++ r ∧ (∀ y ∈ d, y < x) ∧ (∀ y, r.head? = some y → ¬ y < x) ∧ putI l x = (if r.head? = some x then l else d ++ x :: r)
  | [] => ⟨[], [], rfl, by simp, by simp, by simp [putI]⟩
  | y :: l => by
    by_cases h : y < x
    · obtain ⟨d, r, h1, h2, h3, h4⟩ := putI_split x l
      refine ⟨y :: d, r, by rw [h1]; rfl, fun z hz => ?_, h3, ?_⟩
      · rcases List.mem_cons.1 hz with rfl | hz
        · exact h
        · exact h2 z hz
      · simp only [putI, if_pos h, h4]
        split <;> rfl
    · refine ⟨[], y :: l, rfl, by simp, fun z hz => by simp at hz; subst hz; exact h, ?_⟩
      simp only [putI, if_neg h, List.head?_cons, Option.some.injEq, List.nil_append]

structure PuS where
  d : List Int
  r : List Int
theorem l1Put_ok (l : List Int) (x : Int) (hl : l.length ≤ 100000) : Ct Try.prog 91 [.sl false (ints l), .int .i64 x] [] (.sl false (ints (putI l x))) [] := by
  obtain ⟨d0, r0, h1, h2, h3, h4⟩ := putI_split x l
  have hdr : l.length = d0.length + r0.length := by rw [h1]; simp
  refine Ct.by_ hmix [] Try.func91 rfl ?_
  simp only [run0, run1, run2, run3, run4, run5, run6, run7, run8, run9, run10, run11, run12, run13, run14, run15, run16, run17, run18, run19, run20, run21, run22, reduceCtorEq, Nat.reduceEqDiff, Nat.reduceAdd, Nat.reduceSub, Nat.reduceLeDiff, indexAddrA, indexRefA, appendA, strA, Nat.reduceMul, Nat.zero_mul, Nat.reduceMod, Int.reduceEq, Int.reduceLT, Int.reduceLE, Nat.reduceLT, Nat.lt_irrefl, Nat.reduceBEq, tys0, tys1, tys2, tys3, tys4, tys5, tys6, tys7, tys8, tys9, tys10, tys11, tys12, tys13, tys14, tys15, tys16, tys17, tys18, tys19, tys20, tys21, tys22, tys23, Try.ntmps91, Try.results91]
  refine AWp.loop_inv (ι := PuS) (fun q => ⟨[.sl false (ints l), .int .i64 x, .junk, .junk, nilV, .int .i64 q.d.length, .junk, .junk, .junk, .junk, .junk, .junk, .junk, .junk, .junk, .junk, .junk, .junk, .junk, .junk, .junk, .junk, .junk, .junk, .junk, .junk, .junk, .junk, .junk, .junk, .junk, .junk, .junk, .junk, .junk, .junk, .junk, .junk, .junk, .junk, .junk, .junk, .junk, .junk, .junk, .junk, .junk, .junk], []⟩)
    (fun q => d0 = q.d ++ q.r) (fun q => q.r.length) ⟨[], d0⟩ rfl ⟨by simp only [List.length_nil, Int.natCast_zero]; repeat constructor, rfl⟩ ?_
  rintro ⟨d, r⟩ ha
  refine W.sound hmix (E := []) ?_
  simp only at ha
  cases r with
  | cons y r =>
    have hl2 : l = d ++ y :: (r ++ r0) := by rw [h1, ha]; simp
    obtain ⟨e1, e2, e5⟩ := int_split hl2 (by omega)
    have hy : y < x := h2 y (by rw [ha]; simp)
    simp only [run0, run1, run2, run3, run4, run5, run6, run7, run8, run9, run10, run11, run12, run13, run14, run15, run16, run17, run18, run19, run20, run21, run22, reduceCtorEq, Nat.reduceEqDiff, Nat.reduceAdd, Nat.reduceSub, Nat.reduceLeDiff, indexAddrA, indexRefA, appendA, strA, Nat.reduceMul, Nat.zero_mul, Nat.reduceMod, Int.reduceEq, Int.reduceLT, Int.reduceLE, Nat.reduceLT, Nat.lt_irrefl, Nat.reduceBEq, tys0, tys1, tys2, tys3, tys4, tys5, tys6, tys7, tys8, tys9, tys10, tys11, tys12, tys13, tys14, tys15, tys16, tys17, tys18, tys19, tys20, tys21, tys22, tys23, Try.ntmps91, Try.results91, ints_length, e1, e2, e5, hy, Int.toNat_natCast, Int.natCast_nonneg]
    exact ⟨⟨d ++ [y], r⟩, by simp [ha], by simp, by simp only [List.length_append, List.length_cons, List.length_nil]; repeat constructor⟩
  | nil =>
    rw [List.append_nil] at ha
    subst ha
    have e6 : (∀ (y : AV), y ∈ ints l → y.cells.length = 1) = True := eq_true fun y hy => by
      obtain ⟨p, _, rfl⟩ := List.mem_map.1 hy; rfl
    have t1 : (ints l).take d0.length = ints d0 := by rw [h1]; simp [ints]
    have t2 : (ints l).drop d0.length = ints r0 := by rw [h1]; simp [ints]
    have a1 := ints_one d0
    have a2 := ints_one r0
    have n1 := ints_noOwn d0
    have n2 := ints_noOwn r0
    have n3 : noOwn (ints d0 ++ [AV.int .i64 x]) = true := by
      have := ints_noOwn (d0 ++ [x])
      simpa [ints] using this
    have z0 : ((0 : Nat) : Int) ≤ (d0.length : Int) := by omega
    have z1 : (d0.length : Int) ≤ (l.length : Int) := by omega
    have z2 : (l.length : Int) ≤ (l.length : Int) := Int.le_refl _
    have z3 : 0 + d0.length ≤ 137438953472 := by omega
    have z4 : d0.length + 1 ≤ 137438953472 := by omega
    have z5 : d0.length + 1 + r0.length ≤ 137438953472 := by omega
    have z6 : d0.length ≤ 137438953472 := by omega
    have l1 : (ints d0).length = d0.length := ints_length d0
    have l2 : (ints r0).length = r0.length := ints_length r0
    have l3 : (ints l).take l.length = ints l := by rw [List.take_of_length_le (by simp [ints])]
    cases r0 with
    | nil =>
      have e1 : ¬ ((d0.length : Int) < (l.length : Int)) := by rw [hdr]; simp
      rw [h4]
      simp only [run0, run1, run2, run3, run4, run5, run6, run7, run8, run9, run10, run11, run12, run13, run14, run15, run16, run17, run18, run19, run20, run21, run22, reduceCtorEq, Nat.reduceEqDiff, Nat.reduceAdd, Nat.reduceSub, Nat.reduceLeDiff, indexAddrA, indexRefA, appendA, strA, Nat.reduceMul, Nat.zero_mul, Nat.reduceMod, Int.reduceEq, Int.reduceLT, Int.reduceLE, Nat.reduceLT, Nat.lt_irrefl, Nat.reduceBEq, tys0, tys1, tys2, tys3, tys4, tys5, tys6, tys7, tys8, tys9, tys10, tys11, tys12, tys13, tys14, tys15, tys16, tys17, tys18, tys19, tys20, tys21, tys22, tys23, Try.ntmps91, Try.results91, ints_length, e1, e6, t1, t2, a1, a2, n1, n2, n3, z0, z1, z2, z3, z4, z5, z6, l1, l2, l3, Int.toNat_natCast, Int.natCast_nonneg]
      have e : (if ([] : List Int).head? = some x then l else d0 ++ [x]) = d0 ++ [x] := rfl
      rw [e]
      exact Fin.value (Vw_ints (T := 3) (sz := 1) rfl (by simp [ints]) (by simp))
    | cons y r1 =>
      have e1 : (d0.length : Int) < (l.length : Int) := by rw [hdr]; simp; omega
      have e2 : (ints l)[d0.length]? = some (.int .i64 y) := by rw [h1]; simp [ints]
      have hy := h3 y rfl
      rw [h4]
      by_cases q : y = x
      · have b1 : (y == x) = true := by simp [q]
        have pl := ints_pure l
        simp only [run0, run1, run2, run3, run4, run5, run6, run7, run8, run9, run10, run11, run12, run13, run14, run15, run16, run17, run18, run19, run20, run21, run22, reduceCtorEq, Nat.reduceEqDiff, Nat.reduceAdd, Nat.reduceSub, Nat.reduceLeDiff, indexAddrA, indexRefA, appendA, strA, Nat.reduceMul, Nat.zero_mul, Nat.reduceMod, Int.reduceEq, Int.reduceLT, Int.reduceLE, Nat.reduceLT, Nat.lt_irrefl, Nat.reduceBEq, tys0, tys1, tys2, tys3, tys4, tys5, tys6, tys7, tys8, tys9, tys10, tys11, tys12, tys13, tys14, tys15, tys16, tys17, tys18, tys19, tys20, tys21, tys22, tys23, Try.ntmps91, Try.results91, ints_length, e1, e2, hy, b1, Int.toNat_natCast, Int.natCast_nonneg]
        exact Fin.eq (by simp [q]) (by simp only [pureB, pl])
      · have b1 : (y == x) = false := by simp [q]
        have e : (if (y :: r1).head? = some x then l else d0 ++ x :: y :: r1) = d0 ++ x :: y :: r1 := by rw [if_neg]; simpa using q
        rw [e]
        have a3 := ints_one r1
        have n4 := ints_noOwn r1
        have z7 : d0.length + 1 + (r1.length + 1) ≤ 137438953472 := by simp at hdr; omega
        simp only [run0, run1, run2, run3, run4, run5, run6, run7, run8, run9, run10, run11, run12, run13, run14, run15, run16, run17, run18, run19, run20, run21, run22, reduceCtorEq, Nat.reduceEqDiff, Nat.reduceAdd, Nat.reduceSub, Nat.reduceLeDiff, indexAddrA, indexRefA, appendA, strA, Nat.reduceMul, Nat.zero_mul, Nat.reduceMod, Int.reduceEq, Int.reduceLT, Int.reduceLE, Nat.reduceLT, Nat.lt_irrefl, Nat.reduceBEq, tys0, tys1, tys2, tys3, tys4, tys5, tys6, tys7, tys8, tys9, tys10, tys11, tys12, tys13, tys14, tys15, tys16, tys17, tys18, tys19, tys20, tys21, tys22, tys23, Try.ntmps91, Try.results91, ints_length, e1, e2, hy, b1, e6, t1, t2, a3, n4, z7, a1, a2, n1, n2, n3, z0, z1, z2, z3, z4, z5, z6, l1, l2, l3, Int.toNat_natCast, Int.natCast_nonneg]
        exact Fin.value (Vw_ints (T := 3) (sz := 1) rfl (by simp [ints]) (by simp; try omega))

end Go.Proofs.Ytllcljajlemmaaa
/-
  Positions with rows of their own: marked, held.
-/
namespace Go.Proofs.Ytllcljajlemmaaa
open Go K
set_option linter.unusedSimpArgs false
set_option linter.unusedVariables false
set_option maxHeartbeats 1600000
set_option maxRecDepth 8000

theorem markOwnI_ok (l : List Int) (x : AV) (S : List Nat) (L0 : List AObj) (k : Int) (ho : OwnI L0 l x S) (hl : l.length ≤ 1048576) (h0 : 0 ≤ k) (hk : k ≤ 4611686018427387904) :
    ∃ L', Ct Try.prog 53 [x, .int .i64 k] L0 (.int .i64 (k + l.length)) L' ∧ OwnI L' (mkI l k) x S ∧ (∀ id, id ∉ S → L'[id]? = L0[id]?) ∧ L'.length = L0.length := by
  rcases ho with ⟨rfl, rfl, rfl⟩ | ⟨id, g, rfl, hL, rfl⟩
  · refine ⟨L0, ?_, .inl ⟨rfl, rfl, rfl⟩, fun _ _ => rfl, rfl⟩
    refine Ct.by_ hmix [] Try.func53 rfl ?_
    simp only [run0, run1, run2, run3, run4, run5, run6, run7, run8, run9, run10, run11, run12, run13, run14, run15, run16, run17, run18, run19, run20, run21, run22, reduceCtorEq, Nat.reduceEqDiff, Nat.reduceAdd, Nat.reduceSub, Nat.reduceLeDiff, indexAddrA, indexRefA, appendA, strA, Nat.reduceMul, Nat.zero_mul, Nat.reduceMod, Int.reduceEq, Int.reduceLT, Int.reduceLE, Nat.reduceLT, Nat.lt_irrefl, Nat.reduceBEq, tys0, tys1, tys2, tys3, tys4, tys5, tys6, tys7, tys8, tys9, tys10, tys11, tys12, tys13, tys14, tys15, tys16, tys17, tys18, tys19, tys20, tys21, tys22, tys23, Try.ntmps53, Try.results53, nilV]
    refine AWp.loop_inv (ι := Unit) (fun _ => ⟨[.lit (.slice none 0 0), .int .i64 k, .junk, .junk, .int .i64 0, .int .i64 0, .junk, .junk, .junk, .junk, .junk, .junk, .junk, .junk, .junk, .junk, .junk, .junk, .junk], L0⟩) (fun _ => True) (fun _ => 0) () trivial ⟨by repeat constructor, rfl⟩ ?_
    rintro _ _
    refine W.sound hmix (E := []) ?_
    simp only [run0, run1, run2, run3, run4, run5, run6, run7, run8, run9, run10, run11, run12, run13, run14, run15, run16, run17, run18, run19, run20, run21, run22, reduceCtorEq, Nat.reduceEqDiff, Nat.reduceAdd, Nat.reduceSub, Nat.reduceLeDiff, indexAddrA, indexRefA, appendA, strA, Nat.reduceMul, Nat.zero_mul, Nat.reduceMod, Int.reduceEq, Int.reduceLT, Int.reduceLE, Nat.reduceLT, Nat.lt_irrefl, Nat.reduceBEq, tys0, tys1, tys2, tys3, tys4, tys5, tys6, tys7, tys8, tys9, tys10, tys11, tys12, tys13, tys14, tys15, tys16, tys17, tys18, tys19, tys20, tys21, tys22, tys23, Try.ntmps53, Try.results53, Int.lt_irrefl]
    exact Fin.own rfl (by simp)
  · have hid := (List.getElem?_eq_some_iff.1 hL).1
    exact ⟨_, markIntS_ok l id g L0 k hL hl h0 hk, .inr ⟨id, g, by rw [mkI_len], List.getElem?_set_self hid, rfl⟩, fun id1 h1 => by rw [List.getElem?_set_ne (fun q => h1 (by simp [q]))], by simp⟩
theorem OwnI.vc {L : List AObj} {l : List Int} {x : AV} {S : List Nat} (h : OwnI L l x S) (id : Nat) (q : Pth) (g : Nat) : K.viewC id q g x = x := by
  rcases h with ⟨rfl, rfl, _⟩ | ⟨id, g, rfl, h2, _⟩ <;> rfl
theorem OwnPE.split {L : List AObj} : ∀ {d : List GP} {p : GP} {r : List GP} {es : List AV} {S : List Nat}, OwnPE L (d ++ p :: r) es S →
    ∃ ed a b er Sd S1 S2 Sr, es = ed ++ .agg [a, b] :: er ∧ ed.length = d.length ∧ S = Sd ++ (S1 ++ (S2 ++ Sr)) ∧ OwnPE L d ed Sd ∧ OwnI L p.1 a S1 ∧ OwnI L p.2 b S2 ∧ OwnPE L r er Sr
  | [], p, r, es, S, ⟨a, b, es', S1, S2, S', he, hS, h1, h2, h3⟩ => ⟨[], a, b, es', [], S1, S2, S', he, rfl, hS, ⟨rfl, rfl⟩, h1, h2, h3⟩
  | q :: d, p, r, es, S, ⟨a, b, es', S1, S2, S', he, hS, h1, h2, h3⟩ => by
    obtain ⟨ed, a', b', er, Sd, T1, T2, Sr, k1, k2, k3, k4, k5, k6, k7⟩ := OwnPE.split (d := d) h3
    exact ⟨.agg [a, b] :: ed, a', b', er, S1 ++ (S2 ++ Sd), T1, T2, Sr, by rw [he, k1]; rfl, by simp [k2], by rw [hS, k3]; simp, ⟨a, b, ed, S1, S2, Sd, rfl, rfl, h1, h2, k4⟩, k5, k6, k7⟩
theorem OwnPE.join {L : List AObj} : ∀ {d : List GP} {p : GP} {r : List GP} {ed er : List AV} {a b : AV} {Sd S1 S2 Sr : List Nat}, OwnPE L d ed Sd → OwnI L p.1 a S1 → OwnI L p.2 b S2 → OwnPE L r er Sr →
    OwnPE L (d ++ p :: r) (ed ++ .agg [a, b] :: er) (Sd ++ (S1 ++ (S2 ++ Sr)))
  | [], p, r, ed, er, a, b, Sd, S1, S2, Sr, h, h1, h2, h3 => by
    obtain ⟨rfl, rfl⟩ := h
    exact ⟨a, b, er, S1, S2, Sr, rfl, rfl, h1, h2, h3⟩
  | q :: d, p, r, ed, er, a, b, Sd, S1, S2, Sr, ⟨a', b', es', T1, T2, T', he, hS, k1, k2, k3⟩, h1, h2, h3 => by
    subst he hS
    exact ⟨a', b', _, T1, T2, _, rfl, by simp, k1, k2, k3.join h1 h2 h3⟩
def mkP : List GP → Int → List GP
  | [], _ => []
  | p :: r, k => (mkI p.1 k, mkI p.2 (k + p.1.length)) :: mkP r (k + psz p)
theorem mkP_len : ∀ (l : List GP) (k : Int), (mkP l k).length = l.length
  | [], _ => rfl
  | p :: r, k => by simp [mkP, mkP_len r]
theorem gsz_snoc : ∀ (d : List GP) (p : GP), gsz (d ++ [p]) = gsz d + psz p
  | [], p => by simp [gsz]
  | q :: d, p => by simp [gsz, gsz_snoc d p, Nat.add_assoc]
theorem mkP_snoc : ∀ (d : List GP) (p : GP) (k : Int), mkP (d ++ [p]) k = mkP d k ++ [(mkI p.1 (k + gsz d), mkI p.2 (k + gsz d + p.1.length))]
  | [], p, k => by simp [mkP, gsz]
  | q :: d, p, k => by
    simp only [List.cons_append, mkP, mkP_snoc d p, gsz]
    rw [show k + (psz q : Int) + (gsz d : Int) = k + ((psz q + gsz d : Nat) : Int) by omega]
structure MpS where
  d : List GP
  r : List GP
  L : List AObj
theorem gsz_le : ∀ {l : List GP} {n : Nat}, (∀ p ∈ l, psz p ≤ n) → gsz l ≤ l.length * n
  | [], _, _ => by simp [gsz]
  | p :: r, n, h => by
    have h1 := h p (by simp)
    have h2 := gsz_le (l := r) fun q hq => h q (by simp [hq])
    simp only [gsz, List.length_cons, Nat.add_mul]
    omega
theorem markPositionS_ok (l : List GP) (x : AV) (S : List Nat) (L0 : List AObj) (k : Int) (ho : OwnP L0 l x S) (hn : S.Nodup) (hl : l.length ≤ 1000) (hs : ∀ p ∈ l, psz p ≤ 1000) (h0 : 0 ≤ k) (hk : k ≤ 1048576) :
    ∃ L', Ct Try.prog 18 [x, .int .i64 k] L0 (.int .i64 (k + gsz l)) L' ∧ OwnP L' (mkP l k) x S ∧ (∀ id, id ∉ S → L'[id]? = L0[id]?) ∧ L'.length = L0.length := by
  rcases ho with ⟨rfl, rfl, rfl⟩ | ⟨id, g, es, S', rfl, hL, hE, rfl⟩
  · refine ⟨L0, ?_, .inl ⟨rfl, rfl, rfl⟩, fun _ _ => rfl, rfl⟩
    refine Ct.by_ hmix [] Try.func18 rfl ?_
    simp only [run0, run1, run2, run3, run4, run5, run6, run7, run8, run9, run10, run11, run12, run13, run14, run15, run16, run17, run18, run19, run20, run21, run22, reduceCtorEq, Nat.reduceEqDiff, Nat.reduceAdd, Nat.reduceSub, Nat.reduceLeDiff, indexAddrA, indexRefA, appendA, strA, Nat.reduceMul, Nat.zero_mul, Nat.reduceMod, Int.reduceEq, Int.reduceLT, Int.reduceLE, Nat.reduceLT, Nat.lt_irrefl, Nat.reduceBEq, tys0, tys1, tys2, tys3, tys4, tys5, tys6, tys7, tys8, tys9, tys10, tys11, tys12, tys13, tys14, tys15, tys16, tys17, tys18, tys19, tys20, tys21, tys22, tys23, Try.ntmps18, Try.results18, nilV]
    refine AWp.loop_inv (ι := Unit) (fun _ => ⟨[.lit (.slice none 0 0), .int .i64 k, .junk, .junk, .int .i64 0, .int .i64 0, .junk, .junk, .junk, .junk, .junk, .junk, .junk, .junk, .junk, .junk, .junk, .junk, .junk, .junk, .junk, .junk, .junk, .junk, .junk, .junk, .junk], L0⟩) (fun _ => True) (fun _ => 0) () trivial ⟨by repeat constructor, rfl⟩ ?_
    rintro _ _
    refine W.sound hmix (E := []) ?_
    simp only [run0, run1, run2, run3, run4, run5, run6, run7, run8, run9, run10, run11, run12, run13, run14, run15, run16, run17, run18, run19, run20, run21, run22, reduceCtorEq, Nat.reduceEqDiff, Nat.reduceAdd, Nat.reduceSub, Nat.reduceLeDiff, indexAddrA, indexRefA, appendA, strA, Nat.reduceMul, Nat.zero_mul, Nat.reduceMod, Int.reduceEq, Int.reduceLT, Int.reduceLE, Nat.reduceLT, Nat.lt_irrefl, Nat.reduceBEq, tys0, tys1, tys2, tys3, tys4, tys5, tys6, tys7, tys8, tys9, tys10, tys11, tys12, tys13, tys14, tys15, tys16, tys17, tys18, tys19, tys20, tys21, tys22, tys23, Try.ntmps18, Try.results18, Int.lt_irrefl]
    exact Fin.own rfl (by simp [gsz])
  have hgl := gsz_le hs
  have hel := hE.len
  have hnO := hE.noOwn
  obtain ⟨hid, hnS⟩ := List.nodup_cons.1 hn
  suffices h : ∃ r L', Ct Try.prog 18 [.ref id [] g l.length, .int .i64 k] L0 r L' ∧ (r = .int .i64 (k + gsz l) ∧ L'[id]? = some (.vec 70 2 g es) ∧ OwnPE L' (mkP l k) es S' ∧ (∀ j, j ∉ S' → L'[j]? = L0[j]?) ∧ L'.length = L0.length) by
    obtain ⟨r, L', h1, rfl, h2, h3, h4, h5⟩ := h
    exact ⟨L', h1, .inr ⟨id, g, es, S', by rw [mkP_len], h2, h3, rfl⟩, fun j hj => h4 j (fun q => hj (by simp [q])), h5⟩
  refine Ct.ex hmix [] Try.func18 rfl ?_
  simp only [run0, run1, run2, run3, run4, run5, run6, run7, run8, run9, run10, run11, run12, run13, run14, run15, run16, run17, run18, run19, run20, run21, run22, reduceCtorEq, Nat.reduceEqDiff, Nat.reduceAdd, Nat.reduceSub, Nat.reduceLeDiff, indexAddrA, indexRefA, appendA, strA, Nat.reduceMul, Nat.zero_mul, Nat.reduceMod, Int.reduceEq, Int.reduceLT, Int.reduceLE, Nat.reduceLT, Nat.lt_irrefl, Nat.reduceBEq, tys0, tys1, tys2, tys3, tys4, tys5, tys6, tys7, tys8, tys9, tys10, tys11, tys12, tys13, tys14, tys15, tys16, tys17, tys18, tys19, tys20, tys21, tys22, tys23, Try.ntmps18, Try.results18]
  refine AWp.loop_exK (ι := MpS) (fun q => ⟨[.ref id [] g l.length, .int .i64 (k + gsz q.d), .junk, .junk, .int .i64 0, .int .i64 q.d.length, .junk, .junk, .junk, .junk, .junk, .junk, .junk, .junk, .junk, .junk, .junk, .junk, .junk, .junk, .junk, .junk, .junk, .junk, .junk, .junk, .junk], q.L⟩)
    (fun q => l = q.d ++ q.r ∧ q.L[id]? = some (.vec 70 2 g es) ∧ OwnPE q.L (mkP q.d k ++ q.r) es S' ∧ (∀ j, j ∉ S' → q.L[j]? = L0[j]?) ∧ q.L.length = L0.length) (fun q => q.r.length) ⟨[], l, L0⟩ ⟨rfl, hL, hE, fun _ _ => rfl, rfl⟩
    ⟨by simp only [List.length_nil, gsz, Int.natCast_zero, Int.add_zero]; repeat constructor, rfl⟩ ?_
  rintro ⟨d, r, L⟩ ⟨ha, hLi, hO, hf, hlen⟩
  simp only at ha hLi hO hf hlen
  have hda : l.length = d.length + r.length := by rw [ha]; simp
  cases r with
  | nil =>
    left
    have e1 : ¬ ((d.length : Int) < (l.length : Int)) := by rw [ha]; simp
    rw [List.append_nil] at ha hO
    subst ha
    refine ⟨.int .i64 (k + gsz l), L, ?_, rfl, hLi, hO, hf, hlen⟩
    refine W.sound hmix (E := []) ?_
    simp only [run0, run1, run2, run3, run4, run5, run6, run7, run8, run9, run10, run11, run12, run13, run14, run15, run16, run17, run18, run19, run20, run21, run22, reduceCtorEq, Nat.reduceEqDiff, Nat.reduceAdd, Nat.reduceSub, Nat.reduceLeDiff, indexAddrA, indexRefA, appendA, strA, Nat.reduceMul, Nat.zero_mul, Nat.reduceMod, Int.reduceEq, Int.reduceLT, Int.reduceLE, Nat.reduceLT, Nat.lt_irrefl, Nat.reduceBEq, tys0, tys1, tys2, tys3, tys4, tys5, tys6, tys7, tys8, tys9, tys10, tys11, tys12, tys13, tys14, tys15, tys16, tys17, tys18, tys19, tys20, tys21, tys22, tys23, Try.ntmps18, Try.results18, e1, hLi]
    exact Fin.own rfl rfl
  | cons p r =>
    right
    simp only [List.length_cons] at hda
    have hp := hs p (by rw [ha]; simp)
    have hgd : gsz d + psz p ≤ 1000000 := by
      have := gsz_le (l := d ++ [p]) (n := 1000) fun q hq => hs q (by rw [ha]; simp at hq ⊢; rcases hq with h | h; exact .inl h; exact .inr (.inl h))
      rw [gsz_snoc] at this
      simp at this; omega
    unfold psz at hp hgd
    obtain ⟨ed, a, b, er, Sd, S1, S2, Sr, k1, k2, k3, k4, k5, k6, k7⟩ := hO.split
    rw [mkP_len] at k2
    subst k3
    obtain ⟨L1, c1, o1, f1, n1⟩ := markOwnI_ok p.1 a S1 L (k + gsz d) k5 (by omega) (by omega) (by omega)
    have nd := List.nodup_append.1 hnS
    have nd2 := List.nodup_append.1 nd.2.1
    have nd3 := List.nodup_append.1 nd2.2.1
    have keep1 : ∀ T : List Nat, (∀ j ∈ T, j ∉ S1) → Kept T L L1 := fun T hT j hj _ _ _ _ hq => by rw [f1 j (hT j hj)]; exact hq
    have q2 := k6.mono (keep1 S2 fun j hj hj1 => nd2.2.2 j hj1 j (by simp [hj]) rfl)
    obtain ⟨L2, c2, o2, f2, n2⟩ := markOwnI_ok p.2 b S2 L1 (k + gsz d + p.1.length) q2 (by omega) (by omega) (by omega)
    have keep2 : ∀ T : List Nat, (∀ j ∈ T, j ∉ S2) → Kept T L1 L2 := fun T hT j hj _ _ _ _ hq => by rw [f2 j (hT j hj)]; exact hq
    have ktr : ∀ {T : List Nat} {A B C : List AObj}, Kept T A B → Kept T B C → Kept T A C := fun h1 h2 j hj _ _ _ _ hq => h2 j hj _ _ _ _ (h1 j hj _ _ _ _ hq)
    have oD := k4.mono (ktr (keep1 Sd fun j hj hj1 => nd.2.2 j hj j (by simp [hj1]) rfl) (keep2 Sd fun j hj hj1 => nd.2.2 j hj j (by simp [hj1]) rfl))
    have oR := k7.mono (ktr (keep1 Sr fun j hj hj1 => nd2.2.2 j hj1 j (by simp [hj]) rfl) (keep2 Sr fun j hj hj1 => nd3.2.2 j hj1 j hj rfl))
    have oA := o1.mono (keep2 S1 fun j hj hj1 => nd2.2.2 j hj j (by simp [hj1]) rfl)
    have oJ := OwnPE.join (p := (mkI p.1 (k + gsz d), mkI p.2 (k + gsz d + p.1.length))) oD oA o2 oR
    have hid1 : id ∉ S1 := fun q => hid (by simp [q])
    have hid2 : id ∉ S2 := fun q => hid (by simp [q])
    have hL1 : L1[id]? = some (.vec 70 2 g es) := by rw [f1 id hid1]; exact hLi
    have hL2 : L2[id]? = some (.vec 70 2 g es) := by rw [f2 id hid2]; exact hL1
    refine ⟨⟨d ++ [p], r, L2⟩, ⟨by simp [ha], hL2, ?_, fun j hj => ?_, by rw [n2, n1, hlen]⟩, by simp, ?_⟩
    · rw [mkP_snoc, k1]
      simpa using oJ
    · rw [f2 j (fun q => hj (by simp [q])), f1 j (fun q => hj (by simp [q])), hf j hj]
    refine W.sound hmix (E := []) ?_
    have e1 : (d.length : Int) < (l.length : Int) := by omega
    have e2 : es[d.length]? = some (.agg [a, b]) := by rw [k1, ← k2]; simp
    have e5 : IntKind.i64.wrap ((d.length : Int) + 1) = ((d ++ [p]).length : Int) := by rw [i64_id (by omega) (by omega)]; simp
    have va := k5.vc
    have vb := k6.vc
    have e8 : l.length ≤ es.length := by omega
    have e9 : k + (gsz d : Int) + (p.1.length : Int) + (p.2.length : Int) = k + (gsz (d ++ [p]) : Int) := by rw [gsz_snoc]; unfold psz; omega
    simp only [run0, run1, run2, run3, run4, run5, run6, run7, run8, run9, run10, run11, run12, run13, run14, run15, run16, run17, run18, run19, run20, run21, run22, reduceCtorEq, Nat.reduceEqDiff, Nat.reduceAdd, Nat.reduceSub, Nat.reduceLeDiff, indexAddrA, indexRefA, appendA, strA, Nat.reduceMul, Nat.zero_mul, Nat.reduceMod, Int.reduceEq, Int.reduceLT, Int.reduceLE, Nat.reduceLT, Nat.lt_irrefl, Nat.reduceBEq, tys0, tys1, tys2, tys3, tys4, tys5, tys6, tys7, tys8, tys9, tys10, tys11, tys12, tys13, tys14, tys15, tys16, tys17, tys18, tys19, tys20, tys21, tys22, tys23, Try.ntmps18, Try.results18, e1, e2, e8, hLi, hnO, va, vb, List.mapIdx_cons, List.mapIdx_nil, Int.toNat_natCast, Int.natCast_nonneg]
    refine RunL.callM rfl rfl ok_f53 rfl rfl c1 rfl ?_
    simp only [run0, run1, run2, run3, run4, run5, run6, run7, run8, run9, run10, run11, run12, run13, run14, run15, run16, run17, run18, run19, run20, run21, run22, reduceCtorEq, Nat.reduceEqDiff, Nat.reduceAdd, Nat.reduceSub, Nat.reduceLeDiff, indexAddrA, indexRefA, appendA, strA, Nat.reduceMul, Nat.zero_mul, Nat.reduceMod, Int.reduceEq, Int.reduceLT, Int.reduceLE, Nat.reduceLT, Nat.lt_irrefl, Nat.reduceBEq, tys0, tys1, tys2, tys3, tys4, tys5, tys6, tys7, tys8, tys9, tys10, tys11, tys12, tys13, tys14, tys15, tys16, tys17, tys18, tys19, tys20, tys21, tys22, tys23, Try.ntmps18, Try.results18, e1, e2, e8, hL1, hnO, va, vb, List.mapIdx_cons, List.mapIdx_nil, Int.toNat_natCast, Int.natCast_nonneg]
    refine RunL.callM rfl rfl ok_f53 rfl rfl c2 rfl ?_
    simp only [run0, run1, run2, run3, run4, run5, run6, run7, run8, run9, run10, run11, run12, run13, run14, run15, run16, run17, run18, run19, run20, run21, run22, reduceCtorEq, Nat.reduceEqDiff, Nat.reduceAdd, Nat.reduceSub, Nat.reduceLeDiff, indexAddrA, indexRefA, appendA, strA, Nat.reduceMul, Nat.zero_mul, Nat.reduceMod, Int.reduceEq, Int.reduceLT, Int.reduceLE, Nat.reduceLT, Nat.lt_irrefl, Nat.reduceBEq, tys0, tys1, tys2, tys3, tys4, tys5, tys6, tys7, tys8, tys9, tys10, tys11, tys12, tys13, tys14, tys15, tys16, tys17, tys18, tys19, tys20, tys21, tys22, tys23, Try.ntmps18, Try.results18, e5, e9]
    repeat constructor

theorem heldPositionS_ok (l : List GP) (k : Int) (hl : l.length ≤ 1000) (hs : ∀ p ∈ l, psz p ≤ 1000) (h0 : 0 ≤ k) (hk : k ≤ 1048576) : Ct Try.prog 19 [.sl false ((mkP l k).map posE), .int .i64 k] [] (.int .i64 (k + gsz l)) [] := by
  have hml := mkP_len l k
  have hgl := gsz_le hs
  refine Ct.by_ hmix [] Try.func19 rfl ?_
  simp only [run0, run1, run2, run3, run4, run5, run6, run7, run8, run9, run10, run11, run12, run13, run14, run15, run16, run17, run18, run19, run20, run21, run22, reduceCtorEq, Nat.reduceEqDiff, Nat.reduceAdd, Nat.reduceSub, Nat.reduceLeDiff, indexAddrA, indexRefA, appendA, strA, Nat.reduceMul, Nat.zero_mul, Nat.reduceMod, Int.reduceEq, Int.reduceLT, Int.reduceLE, Nat.reduceLT, Nat.lt_irrefl, Nat.reduceBEq, tys0, tys1, tys2, tys3, tys4, tys5, tys6, tys7, tys8, tys9, tys10, tys11, tys12, tys13, tys14, tys15, tys16, tys17, tys18, tys19, tys20, tys21, tys22, tys23, Try.ntmps19, Try.results19, hml, List.length_map]
  refine AWp.loop_inv (ι := List GP × List GP) (fun p => ⟨[.sl false ((mkP l k).map posE), .int .i64 (k + gsz p.1), .junk, .junk, .int .i64 0, .int .i64 p.1.length, .junk, .junk, .junk, .junk, .junk, .junk, .junk, .junk, .junk, .junk, .junk, .junk, .junk, .junk, .junk, .junk, .junk, .junk, .junk, .junk, .junk, .junk, .junk, .junk, .junk], []⟩)
    (fun p => l = p.1 ++ p.2) (fun p => p.2.length) ([], l) rfl ⟨by simp only [List.length_nil, gsz, Int.natCast_zero, Int.add_zero]; repeat constructor, rfl⟩ ?_
  rintro ⟨d, r⟩ ha
  refine W.sound hmix (E := []) ?_
  simp only at ha
  have hda : l.length = d.length + r.length := by rw [ha, List.length_append]
  cases r with
  | nil =>
    have e1 : ¬ ((d.length : Int) < (l.length : Int)) := by simp at hda; omega
    simp only [run0, run1, run2, run3, run4, run5, run6, run7, run8, run9, run10, run11, run12, run13, run14, run15, run16, run17, run18, run19, run20, run21, run22, reduceCtorEq, Nat.reduceEqDiff, Nat.reduceAdd, Nat.reduceSub, Nat.reduceLeDiff, indexAddrA, indexRefA, appendA, strA, Nat.reduceMul, Nat.zero_mul, Nat.reduceMod, Int.reduceEq, Int.reduceLT, Int.reduceLE, Nat.reduceLT, Nat.lt_irrefl, Nat.reduceBEq, tys0, tys1, tys2, tys3, tys4, tys5, tys6, tys7, tys8, tys9, tys10, tys11, tys12, tys13, tys14, tys15, tys16, tys17, tys18, tys19, tys20, tys21, tys22, tys23, Try.ntmps19, Try.results19, e1, hml, List.length_map]
    refine Fin.eq ?_ rfl
    rw [ha]; simp
  | cons p r =>
    simp only [List.length_cons] at hda
    have hp := hs p (by rw [ha]; simp)
    have hgd : gsz d + psz p ≤ 1000000 := by
      have := gsz_le (l := d ++ [p]) (n := 1000) fun q hq => hs q (by rw [ha]; simp at hq ⊢; rcases hq with h | h; exact .inl h; exact .inr (.inl h))
      rw [gsz_snoc] at this
      simp at this; omega
    unfold psz at hp hgd
    have e1 : (d.length : Int) < (l.length : Int) := by omega
    have e2 : ((mkP l k).map posE)[d.length]? = some (.agg [.sl false (ints (mkI p.1 (k + gsz d))), .sl false (ints (mkI p.2 (k + gsz d + p.1.length)))]) := by
      have : l = (d ++ [p]) ++ r := by rw [ha]; simp
      have e : ∀ (x y : List GP) (k : Int), ∃ z, mkP (x ++ y) k = mkP x k ++ z := by
        intro x
        induction x with
        | nil => intro y k; exact ⟨_, rfl⟩
        | cons q x ih => intro y k; obtain ⟨z, hz⟩ := ih y (k + psz q); exact ⟨z, by simp [mkP, hz]⟩
      obtain ⟨z, hz⟩ := e (d ++ [p]) r k
      rw [this, hz, mkP_snoc]
      have hdl := mkP_len d k
      rw [List.map_append, List.map_append, List.append_assoc, List.getElem?_append_right (by simp [hdl])]
      simp [hdl, posE]
    have h1 := heldIntS_ok p.1 (k + gsz d) (by omega) (by omega) (by omega)
    have h2 := heldIntS_ok p.2 (k + gsz d + p.1.length) (by omega) (by omega) (by omega)
    have n1 : ¬ (k + (gsz d : Int) + (p.1.length : Int) < 0) := by omega
    have n2 : ¬ (k + (gsz d : Int) + (p.1.length : Int) + (p.2.length : Int) < 0) := by omega
    have n3 : ¬ (k + (gsz (d ++ [p]) : Int) < 0) := by omega
    have e5 : IntKind.i64.wrap ((d.length : Int) + 1) = ((d ++ [p]).length : Int) := by rw [i64_id (by omega) (by omega)]; simp
    have e9 : k + (gsz d : Int) + (p.1.length : Int) + (p.2.length : Int) = k + (gsz (d ++ [p]) : Int) := by rw [gsz_snoc]; unfold psz; omega
    simp only [run0, run1, run2, run3, run4, run5, run6, run7, run8, run9, run10, run11, run12, run13, run14, run15, run16, run17, run18, run19, run20, run21, run22, reduceCtorEq, Nat.reduceEqDiff, Nat.reduceAdd, Nat.reduceSub, Nat.reduceLeDiff, indexAddrA, indexRefA, appendA, strA, Nat.reduceMul, Nat.zero_mul, Nat.reduceMod, Int.reduceEq, Int.reduceLT, Int.reduceLE, Nat.reduceLT, Nat.lt_irrefl, Nat.reduceBEq, tys0, tys1, tys2, tys3, tys4, tys5, tys6, tys7, tys8, tys9, tys10, tys11, tys12, tys13, tys14, tys15, tys16, tys17, tys18, tys19, tys20, tys21, tys22, tys23, Try.ntmps19, Try.results19, e1, e2, hml, List.length_map, Int.toNat_natCast, Int.natCast_nonneg]
    refine RunL.callp rfl rfl ok_f54 h1 (by simp only [pureL, pureB, ints_pure, Bool.and_self]) rfl ?_
    simp only [run0, run1, run2, run3, run4, run5, run6, run7, run8, run9, run10, run11, run12, run13, run14, run15, run16, run17, run18, run19, run20, run21, run22, reduceCtorEq, Nat.reduceEqDiff, Nat.reduceAdd, Nat.reduceSub, Nat.reduceLeDiff, indexAddrA, indexRefA, appendA, strA, Nat.reduceMul, Nat.zero_mul, Nat.reduceMod, Int.reduceEq, Int.reduceLT, Int.reduceLE, Nat.reduceLT, Nat.lt_irrefl, Nat.reduceBEq, tys0, tys1, tys2, tys3, tys4, tys5, tys6, tys7, tys8, tys9, tys10, tys11, tys12, tys13, tys14, tys15, tys16, tys17, tys18, tys19, tys20, tys21, tys22, tys23, Try.ntmps19, Try.results19, e1, e2, n1, hml, List.length_map, Int.toNat_natCast, Int.natCast_nonneg]
    refine RunL.callp rfl rfl ok_f54 h2 (by simp only [pureL, pureB, ints_pure, Bool.and_self]) rfl ?_
    simp only [run0, run1, run2, run3, run4, run5, run6, run7, run8, run9, run10, run11, run12, run13, run14, run15, run16, run17, run18, run19, run20, run21, run22, reduceCtorEq, Nat.reduceEqDiff, Nat.reduceAdd, Nat.reduceSub, Nat.reduceLeDiff, indexAddrA, indexRefA, appendA, strA, Nat.reduceMul, Nat.zero_mul, Nat.reduceMod, Int.reduceEq, Int.reduceLT, Int.reduceLE, Nat.reduceLT, Nat.lt_irrefl, Nat.reduceBEq, tys0, tys1, tys2, tys3, tys4, tys5, tys6, tys7, tys8, tys9, tys10, tys11, tys12, tys13, tys14, tys15, tys16, tys17, tys18, tys19, tys20, tys21, tys22, tys23, Try.ntmps19, Try.results19, n2, n3, e5, e9]
    exact ⟨(d ++ [p], r), by simp [ha], by simp, by simp only [List.length_append, List.length_cons, List.length_nil]; repeat constructor⟩

end Go.Proofs.Ytllcljajlemmaaa
/-
  Sums of games: moves, sorted in two ways; the reference's moves.
-/
namespace Go.Proofs.Ytllcljajlemmaaa
open Go K
set_option linter.unusedSimpArgs false
set_option linter.unusedVariables false
set_option maxHeartbeats 1600000
set_option maxRecDepth 8000

theorem strict_ext : ∀ {l m : List Int}, l.Pairwise (· < ·) → m.Pairwise (· < ·) → (∀ z, z ∈ l ↔ z ∈ m) → l = m
  | [], [], _, _, _ => rfl
  | [], b :: m, _, _, h => by have := (h b).2 (by simp); cases this
  | a :: l, [], _, _, h => by have := (h a).1 (by simp); cases this
  | a :: l, b :: m, hl, hm, h => by
    have hl' := List.pairwise_cons.1 hl
    have hm' := List.pairwise_cons.1 hm
    have hab : a = b := by
      have h1 := (h a).1 (by simp)
      have h2 := (h b).2 (by simp)
      rcases List.mem_cons.1 h1 with e | e
      · exact e
      · rcases List.mem_cons.1 h2 with e2 | e2
        · exact e2.symm
        · have := hl'.1 b e2
          have := hm'.1 a e
          omega
    subst hab
    congr 1
    refine strict_ext hl'.2 hm'.2 fun z => ⟨fun hz => ?_, fun hz => ?_⟩
    · rcases List.mem_cons.1 ((h z).1 (by simp [hz])) with e | e
      · have := hl'.1 z hz; omega
      · exact e
    · rcases List.mem_cons.1 ((h z).2 (by simp [hz])) with e | e
      · have := hm'.1 z hz; omega
      · exact e
theorem putI_mem : ∀ (l : List Int) (x z : Int), z ∈ putI l x ↔ z = x ∨ z ∈ l
  | [], x, z => by simp [putI]
  | y :: r, x, z => by
    simp only [putI]
    split
    · rw [List.mem_cons, putI_mem r x z, List.mem_cons]
      constructor <;> rintro (h | h | h) <;> simp [h]
    · split
      · rename_i h; subst h; simp
      · simp
theorem putI_strict : ∀ {l : List Int} (x : Int), l.Pairwise (· < ·) → (putI l x).Pairwise (· < ·)
  | [], x, _ => by simp [putI]
  | y :: r, x, h => by
    have h' := List.pairwise_cons.1 h
    simp only [putI]
    split
    · rename_i hy
      refine List.pairwise_cons.2 ⟨fun z hz => ?_, putI_strict x h'.2⟩
      rcases (putI_mem r x z).1 hz with rfl | hz
      · exact hy
      · exact h'.1 z hz
    · rename_i hy
      split
      · exact h
      · rename_i hne
        refine List.pairwise_cons.2 ⟨fun z hz => ?_, h⟩
        rcases List.mem_cons.1 hz with rfl | hz
        · omega
        · have := h'.1 z hz; omega
def putAll (l : List Int) (xs : List Int) : List Int := xs.foldl putI l
theorem putAll_mem : ∀ (xs l : List Int) (z : Int), z ∈ putAll l xs ↔ z ∈ l ∨ z ∈ xs
  | [], l, z => by simp [putAll]
  | x :: xs, l, z => by
    have := putAll_mem xs (putI l x) z
    unfold putAll at this ⊢
    rw [List.foldl_cons, this, putI_mem, List.mem_cons]
    constructor
    · rintro ((h | h) | h) <;> simp [h]
    · rintro (h | h | h) <;> simp [h]
theorem putAll_strict : ∀ (xs : List Int) {l : List Int}, l.Pairwise (· < ·) → (putAll l xs).Pairwise (· < ·)
  | [], l, h => h
  | x :: xs, l, h => putAll_strict xs (putI_strict x h)
theorem srt_strict {l : List Int} (h : l.Nodup) : (srt l).Pairwise (· < ·) := by
  have h1 : (srt l).Pairwise fun a b => decide (a ≤ b) = true := List.pairwise_mergeSort (fun a b c hab hbc => by simp at *; omega) (fun a b => by simp; omega) l
  have h2 : (srt l).Nodup := (srt_perm l).nodup_iff.2 h
  refine (h1.and h2).imp fun ⟨a, b⟩ => ?_
  simp at a
  omega
theorem putAll_srt {l : List Int} (h : l.Nodup) : putAll [] l = srt l :=
  strict_ext (putAll_strict l List.Pairwise.nil) (srt_strict h) fun z => by
    rw [putAll_mem, (srt_perm l).mem_iff]; simp

end Go.Proofs.Ytllcljajlemmaaa
/-
  Sums of games: the reference's moves.
-/
namespace Go.Proofs.Ytllcljajlemmaaa
open Go K
set_option linter.unusedSimpArgs false
set_option linter.unusedVariables false
set_option maxHeartbeats 1600000
set_option maxRecDepth 8000

def accV : List Int → AV
  | [] => nilV
  | y :: l => .sl false (ints (y :: l))
theorem accV_pure (l : List Int) : pureB (accV l) = true := by
  cases l with
  | nil => rfl
  | cons y l => simp only [accV, pureB]; exact ints_pure (y :: l)
theorem putI_ne (l : List Int) (x : Int) : ∃ y r, putI l x = y :: r := by
  cases l with
  | nil => exact ⟨_, _, rfl⟩
  | cons y r => simp only [putI]; split <;> (try split) <;> exact ⟨_, _, rfl⟩
theorem accV_put (l : List Int) (x : Int) : accV (putI l x) = .sl false (ints (putI l x)) := by
  obtain ⟨y, r, h⟩ := putI_ne l x
  rw [h]; rfl
theorem putA_ok (l : List Int) (x : Int) (hl : l.length ≤ 100000) : Ct Try.prog 91 [accV l, .int .i64 x] [] (accV (putI l x)) [] := by
  rw [accV_put]
  cases l with
  | nil =>
    intro γ w vs hI ha
    refine l1Put_ok [] x (by simp) γ w vs hI ⟨ha.1, fun i y hi => ?_⟩
    cases i with
    | succ i => exact ha.2 (i + 1) y (by simpa using hi)
    | zero =>
      simp at hi
      subst hi
      have := ha.2 0 nilV rfl
      generalize vs.getD 0 undef = v at this
      cases this
      exact .sl _ _ _ 0 0 0 (fun _ _ => undef) rfl (Nat.le_refl _) (by simp) (by simp) (by simp) (by simp)
  | cons y l => exact l1Put_ok (y :: l) x hl
theorem putAll_snoc (l d : List Int) (x : Int) : putAll l (d ++ [x]) = putI (putAll l d) x := by simp [putAll]
theorem putAll_len : ∀ (xs l : List Int), (putAll l xs).length ≤ l.length + xs.length
  | [], l => by simp [putAll]
  | x :: xs, l => by
    have h1 := putAll_len xs (putI l x)
    have h2 := putI_len l x
    simp only [putAll, List.foldl_cons, List.length_cons] at h1 ⊢
    omega
def sumL (one two : List Int) (i k n : Int) : List Int := one.map (fun x => x * n + k) ++ two.map fun y => i * n + y
theorem mul40 {x n : Int} (h0 : 0 ≤ x) (h1 : x ≤ 40) (h2 : 0 ≤ n) (h3 : n ≤ 40) : 0 ≤ x * n ∧ x * n ≤ 1600 := by
  refine ⟨Int.mul_nonneg h0 h2, ?_⟩
  have := Int.mul_le_mul h1 h3 h2 (by omega)
  omega
theorem gaSum_ok (one two : List Int) (i k n : Int) (h1 : one.length ≤ 1000) (h2 : two.length ≤ 1000) (b1 : ∀ x ∈ one, 0 ≤ x ∧ x ≤ 40) (b2 : ∀ x ∈ two, 0 ≤ x ∧ x ≤ 40) (hi : 0 ≤ i ∧ i ≤ 40) (hk : 0 ≤ k ∧ k ≤ 40) (hn : 0 ≤ n ∧ n ≤ 40) :
    Ct Try.prog 47 [.sl false (ints one), .sl false (ints two), .int .i64 i, .int .i64 k, .int .i64 n] [] (.sl false (ints (putAll [] (sumL one two i k n)))) [] := by
  refine Ct.by_ hmix [] Try.func47 rfl ?_
  simp only [run0, run1, run2, run3, run4, run5, run6, run7, run8, run9, run10, run11, run12, run13, run14, run15, run16, run17, run18, run19, run20, run21, run22, reduceCtorEq, Nat.reduceEqDiff, Nat.reduceAdd, Nat.reduceSub, Nat.reduceLeDiff, indexAddrA, indexRefA, appendA, strA, Nat.reduceMul, Nat.zero_mul, Nat.reduceMod, Int.reduceEq, Int.reduceLT, Int.reduceLE, Nat.reduceLT, Nat.lt_irrefl, Nat.reduceBEq, tys0, tys1, tys2, tys3, tys4, tys5, tys6, tys7, tys8, tys9, tys10, tys11, tys12, tys13, tys14, tys15, tys16, tys17, tys18, tys19, tys20, tys21, tys22, tys23, Try.ntmps47, Try.results47, ints_length]
  refine AWp.loop_inv (ι := PuS) (fun q => ⟨[.junk, .sl false (ints two), .int .i64 i, .int .i64 k, .int .i64 n, .junk, .junk, .junk, .junk, .junk, nilV, accV (putAll [] (q.d.map fun x => x * n + k)), .junk, .junk, .junk, .junk, .sl false (ints one), .int .i64 one.length, .int .i64 q.d.length, .junk, .junk, .junk, .junk, .junk, .junk, .junk, .junk, .junk, .junk, .junk, .junk, .junk, .junk, .junk, .junk, .junk, .junk, .junk, .junk, .junk, .junk, .junk, .junk, .junk, .junk], []⟩)
    (fun q => one = q.d ++ q.r) (fun q => q.r.length) ⟨[], one⟩ rfl ⟨by simp only [List.length_nil, Int.natCast_zero]; repeat constructor, rfl⟩ ?_
  rintro ⟨d, r⟩ ha
  refine W.sound hmix (E := []) ?_
  simp only at ha
  have hdl : d.length ≤ one.length := by rw [ha]; simp
  cases r with
  | cons x r =>
    obtain ⟨e1, e2, e5⟩ := int_split ha (by omega)
    have hx := b1 x (by rw [ha]; simp)
    have hm := mul40 hx.1 hx.2 hn.1 hn.2
    have w1 : IntKind.i64.wrap (x * n) = x * n := i64_id (by omega) (by omega)
    have w2 : IntKind.i64.wrap (x * n + k) = x * n + k := i64_id (by omega) (by omega)
    have hc := putA_ok (putAll [] (d.map fun x => x * n + k)) (x * n + k) (by
      have := putAll_len (d.map fun x => x * n + k) []
      simp at this; omega)
    have pa := accV_pure (putAll [] (d.map fun x => x * n + k))
    have es : putAll [] ((d ++ [x]).map fun x => x * n + k) = putI (putAll [] (d.map fun x => x * n + k)) (x * n + k) := by rw [List.map_append, List.map_cons, List.map_nil, putAll_snoc]
    simp only [run0, run1, run2, run3, run4, run5, run6, run7, run8, run9, run10, run11, run12, run13, run14, run15, run16, run17, run18, run19, run20, run21, run22, reduceCtorEq, Nat.reduceEqDiff, Nat.reduceAdd, Nat.reduceSub, Nat.reduceLeDiff, indexAddrA, indexRefA, appendA, strA, Nat.reduceMul, Nat.zero_mul, Nat.reduceMod, Int.reduceEq, Int.reduceLT, Int.reduceLE, Nat.reduceLT, Nat.lt_irrefl, Nat.reduceBEq, tys0, tys1, tys2, tys3, tys4, tys5, tys6, tys7, tys8, tys9, tys10, tys11, tys12, tys13, tys14, tys15, tys16, tys17, tys18, tys19, tys20, tys21, tys22, tys23, Try.ntmps47, Try.results47, ints_length, e1, e2, w1, w2, Int.toNat_natCast, Int.natCast_nonneg]
    refine RunL.callp rfl rfl ok_f91 hc (by simp only [pureL, pureB, pa, Bool.and_self]) rfl ?_
    simp only [run0, run1, run2, run3, run4, run5, run6, run7, run8, run9, run10, run11, run12, run13, run14, run15, run16, run17, run18, run19, run20, run21, run22, reduceCtorEq, Nat.reduceEqDiff, Nat.reduceAdd, Nat.reduceSub, Nat.reduceLeDiff, indexAddrA, indexRefA, appendA, strA, Nat.reduceMul, Nat.zero_mul, Nat.reduceMod, Int.reduceEq, Int.reduceLT, Int.reduceLE, Nat.reduceLT, Nat.lt_irrefl, Nat.reduceBEq, tys0, tys1, tys2, tys3, tys4, tys5, tys6, tys7, tys8, tys9, tys10, tys11, tys12, tys13, tys14, tys15, tys16, tys17, tys18, tys19, tys20, tys21, tys22, tys23, Try.ntmps47, Try.results47, e5]
    exact ⟨⟨d ++ [x], r⟩, by simp [ha], by simp, by simp only [es, List.length_append, List.length_cons, List.length_nil]; repeat constructor⟩
  | nil =>
    have e1 := int_end ha
    rw [List.append_nil] at ha
    subst ha
    simp only [run0, run1, run2, run3, run4, run5, run6, run7, run8, run9, run10, run11, run12, run13, run14, run15, run16, run17, run18, run19, run20, run21, run22, reduceCtorEq, Nat.reduceEqDiff, Nat.reduceAdd, Nat.reduceSub, Nat.reduceLeDiff, indexAddrA, indexRefA, appendA, strA, Nat.reduceMul, Nat.zero_mul, Nat.reduceMod, Int.reduceEq, Int.reduceLT, Int.reduceLE, Nat.reduceLT, Nat.lt_irrefl, Nat.reduceBEq, tys0, tys1, tys2, tys3, tys4, tys5, tys6, tys7, tys8, tys9, tys10, tys11, tys12, tys13, tys14, tys15, tys16, tys17, tys18, tys19, tys20, tys21, tys22, tys23, Try.ntmps47, Try.results47, ints_length, e1]
    refine AWp.loop_inv (ι := PuS) (fun q => ⟨[.junk, .junk, .int .i64 i, .int .i64 k, .int .i64 n, .junk, .junk, .junk, .junk, .junk, nilV, accV (putAll [] ((one.map fun x => x * n + k) ++ q.d.map fun y => i * n + y)), .junk, .junk, .junk, .junk, .junk, .junk, .junk, .junk, .junk, .junk, .junk, .junk, .junk, .junk, .junk, .junk, .junk, .junk, .sl false (ints two), .int .i64 two.length, .int .i64 q.d.length, .junk, .junk, .junk, .junk, .junk, .junk, .junk, .junk, .junk, .junk, .junk, .junk], []⟩)
      (fun q => two = q.d ++ q.r) (fun q => q.r.length) ⟨[], two⟩ rfl ⟨by simp only [List.length_nil, Int.natCast_zero, List.map_nil, List.append_nil]; repeat constructor, rfl⟩ ?_
    rintro ⟨d, r⟩ ha
    refine W.sound hmix (E := []) ?_
    simp only at ha
    have hdl : d.length ≤ two.length := by rw [ha]; simp
    cases r with
    | cons x r =>
      obtain ⟨e1, e2, e5⟩ := int_split ha (by omega)
      have hx := b2 x (by rw [ha]; simp)
      have hm := mul40 hi.1 hi.2 hn.1 hn.2
      have w1 : IntKind.i64.wrap (i * n) = i * n := i64_id (by omega) (by omega)
      have w2 : IntKind.i64.wrap (i * n + x) = i * n + x := i64_id (by omega) (by omega)
      have hc := putA_ok (putAll [] ((one.map fun x => x * n + k) ++ d.map fun y => i * n + y)) (i * n + x) (by
        have := putAll_len ((one.map fun x => x * n + k) ++ d.map fun y => i * n + y) []
        simp at this; omega)
      have pa := accV_pure (putAll [] ((one.map fun x => x * n + k) ++ d.map fun y => i * n + y))
      have es : putAll [] ((one.map fun x => x * n + k) ++ (d ++ [x]).map fun y => i * n + y) = putI (putAll [] ((one.map fun x => x * n + k) ++ d.map fun y => i * n + y)) (i * n + x) := by rw [List.map_append, List.map_cons, List.map_nil, ← List.append_assoc, putAll_snoc]
      simp only [run0, run1, run2, run3, run4, run5, run6, run7, run8, run9, run10, run11, run12, run13, run14, run15, run16, run17, run18, run19, run20, run21, run22, reduceCtorEq, Nat.reduceEqDiff, Nat.reduceAdd, Nat.reduceSub, Nat.reduceLeDiff, indexAddrA, indexRefA, appendA, strA, Nat.reduceMul, Nat.zero_mul, Nat.reduceMod, Int.reduceEq, Int.reduceLT, Int.reduceLE, Nat.reduceLT, Nat.lt_irrefl, Nat.reduceBEq, tys0, tys1, tys2, tys3, tys4, tys5, tys6, tys7, tys8, tys9, tys10, tys11, tys12, tys13, tys14, tys15, tys16, tys17, tys18, tys19, tys20, tys21, tys22, tys23, Try.ntmps47, Try.results47, ints_length, e1, e2, w1, w2, Int.toNat_natCast, Int.natCast_nonneg]
      refine RunL.callp rfl rfl ok_f91 hc (by simp only [pureL, pureB, pa, Bool.and_self]) rfl ?_
      simp only [run0, run1, run2, run3, run4, run5, run6, run7, run8, run9, run10, run11, run12, run13, run14, run15, run16, run17, run18, run19, run20, run21, run22, reduceCtorEq, Nat.reduceEqDiff, Nat.reduceAdd, Nat.reduceSub, Nat.reduceLeDiff, indexAddrA, indexRefA, appendA, strA, Nat.reduceMul, Nat.zero_mul, Nat.reduceMod, Int.reduceEq, Int.reduceLT, Int.reduceLE, Nat.reduceLT, Nat.lt_irrefl, Nat.reduceBEq, tys0, tys1, tys2, tys3, tys4, tys5, tys6, tys7, tys8, tys9, tys10, tys11, tys12, tys13, tys14, tys15, tys16, tys17, tys18, tys19, tys20, tys21, tys22, tys23, Try.ntmps47, Try.results47, e5]
      exact ⟨⟨d ++ [x], r⟩, by simp [ha], by simp, by simp only [es, List.length_append, List.length_cons, List.length_nil]; repeat constructor⟩
    | nil =>
      have e1 := int_end ha
      rw [List.append_nil] at ha
      subst ha
      simp only [run0, run1, run2, run3, run4, run5, run6, run7, run8, run9, run10, run11, run12, run13, run14, run15, run16, run17, run18, run19, run20, run21, run22, reduceCtorEq, Nat.reduceEqDiff, Nat.reduceAdd, Nat.reduceSub, Nat.reduceLeDiff, indexAddrA, indexRefA, appendA, strA, Nat.reduceMul, Nat.zero_mul, Nat.reduceMod, Int.reduceEq, Int.reduceLT, Int.reduceLE, Nat.reduceLT, Nat.lt_irrefl, Nat.reduceBEq, tys0, tys1, tys2, tys3, tys4, tys5, tys6, tys7, tys8, tys9, tys10, tys11, tys12, tys13, tys14, tys15, tys16, tys17, tys18, tys19, tys20, tys21, tys22, tys23, Try.ntmps47, Try.results47, ints_length, e1]
      show K.Fin [] [] (accV (putAll [] (sumL one two i k n))) [] (.sl false (ints (putAll [] (sumL one two i k n))))
      cases putAll [] (sumL one two i k n) with
      | nil => exact Fin.value (.nil false)
      | cons y l => exact Fin.value (.pur (.of (accV_pure (y :: l))))

end Go.Proofs.Ytllcljajlemmaaa
/-
  Sums of games: the reference.
-/
namespace Go.Proofs.Ytllcljajlemmaaa
open Go K
set_option linter.unusedSimpArgs false
set_option linter.unusedVariables false
set_option maxHeartbeats 1600000
set_option maxRecDepth 8000

def sumP (g h : List GP) (i k : Nat) : GP := (putAll [] (sumL (lefts g i) (lefts h k) i k h.length), putAll [] (sumL (rights g i) (rights h k) i k h.length))
def rowG (g h : List GP) (i k : Nat) : List GP := (List.range k).map (sumP g h i)
def addL (g h : List GP) : Nat → List GP
  | 0 => []
  | i + 1 => addL g h i ++ rowG g h i h.length
theorem rowG_succ (g h : List GP) (i k : Nat) : rowG g h i (k + 1) = rowG g h i k ++ [sumP g h i k] := by simp [rowG, List.range_succ]
theorem addL_len (g h : List GP) : ∀ i, (addL g h i).length = i * h.length
  | 0 => by simp [addL]
  | i + 1 => by simp [addL, addL_len g h i, rowG, Nat.add_mul]
def addB (g h : List GP) : Bool := gameB g && gameB h && decide (g.length * h.length ≤ 40)
def sumG (g h : List GP) : List GP := if addB g h then addL g h g.length else []
structure AdS where
  n : Nat
  X : List AObj
theorem sum_bounds {g : List GP} (hgb : gameB g = true) {i : Nat} (hi : i < g.length) : ((lefts g i).length ≤ 1000 ∧ ∀ x ∈ lefts g i, 0 ≤ x ∧ x ≤ 40) ∧ ((rights g i).length ≤ 1000 ∧ ∀ x ∈ rights g i, 0 ≤ x ∧ x ≤ 40) ∧ i ≤ 40 := by
  obtain ⟨h1, h2, h3, h4⟩ := gameB_ok hgb
  have hm : g.getD i ([], []) ∈ g := by
    rw [List.getD_eq_getElem?_getD, List.getElem?_eq_getElem hi]; exact List.getElem_mem _
  have := h4 _ hm
  refine ⟨⟨by show (g.getD i ([], [])).1.length ≤ 1000; omega, fun x hx => ?_⟩, ⟨by show (g.getD i ([], [])).2.length ≤ 1000; omega, fun x hx => ?_⟩, by omega⟩
  · have := lefts_lt h1 hx; omega
  · have := rights_lt h1 hx; omega
theorem specSumG_ok (g h : List GP) (lg : g.length ≤ 1048576) (lh : h.length ≤ 1048576) (sg : ∀ p ∈ g, smallP p) (sh : ∀ p ∈ h, smallP p) :
    Ct Try.prog 14 [.sl false (g.map posE), .sl false (h.map posE)] [] (.tup [.sl false ((sumG g h).map posE), .bool (addB g h)]) [] := by
  have pg := posL_pure g
  have ph := posL_pure h
  have none_ : addB g h = false → (AV.tup [.sl false ((sumG g h).map posE), .bool (addB g h)]) = .tup [.sl false [], .bool false] := fun e => by simp [sumG, e]
  refine Ct.by_ hmix [] Try.func14 rfl ?_
  simp only [run0, run1, run2, run3, run4, run5, run6, run7, run8, run9, run10, run11, run12, run13, run14, run15, run16, run17, run18, run19, run20, run21, run22, reduceCtorEq, Nat.reduceEqDiff, Nat.reduceAdd, Nat.reduceSub, Nat.reduceLeDiff, indexAddrA, indexRefA, appendA, strA, Nat.reduceMul, Nat.zero_mul, Nat.reduceMod, Int.reduceEq, Int.reduceLT, Int.reduceLE, Nat.reduceLT, Nat.lt_irrefl, Nat.reduceBEq, tys0, tys1, tys2, tys3, tys4, tys5, tys6, tys7, tys8, tys9, tys10, tys11, tys12, tys13, tys14, tys15, tys16, tys17, tys18, tys19, tys20, tys21, tys22, tys23, Try.ntmps14, Try.results14]
  refine RunL.callp rfl rfl ok_f46 (gaGood_ok g lg sg) (by simp only [pureL, pureB, pg, Bool.and_self]) rfl ?_
  cases h1 : gameB g
  · rw [none_ (by simp [addB, h1])]
    simp only [run0, run1, run2, run3, run4, run5, run6, run7, run8, run9, run10, run11, run12, run13, run14, run15, run16, run17, run18, run19, run20, run21, run22, reduceCtorEq, Nat.reduceEqDiff, Nat.reduceAdd, Nat.reduceSub, Nat.reduceLeDiff, indexAddrA, indexRefA, appendA, strA, Nat.reduceMul, Nat.zero_mul, Nat.reduceMod, Int.reduceEq, Int.reduceLT, Int.reduceLE, Nat.reduceLT, Nat.lt_irrefl, Nat.reduceBEq, tys0, tys1, tys2, tys3, tys4, tys5, tys6, tys7, tys8, tys9, tys10, tys11, tys12, tys13, tys14, tys15, tys16, tys17, tys18, tys19, tys20, tys21, tys22, tys23, Try.ntmps14, Try.results14]
    exact Fin.value (Vw.tup (.cons (Vw.nil false) (.cons (Vw.pur (Pur.bool _)) .nil)))
  simp only [run0, run1, run2, run3, run4, run5, run6, run7, run8, run9, run10, run11, run12, run13, run14, run15, run16, run17, run18, run19, run20, run21, run22, reduceCtorEq, Nat.reduceEqDiff, Nat.reduceAdd, Nat.reduceSub, Nat.reduceLeDiff, indexAddrA, indexRefA, appendA, strA, Nat.reduceMul, Nat.zero_mul, Nat.reduceMod, Int.reduceEq, Int.reduceLT, Int.reduceLE, Nat.reduceLT, Nat.lt_irrefl, Nat.reduceBEq, tys0, tys1, tys2, tys3, tys4, tys5, tys6, tys7, tys8, tys9, tys10, tys11, tys12, tys13, tys14, tys15, tys16, tys17, tys18, tys19, tys20, tys21, tys22, tys23, Try.ntmps14, Try.results14]
  refine RunL.callp rfl rfl ok_f46 (gaGood_ok h lh sh) (by simp only [pureL, pureB, ph, Bool.and_self]) rfl ?_
  cases h2 : gameB h
  · rw [none_ (by simp [addB, h1, h2])]
    simp only [run0, run1, run2, run3, run4, run5, run6, run7, run8, run9, run10, run11, run12, run13, run14, run15, run16, run17, run18, run19, run20, run21, run22, reduceCtorEq, Nat.reduceEqDiff, Nat.reduceAdd, Nat.reduceSub, Nat.reduceLeDiff, indexAddrA, indexRefA, appendA, strA, Nat.reduceMul, Nat.zero_mul, Nat.reduceMod, Int.reduceEq, Int.reduceLT, Int.reduceLE, Nat.reduceLT, Nat.lt_irrefl, Nat.reduceBEq, tys0, tys1, tys2, tys3, tys4, tys5, tys6, tys7, tys8, tys9, tys10, tys11, tys12, tys13, tys14, tys15, tys16, tys17, tys18, tys19, tys20, tys21, tys22, tys23, Try.ntmps14, Try.results14]
    exact Fin.value (Vw.tup (.cons (Vw.nil false) (.cons (Vw.pur (Pur.bool _)) .nil)))
  have G := gameB_ok h1
  have H := gameB_ok h2
  have hw : IntKind.i64.wrap ((g.length : Int) * (h.length : Int)) = (g.length : Int) * (h.length : Int) := by
    have := mul40 (x := (g.length : Int)) (n := (h.length : Int)) (by omega) (by omega) (by omega) (by omega)
    exact i64_id (by omega) (by omega)
  by_cases h3 : g.length * h.length ≤ 40
  case neg =>
    have c : (40 : Int) < (g.length : Int) * (h.length : Int) := by rw [← Int.natCast_mul]; omega
    rw [none_ (by simp [addB, h1, h2]; omega)]
    simp only [run0, run1, run2, run3, run4, run5, run6, run7, run8, run9, run10, run11, run12, run13, run14, run15, run16, run17, run18, run19, run20, run21, run22, reduceCtorEq, Nat.reduceEqDiff, Nat.reduceAdd, Nat.reduceSub, Nat.reduceLeDiff, indexAddrA, indexRefA, appendA, strA, Nat.reduceMul, Nat.zero_mul, Nat.reduceMod, Int.reduceEq, Int.reduceLT, Int.reduceLE, Nat.reduceLT, Nat.lt_irrefl, Nat.reduceBEq, tys0, tys1, tys2, tys3, tys4, tys5, tys6, tys7, tys8, tys9, tys10, tys11, tys12, tys13, tys14, tys15, tys16, tys17, tys18, tys19, tys20, tys21, tys22, tys23, Try.ntmps14, Try.results14, List.length_map, hw, c]
    exact Fin.value (Vw.tup (.cons (Vw.nil false) (.cons (Vw.pur (Pur.bool _)) .nil)))
  have c : ¬ ((40 : Int) < (g.length : Int) * (h.length : Int)) := by rw [← Int.natCast_mul]; omega
  have hB : addB g h = true := by simp [addB, h1, h2, h3]
  have hN : sumG g h = addL g h g.length := by simp [sumG, hB]
  rw [hN, hB]
  simp only [run0, run1, run2, run3, run4, run5, run6, run7, run8, run9, run10, run11, run12, run13, run14, run15, run16, run17, run18, run19, run20, run21, run22, reduceCtorEq, Nat.reduceEqDiff, Nat.reduceAdd, Nat.reduceSub, Nat.reduceLeDiff, indexAddrA, indexRefA, appendA, strA, Nat.reduceMul, Nat.zero_mul, Nat.reduceMod, Int.reduceEq, Int.reduceLT, Int.reduceLE, Nat.reduceLT, Nat.lt_irrefl, Nat.reduceBEq, tys0, tys1, tys2, tys3, tys4, tys5, tys6, tys7, tys8, tys9, tys10, tys11, tys12, tys13, tys14, tys15, tys16, tys17, tys18, tys19, tys20, tys21, tys22, tys23, Try.ntmps14, Try.results14, List.length_map, hw, c]
  refine AWp.nil 6 70 2 rfl ?_
  refine AWp.loop_inv (ι := AdS) (fun q => ⟨[.sl false (g.map posE), .sl false (h.map posE), .junk, .junk, nilV, .bool false, .ref 0 [] (addL g h q.n).length (addL g h q.n).length, .junk, .junk, .junk, .junk, .junk, .junk, .junk, .junk, .junk, .junk, .junk, .junk, .junk, .junk, .junk, .junk, .junk, .junk, .junk, .junk, .sl false (g.map posE), .int .i64 g.length, .int .i64 q.n, .junk, .junk, .junk, .junk, .junk, .junk, .junk, .junk, .junk, .junk, .junk, .junk, .junk, .junk, .junk, .junk, .junk, .junk, .junk, .junk, .junk, .junk, .junk, .junk, .junk, .junk, .junk, .junk, .junk, .junk, .junk, .junk, .junk, .junk, .junk, .junk], .vec 70 2 (addL g h q.n).length ((addL g h q.n).map posE) :: q.X⟩)
    (fun q => q.n ≤ g.length) (fun q => g.length - q.n) ⟨0, []⟩ (Nat.zero_le _) ⟨by simp only [Int.natCast_zero]; repeat constructor, rfl⟩ ?_
  rintro ⟨i, X⟩ hi
  refine W.sound hmix (E := []) ?_
  simp only at hi
  by_cases hin : i < g.length
  case neg =>
    obtain rfl : i = g.length := by omega
    simp only [run0, run1, run2, run3, run4, run5, run6, run7, run8, run9, run10, run11, run12, run13, run14, run15, run16, run17, run18, run19, run20, run21, run22, reduceCtorEq, Nat.reduceEqDiff, Nat.reduceAdd, Nat.reduceSub, Nat.reduceLeDiff, indexAddrA, indexRefA, appendA, strA, Nat.reduceMul, Nat.zero_mul, Nat.reduceMod, Int.reduceEq, Int.reduceLT, Int.reduceLE, Nat.reduceLT, Nat.lt_irrefl, Nat.reduceBEq, tys0, tys1, tys2, tys3, tys4, tys5, tys6, tys7, tys8, tys9, tys10, tys11, tys12, tys13, tys14, tys15, tys16, tys17, tys18, tys19, tys20, tys21, tys22, tys23, Try.ntmps14, Try.results14, Int.lt_irrefl]
    exact Fin.value (Vw.tup (.cons (Vw_poss (T := 70) rfl rfl rfl) (.cons (Vw.pur (Pur.bool _)) .nil)))
  have e1 : (i : Int) < (g.length : Int) := by omega
  have e2 := pos_at hin
  have e5 : IntKind.i64.wrap ((i : Int) + 1) = ((i + 1 : Nat) : Int) := by rw [i64_id (by omega) (by omega)]; simp
  simp only [run0, run1, run2, run3, run4, run5, run6, run7, run8, run9, run10, run11, run12, run13, run14, run15, run16, run17, run18, run19, run20, run21, run22, reduceCtorEq, Nat.reduceEqDiff, Nat.reduceAdd, Nat.reduceSub, Nat.reduceLeDiff, indexAddrA, indexRefA, appendA, strA, Nat.reduceMul, Nat.zero_mul, Nat.reduceMod, Int.reduceEq, Int.reduceLT, Int.reduceLE, Nat.reduceLT, Nat.lt_irrefl, Nat.reduceBEq, tys0, tys1, tys2, tys3, tys4, tys5, tys6, tys7, tys8, tys9, tys10, tys11, tys12, tys13, tys14, tys15, tys16, tys17, tys18, tys19, tys20, tys21, tys22, tys23, Try.ntmps14, Try.results14, e1, e2, List.length_map, List.getElem?_append_right, Nat.le_refl, Nat.sub_self, Int.toNat_natCast, Int.natCast_nonneg]
  refine AWp.loop_inv (ι := AdS) (fun q => ⟨[.sl false (g.map posE), .sl false (h.map posE), .junk, .junk, nilV, .bool false, .ref 0 [] (addL g h i ++ rowG g h i q.n).length (addL g h i ++ rowG g h i q.n).length, .int .i64 i, .ptr (X.length + 1) 0, .junk, .junk, .junk, .junk, .junk, .junk, .junk, .junk, .junk, .junk, .junk, .junk, .junk, .junk, .junk, .junk, .junk, .junk, .sl false (g.map posE), .int .i64 g.length, .int .i64 i, .junk, .junk, .junk, .junk, .sl false (h.map posE), .int .i64 h.length, .int .i64 q.n, .junk, .junk, .junk, .junk, .junk, .junk, .junk, .junk, .junk, .junk, .junk, .junk, .junk, .junk, .junk, .junk, .junk, .junk, .junk, .junk, .junk, .junk, .junk, .junk, .junk, .junk, .junk, .junk, .junk], .vec 70 2 (addL g h i ++ rowG g h i q.n).length ((addL g h i ++ rowG g h i q.n).map posE) :: q.X⟩)
    (fun q => q.n ≤ h.length ∧ q.X[X.length]? = some (.box 70 [.sl false (ints (lefts g i)), .sl false (ints (rights g i))])) (fun q => h.length - q.n) ⟨0, X ++ [.box 70 [.sl false (ints (lefts g i)), .sl false (ints (rights g i))]]⟩ ⟨Nat.zero_le _, by simp⟩ ⟨by simp only [Int.natCast_zero, rowG, List.range_zero, List.map_nil, List.append_nil]; repeat constructor, by simp [rowG]⟩ ?_
  rintro ⟨k, Y⟩ ⟨hk, hY⟩
  refine W.sound hmix (E := []) ?_
  simp only at hk hY
  by_cases hkn : k < h.length
  case neg =>
    obtain rfl : k = h.length := by omega
    simp only [run0, run1, run2, run3, run4, run5, run6, run7, run8, run9, run10, run11, run12, run13, run14, run15, run16, run17, run18, run19, run20, run21, run22, reduceCtorEq, Nat.reduceEqDiff, Nat.reduceAdd, Nat.reduceSub, Nat.reduceLeDiff, indexAddrA, indexRefA, appendA, strA, Nat.reduceMul, Nat.zero_mul, Nat.reduceMod, Int.reduceEq, Int.reduceLT, Int.reduceLE, Nat.reduceLT, Nat.lt_irrefl, Nat.reduceBEq, tys0, tys1, tys2, tys3, tys4, tys5, tys6, tys7, tys8, tys9, tys10, tys11, tys12, tys13, tys14, tys15, tys16, tys17, tys18, tys19, tys20, tys21, tys22, tys23, Try.ntmps14, Try.results14, Int.lt_irrefl, e5]
    exact ⟨⟨i + 1, Y⟩, by simp only; omega, by simp only; omega, by simp only [addL, List.length_append]; repeat constructor, by simp [addL]⟩
  have k1 : (k : Int) < (h.length : Int) := by omega
  have k2 := pos_at hkn
  have k5 : IntKind.i64.wrap ((k : Int) + 1) = ((k + 1 : Nat) : Int) := by rw [i64_id (by omega) (by omega)]; simp
  have hY2 : ∀ b, (Y ++ [b])[X.length]? = some (.box 70 [.sl false (ints (lefts g i)), .sl false (ints (rights g i))]) := fun b => by
    rw [List.getElem?_append_left (List.getElem?_eq_some_iff.1 hY).1]; exact hY
  have hY3 : ∀ b, (Y ++ [b])[Y.length]? = some b := fun b => by rw [List.getElem?_append_right (Nat.le_refl _), Nat.sub_self]; rfl
  have hY4 : ∀ b c, (Y ++ [b]).set Y.length c = Y ++ [c] := fun b c => by rw [List.set_append_right _ _ (Nat.le_refl _), Nat.sub_self]; rfl
  obtain ⟨bl, br, bi⟩ := sum_bounds h1 hin
  obtain ⟨cl, cr, ck⟩ := sum_bounds h2 hkn
  have s1 := gaSum_ok (lefts g i) (lefts h k) i k h.length bl.1 cl.1 bl.2 cl.2 ⟨by omega, by omega⟩ ⟨by omega, by omega⟩ ⟨by omega, by omega⟩
  have s2 := gaSum_ok (rights g i) (rights h k) i k h.length br.1 cr.1 br.2 cr.2 ⟨by omega, by omega⟩ ⟨by omega, by omega⟩ ⟨by omega, by omega⟩
  have hlen : (addL g h i ++ rowG g h i k).length ≤ 2000 := by
    rw [List.length_append, addL_len]
    have : i * h.length ≤ g.length * h.length := Nat.mul_le_mul_right _ (by omega)
    simp [rowG]; omega
  have f3 : (addL g h i ++ rowG g h i k).length + 1 ≤ 137438953472 := by omega
  have f4 := posL_noOwn (addL g h i ++ rowG g h i k)
  have es : addL g h i ++ rowG g h i (k + 1) = (addL g h i ++ rowG g h i k) ++ [sumP g h i k] := by rw [rowG_succ, List.append_assoc]
  generalize hR : addL g h i ++ rowG g h i k = R at *
  simp only [run0, run1, run2, run3, run4, run5, run6, run7, run8, run9, run10, run11, run12, run13, run14, run15, run16, run17, run18, run19, run20, run21, run22, reduceCtorEq, Nat.reduceEqDiff, Nat.reduceAdd, Nat.reduceSub, Nat.reduceLeDiff, indexAddrA, indexRefA, appendA, strA, Nat.reduceMul, Nat.zero_mul, Nat.reduceMod, Int.reduceEq, Int.reduceLT, Int.reduceLE, Nat.reduceLT, Nat.lt_irrefl, Nat.reduceBEq, tys0, tys1, tys2, tys3, tys4, tys5, tys6, tys7, tys8, tys9, tys10, tys11, tys12, tys13, tys14, tys15, tys16, tys17, tys18, tys19, tys20, tys21, tys22, tys23, Try.ntmps14, Try.results14, k1, k2, hY2, hY3, hY4, List.length_map, Int.toNat_natCast, Int.natCast_nonneg]
  refine ⟨by kernel_rfl, ?_⟩
  refine RunL.callp rfl rfl ok_f47 s1 (by simp only [pureL, pureB, ints_pure, Bool.and_self]) rfl ?_
  simp only [run0, run1, run2, run3, run4, run5, run6, run7, run8, run9, run10, run11, run12, run13, run14, run15, run16, run17, run18, run19, run20, run21, run22, reduceCtorEq, Nat.reduceEqDiff, Nat.reduceAdd, Nat.reduceSub, Nat.reduceLeDiff, indexAddrA, indexRefA, appendA, strA, Nat.reduceMul, Nat.zero_mul, Nat.reduceMod, Int.reduceEq, Int.reduceLT, Int.reduceLE, Nat.reduceLT, Nat.lt_irrefl, Nat.reduceBEq, tys0, tys1, tys2, tys3, tys4, tys5, tys6, tys7, tys8, tys9, tys10, tys11, tys12, tys13, tys14, tys15, tys16, tys17, tys18, tys19, tys20, tys21, tys22, tys23, Try.ntmps14, Try.results14, hY2, hY3, hY4, List.length_map, Int.toNat_natCast, Int.natCast_nonneg]
  refine RunL.callp rfl rfl ok_f47 s2 (by simp only [pureL, pureB, ints_pure, Bool.and_self]) rfl ?_
  simp only [run0, run1, run2, run3, run4, run5, run6, run7, run8, run9, run10, run11, run12, run13, run14, run15, run16, run17, run18, run19, run20, run21, run22, reduceCtorEq, Nat.reduceEqDiff, Nat.reduceAdd, Nat.reduceSub, Nat.reduceLeDiff, indexAddrA, indexRefA, appendA, strA, Nat.reduceMul, Nat.zero_mul, Nat.reduceMod, Int.reduceEq, Int.reduceLT, Int.reduceLE, Nat.reduceLT, Nat.lt_irrefl, Nat.reduceBEq, tys0, tys1, tys2, tys3, tys4, tys5, tys6, tys7, tys8, tys9, tys10, tys11, tys12, tys13, tys14, tys15, tys16, tys17, tys18, tys19, tys20, tys21, tys22, tys23, Try.ntmps14, Try.results14, f3, f4, k5, List.length_map]
  have lenS : (addL g h i).length + (rowG g h i (k + 1)).length = R.length + 1 := by rw [← List.length_append, es]; simp
  exact ⟨⟨k + 1, Y ++ [.box 70 [.sl false (ints (lefts h k)), .sl false (ints (rights h k))]]⟩, ⟨by simp only; omega, hY2 _⟩, by simp only; omega, by simp only [List.length_append, lenS]; repeat constructor, by simp only [List.length_append, lenS]; rw [es, List.map_append]; simp [sumP, posE]⟩

end Go.Proofs.Ytllcljajlemmaaa
/-
  Sums of games: the program's moves.
-/
namespace Go.Proofs.Ytllcljajlemmaaa
open Go K
set_option linter.unusedSimpArgs false
set_option linter.unusedVariables false
set_option maxHeartbeats 1600000
set_option maxRecDepth 8000

theorem sideC_ok (one two : List Int) (i k n : Int) (h1 : one.length ≤ 1000) (h2 : two.length ≤ 1000) (b1 : ∀ x ∈ one, 0 ≤ x ∧ x ≤ 40) (b2 : ∀ x ∈ two, 0 ≤ x ∧ x ≤ 40) (hi : 0 ≤ i ∧ i ≤ 40) (hk : 0 ≤ k ∧ k ≤ 40) (hn : 0 ≤ n ∧ n ≤ 40)
    (hnd : (sumL one two i k n).Nodup) (L : List AObj) (b : Nat) (hb : L[b]? = some (.box 3 [.int .i64 n])) :
    Ct Try.prog 50 [.sl false (ints one), .sl false (ints two), .int .i64 i, .int .i64 k, .ptr b 0] L (.ref L.length [] (sumL one two i k n).length (sumL one two i k n).length) (L ++ [.vec 3 1 (sumL one two i k n).length (ints (srt (sumL one two i k n)))]) := by
  have hbl := (List.getElem?_eq_some_iff.1 hb).1
  have gb : ∀ o, (L ++ [o])[b]? = some (.box 3 [.int .i64 n]) := fun o => by rw [List.getElem?_append_left hbl]; exact hb
  have gr : ∀ o, (L ++ [o])[L.length]? = some o := fun o => by rw [List.getElem?_append_right (Nat.le_refl _), Nat.sub_self]; rfl
  have gs : ∀ o o', (L ++ [o]).set L.length o' = L ++ [o'] := fun o o' => by rw [List.set_append_right _ _ (Nat.le_refl _), Nat.sub_self]; rfl
  refine Ct.by_ hmix [] Try.func50 rfl ?_
  simp only [run0, run1, run2, run3, run4, run5, run6, run7, run8, run9, run10, run11, run12, run13, run14, run15, run16, run17, run18, run19, run20, run21, run22, reduceCtorEq, Nat.reduceEqDiff, Nat.reduceAdd, Nat.reduceSub, Nat.reduceLeDiff, indexAddrA, indexRefA, appendA, strA, Nat.reduceMul, Nat.zero_mul, Nat.reduceMod, Int.reduceEq, Int.reduceLT, Int.reduceLE, Nat.reduceLT, Nat.lt_irrefl, Nat.reduceBEq, tys0, tys1, tys2, tys3, tys4, tys5, tys6, tys7, tys8, tys9, tys10, tys11, tys12, tys13, tys14, tys15, tys16, tys17, tys18, tys19, tys20, tys21, tys22, tys23, Try.ntmps50, Try.results50, ints_length]
  refine AWp.loop_inv (ι := PuS) (fun q => ⟨[.junk, .sl false (ints two), .int .i64 i, .int .i64 k, .ptr b 0, .junk, .junk, .junk, .junk, nilV, .ref L.length [] q.d.length q.d.length, .junk, .junk, .junk, .junk, .junk, .sl false (ints one), .int .i64 one.length, .int .i64 q.d.length, .junk, .junk, .junk, .junk, .junk, .junk, .junk, .junk, .junk, .junk, .junk, .junk, .junk, .junk, .junk, .junk, .junk, .junk, .junk, .junk, .junk, .junk, .junk, .junk, .junk, .junk, .junk, .junk, .junk], L ++ [.vec 3 1 q.d.length (ints (q.d.map fun x => x * n + k))]⟩)
    (fun q => one = q.d ++ q.r) (fun q => q.r.length) ⟨[], one⟩ rfl ⟨by simp only [List.length_nil, Int.natCast_zero]; repeat constructor, rfl⟩ ?_
  rintro ⟨d, r⟩ ha
  refine W.sound hmix (E := []) ?_
  simp only at ha
  have hdl : d.length ≤ one.length := by rw [ha]; simp
  cases r with
  | cons x r =>
    obtain ⟨e1, e2, e5⟩ := int_split ha (by omega)
    have hx := b1 x (by rw [ha]; simp)
    have hm := mul40 hx.1 hx.2 hn.1 hn.2
    have w1 : IntKind.i64.wrap (x * n) = x * n := i64_id (by omega) (by omega)
    have w2 : IntKind.i64.wrap (x * n + k) = x * n + k := i64_id (by omega) (by omega)
    have f3 : d.length + 1 ≤ 137438953472 := by omega
    have f4 := ints_noOwn (d.map fun x => x * n + k)
    have f5 : (ints (d.map fun x => x * n + k)).length = d.length := by simp [ints]
    simp only [run0, run1, run2, run3, run4, run5, run6, run7, run8, run9, run10, run11, run12, run13, run14, run15, run16, run17, run18, run19, run20, run21, run22, reduceCtorEq, Nat.reduceEqDiff, Nat.reduceAdd, Nat.reduceSub, Nat.reduceLeDiff, indexAddrA, indexRefA, appendA, strA, Nat.reduceMul, Nat.zero_mul, Nat.reduceMod, Int.reduceEq, Int.reduceLT, Int.reduceLE, Nat.reduceLT, Nat.lt_irrefl, Nat.reduceBEq, tys0, tys1, tys2, tys3, tys4, tys5, tys6, tys7, tys8, tys9, tys10, tys11, tys12, tys13, tys14, tys15, tys16, tys17, tys18, tys19, tys20, tys21, tys22, tys23, Try.ntmps50, Try.results50, ints_length, e1, e2, e5, w1, w2, gb, gr, gs, f3, f4, f5, Int.toNat_natCast, Int.natCast_nonneg]
    exact ⟨⟨d ++ [x], r⟩, by simp [ha], by simp, by simp only [List.length_append, List.length_cons, List.length_nil]; repeat constructor, by simp [ints]⟩
  | nil =>
    have e1 := int_end ha
    rw [List.append_nil] at ha
    subst ha
    simp only [run0, run1, run2, run3, run4, run5, run6, run7, run8, run9, run10, run11, run12, run13, run14, run15, run16, run17, run18, run19, run20, run21, run22, reduceCtorEq, Nat.reduceEqDiff, Nat.reduceAdd, Nat.reduceSub, Nat.reduceLeDiff, indexAddrA, indexRefA, appendA, strA, Nat.reduceMul, Nat.zero_mul, Nat.reduceMod, Int.reduceEq, Int.reduceLT, Int.reduceLE, Nat.reduceLT, Nat.lt_irrefl, Nat.reduceBEq, tys0, tys1, tys2, tys3, tys4, tys5, tys6, tys7, tys8, tys9, tys10, tys11, tys12, tys13, tys14, tys15, tys16, tys17, tys18, tys19, tys20, tys21, tys22, tys23, Try.ntmps50, Try.results50, ints_length, e1]
    refine AWp.loop_inv (ι := PuS) (fun q => ⟨[.junk, .junk, .int .i64 i, .junk, .ptr b 0, .junk, .junk, .junk, .junk, nilV, .ref L.length [] (one.length + q.d.length) (one.length + q.d.length), .junk, .junk, .junk, .junk, .junk, .junk, .junk, .junk, .junk, .junk, .junk, .junk, .junk, .junk, .junk, .junk, .junk, .junk, .junk, .junk, .sl false (ints two), .int .i64 two.length, .int .i64 q.d.length, .junk, .junk, .junk, .junk, .junk, .junk, .junk, .junk, .junk, .junk, .junk, .junk, .junk, .junk], L ++ [.vec 3 1 (one.length + q.d.length) (ints ((one.map fun x => x * n + k) ++ q.d.map fun y => i * n + y))]⟩)
      (fun q => two = q.d ++ q.r) (fun q => q.r.length) ⟨[], two⟩ rfl ⟨by simp only [List.length_nil, Int.natCast_zero, Nat.add_zero]; repeat constructor, by simp⟩ ?_
    rintro ⟨d, r⟩ ha
    refine W.sound hmix (E := []) ?_
    simp only at ha
    have hdl : d.length ≤ two.length := by rw [ha]; simp
    cases r with
    | cons x r =>
      obtain ⟨e1, e2, e5⟩ := int_split ha (by omega)
      have hx := b2 x (by rw [ha]; simp)
      have hm := mul40 hi.1 hi.2 hn.1 hn.2
      have w1 : IntKind.i64.wrap (i * n) = i * n := i64_id (by omega) (by omega)
      have w2 : IntKind.i64.wrap (i * n + x) = i * n + x := i64_id (by omega) (by omega)
      have f3 : one.length + d.length + 1 ≤ 137438953472 := by omega
      have f4 := ints_noOwn ((one.map fun x => x * n + k) ++ d.map fun y => i * n + y)
      have f5 : (ints ((one.map fun x => x * n + k) ++ d.map fun y => i * n + y)).length = one.length + d.length := by simp [ints]
      generalize hQ : ints ((one.map fun x => x * n + k) ++ d.map fun y => i * n + y) = Q at *
      simp only [run0, run1, run2, run3, run4, run5, run6, run7, run8, run9, run10, run11, run12, run13, run14, run15, run16, run17, run18, run19, run20, run21, run22, reduceCtorEq, Nat.reduceEqDiff, Nat.reduceAdd, Nat.reduceSub, Nat.reduceLeDiff, indexAddrA, indexRefA, appendA, strA, Nat.reduceMul, Nat.zero_mul, Nat.reduceMod, Int.reduceEq, Int.reduceLT, Int.reduceLE, Nat.reduceLT, Nat.lt_irrefl, Nat.reduceBEq, tys0, tys1, tys2, tys3, tys4, tys5, tys6, tys7, tys8, tys9, tys10, tys11, tys12, tys13, tys14, tys15, tys16, tys17, tys18, tys19, tys20, tys21, tys22, tys23, Try.ntmps50, Try.results50, ints_length, e1, e2, e5, w1, w2, gb, gr, gs, f3, f4, f5, Int.toNat_natCast, Int.natCast_nonneg]
      exact ⟨⟨d ++ [x], r⟩, by simp [ha], by simp, by simp only [List.length_append, List.length_cons, List.length_nil]; repeat constructor, by rw [← hQ]; simp [ints, Nat.add_assoc]⟩
    | nil =>
      have e1 := int_end ha
      rw [List.append_nil] at ha
      subst ha
      have hlen : (sumL one two i k n).length = one.length + two.length := by simp [sumL]
      have hc := implSet_ok (sumL one two i k n) hnd L.length (one.length + two.length) (L ++ [.vec 3 1 (one.length + two.length) (ints (sumL one two i k n))]) (gr _) (by rw [hlen]; omega)
      rw [gs, hlen] at hc
      rw [hlen]
      simp only [run0, run1, run2, run3, run4, run5, run6, run7, run8, run9, run10, run11, run12, run13, run14, run15, run16, run17, run18, run19, run20, run21, run22, reduceCtorEq, Nat.reduceEqDiff, Nat.reduceAdd, Nat.reduceSub, Nat.reduceLeDiff, indexAddrA, indexRefA, appendA, strA, Nat.reduceMul, Nat.zero_mul, Nat.reduceMod, Int.reduceEq, Int.reduceLT, Int.reduceLE, Nat.reduceLT, Nat.lt_irrefl, Nat.reduceBEq, tys0, tys1, tys2, tys3, tys4, tys5, tys6, tys7, tys8, tys9, tys10, tys11, tys12, tys13, tys14, tys15, tys16, tys17, tys18, tys19, tys20, tys21, tys22, tys23, Try.ntmps50, Try.results50, ints_length, e1]
      refine RunL.callM rfl rfl ok_f51 rfl rfl hc rfl ?_
      simp only [run0, run1, run2, run3, run4, run5, run6, run7, run8, run9, run10, run11, run12, run13, run14, run15, run16, run17, run18, run19, run20, run21, run22, reduceCtorEq, Nat.reduceEqDiff, Nat.reduceAdd, Nat.reduceSub, Nat.reduceLeDiff, indexAddrA, indexRefA, appendA, strA, Nat.reduceMul, Nat.zero_mul, Nat.reduceMod, Int.reduceEq, Int.reduceLT, Int.reduceLE, Nat.reduceLT, Nat.lt_irrefl, Nat.reduceBEq, tys0, tys1, tys2, tys3, tys4, tys5, tys6, tys7, tys8, tys9, tys10, tys11, tys12, tys13, tys14, tys15, tys16, tys17, tys18, tys19, tys20, tys21, tys22, tys23, Try.ntmps50, Try.results50]
      exact Fin.own rfl rfl

end Go.Proofs.Ytllcljajlemmaaa
/-
  Sums of games: the program.
-/
namespace Go.Proofs.Ytllcljajlemmaaa
open Go K
set_option linter.unusedSimpArgs false
set_option linter.unusedVariables false
set_option maxHeartbeats 3200000
set_option maxRecDepth 8000

theorem ris_gt {n : Int} : ∀ {l : List Int} {q : Int}, ris n (some q) l = true → ∀ x ∈ l, q < x
  | [], _, _, x, hx => by cases hx
  | k :: r, q, h, x, hx => by
    rw [ris_cons] at h
    simp only [Bool.and_eq_true, decide_eq_true_eq] at h
    rcases List.mem_cons.1 hx with rfl | hx
    · exact h.1.2
    · have := ris_gt h.2 x hx
      omega
theorem ris_strict {n : Int} : ∀ {l : List Int} {p : Option Int}, ris n p l = true → l.Pairwise (· < ·)
  | [], _, _ => List.Pairwise.nil
  | k :: r, p, h => by
    rw [ris_cons] at h
    simp only [Bool.and_eq_true] at h
    exact List.pairwise_cons.2 ⟨ris_gt h.2, ris_strict h.2⟩
theorem game_strict {g : List GP} (hgb : gameB g = true) {i : Nat} (hi : i < g.length) : (lefts g i).Pairwise (· < ·) ∧ (rights g i).Pairwise (· < ·) := by
  have h1 : gmI 0 g = true := by unfold gameB at hgb; simp only [Bool.and_eq_true] at hgb; exact hgb.1
  have h2 := gmI_at h1 i (g.getD i ([], [])) (by rw [List.getD_eq_getElem?_getD, List.getElem?_eq_getElem hi]; rfl)
  exact ⟨ris_strict h2.1, ris_strict h2.2⟩
theorem sum_nodup {one two : List Int} {i k n : Int} (s1 : one.Pairwise (· < ·)) (s2 : two.Pairwise (· < ·)) (b1 : ∀ x ∈ one, 0 ≤ x ∧ x < i) (b2 : ∀ y ∈ two, 0 ≤ y ∧ y < k) (hk : 0 ≤ k) (hkn : k < n) : (sumL one two i k n).Nodup := by
  have hn : 0 < n := by omega
  unfold sumL
  refine List.nodup_append.2 ⟨?_, ?_, fun a ha b hb => ?_⟩
  · unfold List.Nodup
    rw [List.pairwise_map]
    refine s1.imp fun {a b} h e => ?_
    have e2 : a * n = b * n := by omega
    exact absurd (Int.eq_of_mul_eq_mul_right (by omega) e2) (by omega)
  · unfold List.Nodup
    rw [List.pairwise_map]
    exact s2.imp fun h e => by omega
  · obtain ⟨x, hx, rfl⟩ := List.mem_map.1 ha
    obtain ⟨y, hy, rfl⟩ := List.mem_map.1 hb
    have hx' := b1 x hx
    have hy' := b2 y hy
    have : (x + 1) * n ≤ i * n := Int.mul_le_mul_of_nonneg_right (by omega) (by omega)
    rw [Int.add_mul, Int.one_mul] at this
    omega
theorem sums_nodup {g h : List GP} (hg : gameB g = true) (hh : gameB h = true) {i k : Nat} (hi : i < g.length) (hk : k < h.length) :
    (sumL (lefts g i) (lefts h k) i k h.length).Nodup ∧ (sumL (rights g i) (rights h k) i k h.length).Nodup := by
  obtain ⟨a1, a2⟩ := game_strict hg hi
  obtain ⟨c1, c2⟩ := game_strict hh hk
  have G := (gameB_ok hg).1
  have H := (gameB_ok hh).1
  exact ⟨sum_nodup a1 c1 (fun x hx => lefts_lt G hx) (fun y hy => lefts_lt H hy) (by omega) (by omega), sum_nodup a2 c2 (fun x hx => rights_lt G hx) (fun y hy => rights_lt H hy) (by omega) (by omega)⟩
/-! ### what the loops leave -/
structure AdM where
  es : List AV
  S : List Nat
  Y : List AObj
def posB (g : List GP) (i : Nat) : AObj := .box 70 [.sl false (ints (lefts g i)), .sl false (ints (rights g i))]
def mvR (one two : List Int) (i k n : Nat) : AObj := .vec 3 1 (sumL one two i k n).length (ints (srt (sumL one two i k n)))
def stepK (g h : List GP) (i : Nat) (s : AdM) (k : Nat) : AdM :=
  ⟨s.es ++ [.agg [.ref (s.Y.length + 3) [] (sumL (lefts g i) (lefts h k) i k h.length).length (sumL (lefts g i) (lefts h k) i k h.length).length, .ref (s.Y.length + 4) [] (sumL (rights g i) (rights h k) i k h.length).length (sumL (rights g i) (rights h k) i k h.length).length]],
   s.S ++ [s.Y.length + 3, s.Y.length + 4], s.Y ++ [posB h k, mvR (lefts g i) (lefts h k) i k h.length, mvR (rights g i) (rights h k) i k h.length]⟩
def runK (g h : List GP) (i : Nat) (s : AdM) : Nat → AdM
  | 0 => s
  | k + 1 => stepK g h i (runK g h i s k) k
def runI (g h : List GP) : Nat → AdM
  | 0 => ⟨[], [], []⟩
  | i + 1 => let s := runI g h i; runK g h i ⟨s.es, s.S, s.Y ++ [posB g i]⟩ h.length
def memA (h : List GP) (s : AdM) : List AObj := .box 3 [.int .i64 h.length] :: .vec 70 2 s.es.length s.es :: s.Y
structure AdI (h : List GP) (l : List GP) (s : AdM) : Prop where
  own : OwnPE (memA h s) l s.es s.S
  nd : s.S.Nodup
  rng : ∀ j ∈ s.S, 2 ≤ j ∧ j < s.Y.length + 2
theorem AdI.more {h l : List GP} {s : AdM} (I : AdI h l s) (X : List AObj) : AdI h l ⟨s.es, s.S, s.Y ++ X⟩ :=
  ⟨I.own.mono (fun j hj _ _ _ _ hq => by
    show (memA h ⟨s.es, s.S, s.Y ++ X⟩)[j]? = _
    have : memA h ⟨s.es, s.S, s.Y ++ X⟩ = memA h s ++ X := rfl
    rw [this, List.getElem?_append_left (List.getElem?_eq_some_iff.1 hq).1]; exact hq), I.nd, fun j hj => by
    have := I.rng j hj
    simp only [List.length_append]; omega⟩
theorem AdI.step {g h : List GP} (hg : gameB g = true) (hh : gameB h = true) {i k : Nat} (hi : i < g.length) (hk : k < h.length) {l : List GP} {s : AdM} (I : AdI h l s) : AdI h (l ++ [sumP g h i k]) (stepK g h i s k) := by
  obtain ⟨n1, n2⟩ := sums_nodup hg hh hi hk
  have e1 : (sumP g h i k).1 = srt (sumL (lefts g i) (lefts h k) i k h.length) := putAll_srt n1
  have e2 : (sumP g h i k).2 = srt (sumL (rights g i) (rights h k) i k h.length) := putAll_srt n2
  refine ⟨?_, ?_, ?_⟩
  · have hm : Kept s.S (memA h s) (memA h (stepK g h i s k)) := fun j hj _ _ _ _ hq => by
      obtain ⟨h2, h3⟩ := I.rng j hj
      obtain ⟨j', rfl⟩ : ∃ j', j = j' + 2 := ⟨j - 2, by omega⟩
      simp only [memA, stepK, List.getElem?_cons_succ] at hq ⊢
      rw [List.getElem?_append_left (by omega)]; exact hq
    have := (I.own.mono hm).snoc (p := sumP g h i k) (S1 := [s.Y.length + 3]) (S2 := [s.Y.length + 4])
      (.inr ⟨s.Y.length + 3, (sumL (lefts g i) (lefts h k) i k h.length).length, by rw [e1, srt_len], by
        rw [e1]
        simp only [memA, stepK, List.getElem?_cons_succ]
        rw [List.getElem?_append_right (by omega)]
        simp [mvR], rfl⟩)
      (.inr ⟨s.Y.length + 4, (sumL (rights g i) (rights h k) i k h.length).length, by rw [e2, srt_len], by
        rw [e2]
        simp only [memA, stepK, List.getElem?_cons_succ]
        rw [List.getElem?_append_right (by omega)]
        simp [mvR], rfl⟩)
    exact this
  · refine List.nodup_append.2 ⟨I.nd, by simp, fun u hu v hv => ?_⟩
    have := I.rng u hu
    simp at hv
    omega
  · intro j hj
    simp only [stepK, List.mem_append, List.mem_cons, List.not_mem_nil, or_false, List.length_append, List.length_cons, List.length_nil] at hj ⊢
    rcases hj with hj | hj
    · have := I.rng j hj; omega
    · omega
theorem runK_inv {g h : List GP} (hg : gameB g = true) (hh : gameB h = true) {i : Nat} (hi : i < g.length) {l : List GP} {s : AdM} (I : AdI h l s) : ∀ k, k ≤ h.length → AdI h (l ++ rowG g h i k) (runK g h i s k)
  | 0, _ => by simpa [rowG, runK] using I
  | k + 1, hk => by
    rw [rowG_succ, ← List.append_assoc]
    exact (runK_inv hg hh hi I k (by omega)).step hg hh hi (by omega)
theorem runI_inv {g h : List GP} (hg : gameB g = true) (hh : gameB h = true) : ∀ i, i ≤ g.length → AdI h (addL g h i) (runI g h i)
  | 0, _ => ⟨⟨rfl, rfl⟩, List.nodup_nil, fun j hj => by cases hj⟩
  | i + 1, hi => runK_inv hg hh (by omega) ((runI_inv hg hh i (by omega)).more [posB g i]) h.length (Nat.le_refl _)

end Go.Proofs.Ytllcljajlemmaaa
/-
  Sums of games: the program, walked.
-/
namespace Go.Proofs.Ytllcljajlemmaaa
open Go K
set_option linter.unusedSimpArgs false
set_option linter.unusedVariables false
set_option maxHeartbeats 3200000
set_option maxRecDepth 8000

theorem runK_Y (g h : List GP) (i : Nat) (s : AdM) : ∀ k, ∃ Z, (runK g h i s k).Y = s.Y ++ Z
  | 0 => ⟨[], by simp [runK]⟩
  | k + 1 => by
    obtain ⟨Z, hZ⟩ := runK_Y g h i s k
    exact ⟨Z ++ [posB h k, mvR (lefts g i) (lefts h k) i k h.length, mvR (rights g i) (rights h k) i k h.length], by simp [runK, stepK, hZ]⟩
theorem implSumG_ok (g h : List GP) (lg : g.length ≤ 1048576) (lh : h.length ≤ 1048576) (sg : ∀ p ∈ g, smallP p) (sh : ∀ p ∈ h, smallP p) :
    ∃ x M, Ct Try.prog 16 [.sl false (g.map posE), .sl false (h.map posE)] [] (.tup [x, .bool (addB g h)]) M ∧ ∃ S, OwnP M (sumG g h) x S ∧ S.Nodup ∧ M.all okSO = true := by
  have pg := posL_pure g
  have ph := posL_pure h
  cases hB : addB g h
  · refine ⟨nilV, ?_⟩
    apply ex1
    · apply Ct.by_ hmix [8000000, 5999990] Try.func16 rfl
      simp only [run0, run1, run2, run3, run4, run5, run6, run7, run8, run9, run10, run11, run12, run13, run14, run15, run16, run17, run18, run19, run20, run21, run22, reduceCtorEq, Nat.reduceEqDiff, Nat.reduceAdd, Nat.reduceSub, Nat.reduceLeDiff, indexAddrA, indexRefA, appendA, strA, Nat.reduceMul, Nat.zero_mul, Nat.reduceMod, Int.reduceEq, Int.reduceLT, Int.reduceLE, Nat.reduceLT, Nat.lt_irrefl, Nat.reduceBEq, tys0, tys1, tys2, tys3, tys4, tys5, tys6, tys7, tys8, tys9, tys10, tys11, tys12, tys13, tys14, tys15, tys16, tys17, tys18, tys19, tys20, tys21, tys22, tys23, Try.ntmps16, Try.results16]
      refine RunL.callp rfl rfl ok_f49 (isGame_ok g lg sg) (by simp only [pureL, pureB, pg, Bool.and_self]) rfl ?_
      cases h1 : gameB g
      · simp only [run0, run1, run2, run3, run4, run5, run6, run7, run8, run9, run10, run11, run12, run13, run14, run15, run16, run17, run18, run19, run20, run21, run22, reduceCtorEq, Nat.reduceEqDiff, Nat.reduceAdd, Nat.reduceSub, Nat.reduceLeDiff, indexAddrA, indexRefA, appendA, strA, Nat.reduceMul, Nat.zero_mul, Nat.reduceMod, Int.reduceEq, Int.reduceLT, Int.reduceLE, Nat.reduceLT, Nat.lt_irrefl, Nat.reduceBEq, tys0, tys1, tys2, tys3, tys4, tys5, tys6, tys7, tys8, tys9, tys10, tys11, tys12, tys13, tys14, tys15, tys16, tys17, tys18, tys19, tys20, tys21, tys22, tys23, Try.ntmps16, Try.results16]
        exact Fin.keep [] rfl rfl
      simp only [run0, run1, run2, run3, run4, run5, run6, run7, run8, run9, run10, run11, run12, run13, run14, run15, run16, run17, run18, run19, run20, run21, run22, reduceCtorEq, Nat.reduceEqDiff, Nat.reduceAdd, Nat.reduceSub, Nat.reduceLeDiff, indexAddrA, indexRefA, appendA, strA, Nat.reduceMul, Nat.zero_mul, Nat.reduceMod, Int.reduceEq, Int.reduceLT, Int.reduceLE, Nat.reduceLT, Nat.lt_irrefl, Nat.reduceBEq, tys0, tys1, tys2, tys3, tys4, tys5, tys6, tys7, tys8, tys9, tys10, tys11, tys12, tys13, tys14, tys15, tys16, tys17, tys18, tys19, tys20, tys21, tys22, tys23, Try.ntmps16, Try.results16]
      refine RunL.callp rfl rfl ok_f49 (isGame_ok h lh sh) (by simp only [pureL, pureB, ph, Bool.and_self]) rfl ?_
      cases h2 : gameB h
      · simp only [run0, run1, run2, run3, run4, run5, run6, run7, run8, run9, run10, run11, run12, run13, run14, run15, run16, run17, run18, run19, run20, run21, run22, reduceCtorEq, Nat.reduceEqDiff, Nat.reduceAdd, Nat.reduceSub, Nat.reduceLeDiff, indexAddrA, indexRefA, appendA, strA, Nat.reduceMul, Nat.zero_mul, Nat.reduceMod, Int.reduceEq, Int.reduceLT, Int.reduceLE, Nat.reduceLT, Nat.lt_irrefl, Nat.reduceBEq, tys0, tys1, tys2, tys3, tys4, tys5, tys6, tys7, tys8, tys9, tys10, tys11, tys12, tys13, tys14, tys15, tys16, tys17, tys18, tys19, tys20, tys21, tys22, tys23, Try.ntmps16, Try.results16]
        exact Fin.keep [] rfl rfl
      have G := gameB_ok h1
      have H := gameB_ok h2
      have hw : IntKind.i64.wrap ((g.length : Int) * (h.length : Int)) = (g.length : Int) * (h.length : Int) := by
        have := mul40 (x := (g.length : Int)) (n := (h.length : Int)) (by omega) (by omega) (by omega) (by omega)
        exact i64_id (by omega) (by omega)
      have h3 : ¬ g.length * h.length ≤ 40 := fun q => by simp [addB, h1, h2, q] at hB
      have c : (40 : Int) < (g.length : Int) * (h.length : Int) := by rw [← Int.natCast_mul]; omega
      simp only [run0, run1, run2, run3, run4, run5, run6, run7, run8, run9, run10, run11, run12, run13, run14, run15, run16, run17, run18, run19, run20, run21, run22, reduceCtorEq, Nat.reduceEqDiff, Nat.reduceAdd, Nat.reduceSub, Nat.reduceLeDiff, indexAddrA, indexRefA, appendA, strA, Nat.reduceMul, Nat.zero_mul, Nat.reduceMod, Int.reduceEq, Int.reduceLT, Int.reduceLE, Nat.reduceLT, Nat.lt_irrefl, Nat.reduceBEq, tys0, tys1, tys2, tys3, tys4, tys5, tys6, tys7, tys8, tys9, tys10, tys11, tys12, tys13, tys14, tys15, tys16, tys17, tys18, tys19, tys20, tys21, tys22, tys23, Try.ntmps16, Try.results16, List.length_map, hw, c]
      exact Fin.keep [] rfl rfl
    · exact ⟨[], .inl ⟨by simp [sumG, hB], rfl, rfl⟩, List.nodup_nil, keepS_okSO _ _⟩
  have hB' := hB
  simp only [addB, Bool.and_eq_true, decide_eq_true_eq] at hB'
  obtain ⟨⟨h1, h2⟩, h3⟩ := hB'
  have G := gameB_ok h1
  have H := gameB_ok h2
  have hw : IntKind.i64.wrap ((g.length : Int) * (h.length : Int)) = (g.length : Int) * (h.length : Int) := by
    have := mul40 (x := (g.length : Int)) (n := (h.length : Int)) (by omega) (by omega) (by omega) (by omega)
    exact i64_id (by omega) (by omega)
  have c : ¬ ((40 : Int) < (g.length : Int) * (h.length : Int)) := by rw [← Int.natCast_mul]; omega
  have hN : sumG g h = addL g h g.length := by simp [sumG, hB]
  have I := runI_inv h1 h2 g.length (Nat.le_refl _)
  have hel := I.own.len
  rw [hN]
  refine ⟨.ref 1 [] (runI g h g.length).es.length (runI g h g.length).es.length, ?_⟩
  apply ex1
  case h2 =>
    refine ⟨1 :: (runI g h g.length).S, OwnP.keep (.inr ⟨1, (runI g h g.length).es.length, (runI g h g.length).es, (runI g h g.length).S, by rw [hel], rfl, I.own, rfl⟩) fun _ h => h, List.nodup_cons.2 ⟨fun q => by have := I.rng 1 q; omega, I.nd⟩, keepS_okSO _ _⟩
  apply Ct.by_ hmix [8000000, 5999990] Try.func16 rfl
  simp only [run0, run1, run2, run3, run4, run5, run6, run7, run8, run9, run10, run11, run12, run13, run14, run15, run16, run17, run18, run19, run20, run21, run22, reduceCtorEq, Nat.reduceEqDiff, Nat.reduceAdd, Nat.reduceSub, Nat.reduceLeDiff, indexAddrA, indexRefA, appendA, strA, Nat.reduceMul, Nat.zero_mul, Nat.reduceMod, Int.reduceEq, Int.reduceLT, Int.reduceLE, Nat.reduceLT, Nat.lt_irrefl, Nat.reduceBEq, tys0, tys1, tys2, tys3, tys4, tys5, tys6, tys7, tys8, tys9, tys10, tys11, tys12, tys13, tys14, tys15, tys16, tys17, tys18, tys19, tys20, tys21, tys22, tys23, Try.ntmps16, Try.results16]
  refine RunL.callp rfl rfl ok_f49 (isGame_ok g lg sg) (by simp only [pureL, pureB, pg, Bool.and_self]) rfl ?_
  simp only [run0, run1, run2, run3, run4, run5, run6, run7, run8, run9, run10, run11, run12, run13, run14, run15, run16, run17, run18, run19, run20, run21, run22, reduceCtorEq, Nat.reduceEqDiff, Nat.reduceAdd, Nat.reduceSub, Nat.reduceLeDiff, indexAddrA, indexRefA, appendA, strA, Nat.reduceMul, Nat.zero_mul, Nat.reduceMod, Int.reduceEq, Int.reduceLT, Int.reduceLE, Nat.reduceLT, Nat.lt_irrefl, Nat.reduceBEq, tys0, tys1, tys2, tys3, tys4, tys5, tys6, tys7, tys8, tys9, tys10, tys11, tys12, tys13, tys14, tys15, tys16, tys17, tys18, tys19, tys20, tys21, tys22, tys23, Try.ntmps16, Try.results16, h1]
  refine RunL.callp rfl rfl ok_f49 (isGame_ok h lh sh) (by simp only [pureL, pureB, ph, Bool.and_self]) rfl ?_
  simp only [run0, run1, run2, run3, run4, run5, run6, run7, run8, run9, run10, run11, run12, run13, run14, run15, run16, run17, run18, run19, run20, run21, run22, reduceCtorEq, Nat.reduceEqDiff, Nat.reduceAdd, Nat.reduceSub, Nat.reduceLeDiff, indexAddrA, indexRefA, appendA, strA, Nat.reduceMul, Nat.zero_mul, Nat.reduceMod, Int.reduceEq, Int.reduceLT, Int.reduceLE, Nat.reduceLT, Nat.lt_irrefl, Nat.reduceBEq, tys0, tys1, tys2, tys3, tys4, tys5, tys6, tys7, tys8, tys9, tys10, tys11, tys12, tys13, tys14, tys15, tys16, tys17, tys18, tys19, tys20, tys21, tys22, tys23, Try.ntmps16, Try.results16, h2, List.length_map, hw, c]
  refine AWp.loop_inv (ι := Nat) (fun i => ⟨[.sl false (g.map posE), .sl false (h.map posE), .junk, .junk, nilV, .bool false, .ptr 0 0, .fn 50 [.ptr 0 0], .ref 1 [] (runI g h i).es.length (runI g h i).es.length, .junk, .junk, .junk, .junk, .junk, .junk, .junk, .junk, .junk, .junk, .junk, .junk, .junk, .junk, .junk, .junk, .junk, .junk, .junk, .junk, .junk, .junk, .junk, .junk, .sl false (g.map posE), .int .i64 g.length, .int .i64 i, .junk, .junk, .junk, .junk, .junk, .junk, .junk, .junk, .junk, .junk, .junk, .junk, .junk, .junk, .junk, .junk, .junk, .junk, .junk, .junk, .junk, .junk, .junk, .junk, .junk, .junk, .junk, .junk, .junk, .junk, .junk, .junk, .junk, .junk], .box 3 [.int .i64 h.length] :: .vec 70 2 (runI g h i).es.length (runI g h i).es :: (runI g h i).Y⟩)
    (fun i => i ≤ g.length) (fun i => g.length - i) 0 (Nat.zero_le _) ⟨by simp only [Int.natCast_zero, runI, List.length_nil]; repeat constructor, rfl⟩ ?_
  intro i hi
  refine W.sound hmix (E := [8000000, 5999990]) ?_
  by_cases hin : i < g.length
  case neg =>
    obtain rfl : i = g.length := by omega
    simp only [run0, run1, run2, run3, run4, run5, run6, run7, run8, run9, run10, run11, run12, run13, run14, run15, run16, run17, run18, run19, run20, run21, run22, reduceCtorEq, Nat.reduceEqDiff, Nat.reduceAdd, Nat.reduceSub, Nat.reduceLeDiff, indexAddrA, indexRefA, appendA, strA, Nat.reduceMul, Nat.zero_mul, Nat.reduceMod, Int.reduceEq, Int.reduceLT, Int.reduceLE, Nat.reduceLT, Nat.lt_irrefl, Nat.reduceBEq, tys0, tys1, tys2, tys3, tys4, tys5, tys6, tys7, tys8, tys9, tys10, tys11, tys12, tys13, tys14, tys15, tys16, tys17, tys18, tys19, tys20, tys21, tys22, tys23, Try.ntmps16, Try.results16, Int.lt_irrefl]
    exact Fin.keep (1 :: (runI g h g.length).S) rfl rfl
  have e1 : (i : Int) < (g.length : Int) := by omega
  have e2 := pos_at hin
  have e5 : IntKind.i64.wrap ((i : Int) + 1) = ((i + 1 : Nat) : Int) := by rw [i64_id (by omega) (by omega)]; simp
  have hIi := (runI_inv h1 h2 i (by omega)).more [posB g i]
  have hnext : runI g h (i + 1) = runK g h i ⟨(runI g h i).es, (runI g h i).S, (runI g h i).Y ++ [posB g i]⟩ h.length := rfl
  generalize hs : runI g h i = s at *
  simp only [run0, run1, run2, run3, run4, run5, run6, run7, run8, run9, run10, run11, run12, run13, run14, run15, run16, run17, run18, run19, run20, run21, run22, reduceCtorEq, Nat.reduceEqDiff, Nat.reduceAdd, Nat.reduceSub, Nat.reduceLeDiff, indexAddrA, indexRefA, appendA, strA, Nat.reduceMul, Nat.zero_mul, Nat.reduceMod, Int.reduceEq, Int.reduceLT, Int.reduceLE, Nat.reduceLT, Nat.lt_irrefl, Nat.reduceBEq, tys0, tys1, tys2, tys3, tys4, tys5, tys6, tys7, tys8, tys9, tys10, tys11, tys12, tys13, tys14, tys15, tys16, tys17, tys18, tys19, tys20, tys21, tys22, tys23, Try.ntmps16, Try.results16, e1, e2, List.length_map, List.getElem?_append_right, Nat.le_refl, Nat.sub_self, Int.toNat_natCast, Int.natCast_nonneg]
  generalize hs0 : (⟨s.es, s.S, s.Y ++ [posB g i]⟩ : AdM) = s0 at *
  have hY0 : s0.Y = s.Y ++ [posB g i] := by rw [← hs0]
  refine AWp.loop_inv (ι := Nat) (fun k => ⟨[.sl false (g.map posE), .sl false (h.map posE), .junk, .junk, nilV, .bool false, .ptr 0 0, .fn 50 [.ptr 0 0], .ref 1 [] (runK g h i s0 k).es.length (runK g h i s0 k).es.length, .int .i64 i, .ptr (s.Y.length + 1 + 1) 0, .junk, .junk, .junk, .junk, .junk, .junk, .junk, .junk, .junk, .junk, .junk, .junk, .junk, .junk, .junk, .junk, .junk, .junk, .junk, .junk, .junk, .junk, .sl false (g.map posE), .int .i64 g.length, .int .i64 i, .junk, .junk, .junk, .junk, .sl false (h.map posE), .int .i64 h.length, .int .i64 k, .junk, .junk, .junk, .junk, .junk, .junk, .junk, .junk, .junk, .junk, .junk, .junk, .junk, .junk, .junk, .junk, .junk, .junk, .junk, .junk, .junk, .junk, .junk, .junk, .junk, .junk, .junk], .box 3 [.int .i64 h.length] :: .vec 70 2 (runK g h i s0 k).es.length (runK g h i s0 k).es :: (runK g h i s0 k).Y⟩)
    (fun k => k ≤ h.length) (fun k => h.length - k) 0 (Nat.zero_le _) ⟨by rw [← hs0]; simp only [Int.natCast_zero, runK]; repeat constructor, by rw [← hs0]; rfl⟩ ?_
  intro k hk
  refine W.sound hmix (E := [8000000, 5999990]) ?_
  by_cases hkn : k < h.length
  case neg =>
    obtain rfl : k = h.length := by omega
    simp only [run0, run1, run2, run3, run4, run5, run6, run7, run8, run9, run10, run11, run12, run13, run14, run15, run16, run17, run18, run19, run20, run21, run22, reduceCtorEq, Nat.reduceEqDiff, Nat.reduceAdd, Nat.reduceSub, Nat.reduceLeDiff, indexAddrA, indexRefA, appendA, strA, Nat.reduceMul, Nat.zero_mul, Nat.reduceMod, Int.reduceEq, Int.reduceLT, Int.reduceLE, Nat.reduceLT, Nat.lt_irrefl, Nat.reduceBEq, tys0, tys1, tys2, tys3, tys4, tys5, tys6, tys7, tys8, tys9, tys10, tys11, tys12, tys13, tys14, tys15, tys16, tys17, tys18, tys19, tys20, tys21, tys22, tys23, Try.ntmps16, Try.results16, Int.lt_irrefl, e5]
    exact ⟨i + 1, by omega, by omega, by rw [hnext]; repeat constructor, by rw [hnext]⟩
  have k1 : (k : Int) < (h.length : Int) := by omega
  have k2 := pos_at hkn
  have k5 : IntKind.i64.wrap ((k : Int) + 1) = ((k + 1 : Nat) : Int) := by rw [i64_id (by omega) (by omega)]; simp
  obtain ⟨Z, hZ⟩ := runK_Y g h i s0 k
  have hIk := runK_inv h1 h2 hin hIi k (by omega)
  have hel2 := hIk.own.len
  have hno := hIk.own.noOwn
  have hstep : runK g h i s0 (k + 1) = stepK g h i (runK g h i s0 k) k := rfl
  generalize hq : runK g h i s0 k = t at *
  have hP : ∀ b, (t.Y ++ [b])[s.Y.length]? = some (.box 70 [.sl false (ints (lefts g i)), .sl false (ints (rights g i))]) := fun b => by
    rw [hZ, hY0]; simp [posB]
  have hQ : ∀ b, (t.Y ++ [b])[t.Y.length]? = some b := fun b => by rw [List.getElem?_append_right (Nat.le_refl _), Nat.sub_self]; rfl
  have hQs : ∀ b c, (t.Y ++ [b]).set t.Y.length c = t.Y ++ [c] := fun b c => by rw [List.set_append_right _ _ (Nat.le_refl _), Nat.sub_self]; rfl
  obtain ⟨bl, br, bi⟩ := sum_bounds h1 hin
  obtain ⟨cl, cr, ck⟩ := sum_bounds h2 hkn
  obtain ⟨d1, d2⟩ := sums_nodup h1 h2 hin hkn
  have c1 := sideC_ok (lefts g i) (lefts h k) i k h.length bl.1 cl.1 bl.2 cl.2 ⟨by omega, by omega⟩ ⟨by omega, by omega⟩ ⟨by omega, by omega⟩ d1
    (.box 3 [.int .i64 h.length] :: .vec 70 2 t.es.length t.es :: (t.Y ++ [.box 70 [.sl false (ints (lefts h k)), .sl false (ints (rights h k))]])) 0 rfl
  have c2 := sideC_ok (rights g i) (rights h k) i k h.length br.1 cr.1 br.2 cr.2 ⟨by omega, by omega⟩ ⟨by omega, by omega⟩ ⟨by omega, by omega⟩ d2
    (.box 3 [.int .i64 h.length] :: .vec 70 2 t.es.length t.es :: (t.Y ++ [.box 70 [.sl false (ints (lefts h k)), .sl false (ints (rights h k))], mvR (lefts g i) (lefts h k) i k h.length])) 0 rfl
  simp only [mvR, List.length_cons, List.length_append, List.length_nil, Nat.zero_add, Nat.add_assoc, Nat.reduceAdd, List.cons_append, List.append_assoc, List.nil_append] at c1 c2
  simp only [run0, run1, run2, run3, run4, run5, run6, run7, run8, run9, run10, run11, run12, run13, run14, run15, run16, run17, run18, run19, run20, run21, run22, reduceCtorEq, Nat.reduceEqDiff, Nat.reduceAdd, Nat.reduceSub, Nat.reduceLeDiff, indexAddrA, indexRefA, appendA, strA, Nat.reduceMul, Nat.zero_mul, Nat.reduceMod, Int.reduceEq, Int.reduceLT, Int.reduceLE, Nat.reduceLT, Nat.lt_irrefl, Nat.reduceBEq, tys0, tys1, tys2, tys3, tys4, tys5, tys6, tys7, tys8, tys9, tys10, tys11, tys12, tys13, tys14, tys15, tys16, tys17, tys18, tys19, tys20, tys21, tys22, tys23, Try.ntmps16, Try.results16, k1, k2, hP, hQ, hQs, List.length_map, Int.toNat_natCast, Int.natCast_nonneg]
  refine ⟨[0, 1, 2, 3, 4, 5, 6, 7, 9, 10, 11, 12, 13, 14, 15, 8, 16, 17, 18, 19, 20], by kernel_rfl, ?_⟩
  simp only [run0, run1, run2, run3, run4, run5, run6, run7, run8, run9, run10, run11, run12, run13, run14, run15, run16, run17, run18, run19, run20, run21, run22, reduceCtorEq, Nat.reduceEqDiff, Nat.reduceAdd, Nat.reduceSub, Nat.reduceLeDiff, indexAddrA, indexRefA, appendA, strA, Nat.reduceMul, Nat.zero_mul, Nat.reduceMod, Int.reduceEq, Int.reduceLT, Int.reduceLE, Nat.reduceLT, Nat.lt_irrefl, Nat.reduceBEq, tys0, tys1, tys2, tys3, tys4, tys5, tys6, tys7, tys8, tys9, tys10, tys11, tys12, tys13, tys14, tys15, tys16, tys17, tys18, tys19, tys20, tys21, tys22, tys23, Try.ntmps16, Try.results16, hP, hQ, hQs]
  have f3 : t.es.length + 1 ≤ 137438953472 := by
    rw [hel2, List.length_append, addL_len]
    have : i * h.length ≤ g.length * h.length := Nat.mul_le_mul_right _ (by omega)
    simp [rowG]; omega
  refine RunL.callc rfl rfl rfl ?_ ok_f50 rfl (.inr ⟨[mvR (lefts g i) (lefts h k) i k h.length], by simp [mvR]⟩) c1 ?_
  · rfl
  simp only [run0, run1, run2, run3, run4, run5, run6, run7, run8, run9, run10, run11, run12, run13, run14, run15, run16, run17, run18, run19, run20, run21, run22, reduceCtorEq, Nat.reduceEqDiff, Nat.reduceAdd, Nat.reduceSub, Nat.reduceLeDiff, indexAddrA, indexRefA, appendA, strA, Nat.reduceMul, Nat.zero_mul, Nat.reduceMod, Int.reduceEq, Int.reduceLT, Int.reduceLE, Nat.reduceLT, Nat.lt_irrefl, Nat.reduceBEq, tys0, tys1, tys2, tys3, tys4, tys5, tys6, tys7, tys8, tys9, tys10, tys11, tys12, tys13, tys14, tys15, tys16, tys17, tys18, tys19, tys20, tys21, tys22, tys23, Try.ntmps16, Try.results16]
  refine RunL.callc rfl rfl rfl ?_ ok_f50 rfl (.inr ⟨[mvR (rights g i) (rights h k) i k h.length], by simp [mvR]⟩) c2 ?_
  · rfl
  simp only [run0, run1, run2, run3, run4, run5, run6, run7, run8, run9, run10, run11, run12, run13, run14, run15, run16, run17, run18, run19, run20, run21, run22, reduceCtorEq, Nat.reduceEqDiff, Nat.reduceAdd, Nat.reduceSub, Nat.reduceLeDiff, indexAddrA, indexRefA, appendA, strA, Nat.reduceMul, Nat.zero_mul, Nat.reduceMod, Int.reduceEq, Int.reduceLT, Int.reduceLE, Nat.reduceLT, Nat.lt_irrefl, Nat.reduceBEq, tys0, tys1, tys2, tys3, tys4, tys5, tys6, tys7, tys8, tys9, tys10, tys11, tys12, tys13, tys14, tys15, tys16, tys17, tys18, tys19, tys20, tys21, tys22, tys23, Try.ntmps16, Try.results16, f3, hno, k5]
  trace_state
  exact ⟨k + 1, by omega, by omega, by rw [hstep]; simp only [stepK, List.length_append, List.length_cons, List.length_nil]; repeat constructor, by rw [hstep]; simp [stepK, mvR, posB]⟩

end Go.Proofs.Ytllcljajlemmaaa
/-
  Copies of games, as rows of the call's own.
-/
namespace Go.Proofs.Ytllcljajlemmaaa
open Go K
set_option linter.unusedSimpArgs false
set_option linter.unusedVariables false
set_option maxHeartbeats 1600000
set_option maxRecDepth 8000

def toM (b : Nat) (p : GP) : List AObj := [.box 68 [.sl false (ints p.1), .sl false (ints p.2)], .box 70 [.ref (b + 3) [] 0 p.1.length, .ref (b + 4) [] 0 p.2.length], .box 70 [.ref (b + 3) [] 0 p.1.length, .ref (b + 4) [] 0 p.2.length], .vec 3 1 0 (ints p.1), .vec 3 1 0 (ints p.2)]
theorem toPos_own (p : GP) (h : smallP p) : Ct Try.prog 48 [.agg [.sl false (ints p.1), .sl false (ints p.2)]] [] (.agg [.ref 3 [] 0 p.1.length, .ref 4 [] 0 p.2.length]) (toM 0 p) := by
  have p1 := ints_pure p.1
  have p2 := ints_pure p.2
  refine Ct.by_ hmix [] Try.func48 rfl ?_
  simp only [run0, run1, run2, run3, run4, run5, run6, run7, run8, run9, run10, run11, run12, run13, run14, run15, run16, run17, run18, run19, run20, run21, run22, reduceCtorEq, Nat.reduceEqDiff, Nat.reduceAdd, Nat.reduceSub, Nat.reduceLeDiff, indexAddrA, indexRefA, appendA, strA, Nat.reduceMul, Nat.zero_mul, Nat.reduceMod, Int.reduceEq, Int.reduceLT, Int.reduceLE, Nat.reduceLT, Nat.lt_irrefl, Nat.reduceBEq, tys0, tys1, tys2, tys3, tys4, tys5, tys6, tys7, tys8, tys9, tys10, tys11, tys12, tys13, tys14, tys15, tys16, tys17, tys18, tys19, tys20, tys21, tys22, tys23, Try.ntmps48, Try.results48]
  refine RunL.callgp rfl rfl ok_f92 rfl (toIntS_own p.1 h.1) (by simp only [pureL, pureB, p1, Bool.and_self]) rfl ?_
  simp only [run0, run1, run2, run3, run4, run5, run6, run7, run8, run9, run10, run11, run12, run13, run14, run15, run16, run17, run18, run19, run20, run21, run22, reduceCtorEq, Nat.reduceEqDiff, Nat.reduceAdd, Nat.reduceSub, Nat.reduceLeDiff, indexAddrA, indexRefA, appendA, strA, Nat.reduceMul, Nat.zero_mul, Nat.reduceMod, Int.reduceEq, Int.reduceLT, Int.reduceLE, Nat.reduceLT, Nat.lt_irrefl, Nat.reduceBEq, tys0, tys1, tys2, tys3, tys4, tys5, tys6, tys7, tys8, tys9, tys10, tys11, tys12, tys13, tys14, tys15, tys16, tys17, tys18, tys19, tys20, tys21, tys22, tys23, Try.ntmps48, Try.results48, shR, sh1, shA, shO, ints_sh, List.map_cons, List.map_nil, List.append_assoc, List.cons_append, List.nil_append]
  refine RunL.callgp rfl rfl ok_f92 rfl (toIntS_own p.2 h.2) (by simp only [pureL, pureB, p2, Bool.and_self]) rfl ?_
  simp only [run0, run1, run2, run3, run4, run5, run6, run7, run8, run9, run10, run11, run12, run13, run14, run15, run16, run17, run18, run19, run20, run21, run22, reduceCtorEq, Nat.reduceEqDiff, Nat.reduceAdd, Nat.reduceSub, Nat.reduceLeDiff, indexAddrA, indexRefA, appendA, strA, Nat.reduceMul, Nat.zero_mul, Nat.reduceMod, Int.reduceEq, Int.reduceLT, Int.reduceLE, Nat.reduceLT, Nat.lt_irrefl, Nat.reduceBEq, tys0, tys1, tys2, tys3, tys4, tys5, tys6, tys7, tys8, tys9, tys10, tys11, tys12, tys13, tys14, tys15, tys16, tys17, tys18, tys19, tys20, tys21, tys22, tys23, Try.ntmps48, Try.results48, shR, sh1, shA, shO, ints_sh, List.map_cons, List.map_nil, List.append_assoc, List.cons_append, List.nil_append]
  exact Fin.own rfl rfl
theorem toM_sh (b : Nat) (p : GP) : (toM 0 p).map (shO b) = toM b p := by
  simp [toM, shO, shL_eq, shA, ints, Function.comp_def, Nat.add_comm]
def toE (j : Nat) (p : GP) : AV := .agg [.ref (5 * j + 4) [] 0 p.1.length, .ref (5 * j + 5) [] 0 p.2.length]
def toEs : List GP → Nat → List AV
  | [], _ => []
  | p :: r, j => toE j p :: toEs r (j + 1)
def toMs : List GP → Nat → List AObj
  | [], _ => []
  | p :: r, j => toM (5 * j + 1) p ++ toMs r (j + 1)
def toSs : List GP → Nat → List Nat
  | [], _ => []
  | p :: r, j => (5 * j + 4) :: (5 * j + 5) :: toSs r (j + 1)
theorem toEs_snoc : ∀ (d : List GP) (p : GP) (j : Nat), toEs (d ++ [p]) j = toEs d j ++ [toE (j + d.length) p]
  | [], p, j => by simp [toEs]
  | q :: d, p, j => by
    simp only [List.cons_append, toEs, toEs_snoc d p, List.length_cons]
    rw [show j + 1 + d.length = j + (d.length + 1) by omega]
theorem toMs_snoc : ∀ (d : List GP) (p : GP) (j : Nat), toMs (d ++ [p]) j = toMs d j ++ toM (5 * (j + d.length) + 1) p
  | [], p, j => by simp [toMs]
  | q :: d, p, j => by
    simp only [List.cons_append, toMs, toMs_snoc d p, List.length_cons, List.append_assoc]
    rw [show j + 1 + d.length = j + (d.length + 1) by omega]
theorem toMs_len : ∀ (d : List GP) (j : Nat), (toMs d j).length = 5 * d.length
  | [], j => rfl
  | q :: d, j => by simp [toMs, toM, toMs_len d]; omega
theorem toEs_len : ∀ (d : List GP) (j : Nat), (toEs d j).length = d.length
  | [], j => rfl
  | q :: d, j => by simp [toEs, toEs_len d]
theorem toEs_own : ∀ (l : List GP) (j : Nat) (M : List AObj), (∀ i, (toMs l j)[i]? ≠ none → M[5 * j + 1 + i]? = (toMs l j)[i]?) → OwnPE M l (toEs l j) (toSs l j)
  | [], j, M, _ => ⟨rfl, rfl⟩
  | p :: r, j, M, h => by
    refine ⟨_, _, _, [5 * j + 4], [5 * j + 5], _, rfl, rfl, .inr ⟨5 * j + 4, 0, rfl, ?_, rfl⟩, .inr ⟨5 * j + 5, 0, rfl, ?_, rfl⟩, toEs_own r (j + 1) M fun i hi => ?_⟩
    · have := h 3 (by simp [toMs, toM])
      rw [show 5 * j + 4 = 5 * j + 1 + 3 by omega, this]; simp [toMs, toM]
    · have := h 4 (by simp [toMs, toM])
      rw [show 5 * j + 5 = 5 * j + 1 + 4 by omega, this]; simp [toMs, toM]
    · have e : (toMs (p :: r) j)[5 + i]? = (toMs r (j + 1))[i]? := by
        simp only [toMs]
        rw [List.getElem?_append_right (by simp [toM])]
        simp [toM]
      have := h (5 + i) (by rw [e]; exact hi)
      rw [e] at this
      rw [show 5 * (j + 1) + 1 + i = 5 * j + 1 + (5 + i) by omega]
      exact this
theorem toSs_rng : ∀ (l : List GP) (j : Nat), (∀ x ∈ toSs l j, 5 * j + 4 ≤ x) ∧ (toSs l j).Nodup
  | [], j => ⟨fun x hx => (by cases hx), List.nodup_nil⟩
  | p :: r, j => by
    obtain ⟨h1, h2⟩ := toSs_rng r (j + 1)
    refine ⟨fun x hx => ?_, ?_⟩
    · simp only [toSs, List.mem_cons] at hx
      rcases hx with rfl | rfl | hx
      · omega
      · omega
      · have := h1 x hx; omega
    · refine List.nodup_cons.2 ⟨fun hx => ?_, List.nodup_cons.2 ⟨fun hx => ?_, h2⟩⟩
      · rcases List.mem_cons.1 hx with e | hx
        · omega
        · have := h1 _ hx; omega
      · have := h1 _ hx; omega

theorem toPositionS_own (g : List GP) (hl : g.length ≤ 1048576) (hs : ∀ p ∈ g, smallP p) : Ct Try.prog 15 [.sl false (g.map posE)] [] (.ref 0 [] 0 g.length) (.vec 70 2 0 (toEs g 0) :: toMs g 0) := by
  have b0 : (g.length : Int) ≤ 137438953472 := by omega
  have b1 : (g.length : Int) ≤ 17592186044416 := by omega
  have b2 : (g.length : Int) ≤ 8796093022208 := by omega
  have b3 : (g.length : Int) ≤ 2932031007402 := by omega
  refine Ct.by_ hmix [] Try.func15 rfl ?_
  simp only [run0, run1, run2, run3, run4, run5, run6, run7, run8, run9, run10, run11, run12, run13, run14, run15, run16, run17, run18, run19, run20, run21, run22, reduceCtorEq, Nat.reduceEqDiff, Nat.reduceAdd, Nat.reduceSub, Nat.reduceLeDiff, indexAddrA, indexRefA, appendA, strA, Nat.reduceMul, Nat.zero_mul, Nat.reduceMod, Int.reduceEq, Int.reduceLT, Int.reduceLE, Nat.reduceLT, Nat.lt_irrefl, Nat.reduceBEq, tys0, tys1, tys2, tys3, tys4, tys5, tys6, tys7, tys8, tys9, tys10, tys11, tys12, tys13, tys14, tys15, tys16, tys17, tys18, tys19, tys20, tys21, tys22, tys23, Try.ntmps15, Try.results15, b0, b1, b2, b3, List.length_map, Int.natCast_nonneg, Int.le_refl, Int.toNat_natCast]
  refine AWp.loop_inv (ι := List GP × List GP) (fun p => ⟨[.sl false (g.map posE), .junk, .junk, .ref 0 [] 0 g.length, .int .i64 p.1.length, .junk, .junk, .junk, .junk, .junk, .junk, .junk, .junk, .junk, .junk, .junk, .junk, .junk, .junk, .junk, .junk, .junk, .junk], .vec 70 2 0 (toEs p.1 0 ++ List.replicate p.2.length zP) :: toMs p.1 0⟩)
    (fun p => g = p.1 ++ p.2) (fun p => p.2.length) ([], g) rfl ⟨by simp only [List.length_nil, Int.natCast_zero]; repeat constructor, rfl⟩ ?_
  rintro ⟨d, r⟩ ha
  refine W.sound hmix (E := []) ?_
  simp only at ha
  cases r with
  | nil =>
    have e1 := pos_end ha
    simp only [run0, run1, run2, run3, run4, run5, run6, run7, run8, run9, run10, run11, run12, run13, run14, run15, run16, run17, run18, run19, run20, run21, run22, reduceCtorEq, Nat.reduceEqDiff, Nat.reduceAdd, Nat.reduceSub, Nat.reduceLeDiff, indexAddrA, indexRefA, appendA, strA, Nat.reduceMul, Nat.zero_mul, Nat.reduceMod, Int.reduceEq, Int.reduceLT, Int.reduceLE, Nat.reduceLT, Nat.lt_irrefl, Nat.reduceBEq, tys0, tys1, tys2, tys3, tys4, tys5, tys6, tys7, tys8, tys9, tys10, tys11, tys12, tys13, tys14, tys15, tys16, tys17, tys18, tys19, tys20, tys21, tys22, tys23, Try.ntmps15, Try.results15, e1, List.length_map]
    have hd : d = g := by rw [ha, List.append_nil]
    subst hd
    exact Fin.own (by simp) rfl
  | cons e r =>
    obtain ⟨e1, e2, e5⟩ := pos_split ha (by omega)
    have hdl := toEs_len d 0
    have hml := toMs_len d 0
    have hc := toPos_own e (hs e (by rw [ha]; simp))
    have p1 := ints_pure e.1
    have p2 := ints_pure e.2
    have hno : noOwn (toEs d 0 ++ List.replicate (r.length + 1) zP) = true := by
      refine List.all_eq_true.2 fun x hx => ?_
      rcases List.mem_append.1 hx with hx | hx
      · have : ∀ (l : List GP) (j : Nat), ∀ x ∈ toEs l j, ∃ j p, x = toE j p := by
          intro l
          induction l with
          | nil => intro j x hx; cases hx
          | cons q l ih =>
            intro j x hx
            rcases List.mem_cons.1 hx with rfl | hx
            · exact ⟨_, _, rfl⟩
            · exact ih _ x hx
        obtain ⟨j, p, rfl⟩ := this d 0 x hx
        rfl
      · rw [(List.mem_replicate.1 hx).2]; rfl
    have e6 : (toEs d 0 ++ List.replicate (r.length + 1) zP)[d.length]? = some zP := by
      rw [List.getElem?_append_right (by omega), hdl]; simp [List.replicate_succ]
    have e8 : ∀ y, (toEs d 0 ++ List.replicate (r.length + 1) zP).set d.length y = toEs d 0 ++ y :: List.replicate r.length zP := fun y => by
      rw [List.set_append_right _ _ (by omega), hdl]; simp [List.replicate_succ]
    have hsh := toM_sh (5 * d.length + 1) e
    simp only [List.replicate_succ] at e6 hno e8
    simp only [run0, run1, run2, run3, run4, run5, run6, run7, run8, run9, run10, run11, run12, run13, run14, run15, run16, run17, run18, run19, run20, run21, run22, reduceCtorEq, Nat.reduceEqDiff, Nat.reduceAdd, Nat.reduceSub, Nat.reduceLeDiff, indexAddrA, indexRefA, appendA, strA, Nat.reduceMul, Nat.zero_mul, Nat.reduceMod, Int.reduceEq, Int.reduceLT, Int.reduceLE, Nat.reduceLT, Nat.lt_irrefl, Nat.reduceBEq, tys0, tys1, tys2, tys3, tys4, tys5, tys6, tys7, tys8, tys9, tys10, tys11, tys12, tys13, tys14, tys15, tys16, tys17, tys18, tys19, tys20, tys21, tys22, tys23, Try.ntmps15, Try.results15, List.length_map, e1, e2, Int.toNat_natCast, Int.natCast_nonneg]
    refine RunL.callgp rfl rfl ok_f48 rfl hc (by simp only [pureL, pureB, p1, p2, Bool.and_self]) rfl ?_
    simp only [List.length_cons, hml, hsh, shA, shL, List.map_cons, List.map_nil]
    simp only [run0, run1, run2, run3, run4, run5, run6, run7, run8, run9, run10, run11, run12, run13, run14, run15, run16, run17, run18, run19, run20, run21, run22, reduceCtorEq, Nat.reduceEqDiff, Nat.reduceAdd, Nat.reduceSub, Nat.reduceLeDiff, indexAddrA, indexRefA, appendA, strA, Nat.reduceMul, Nat.zero_mul, Nat.reduceMod, Int.reduceEq, Int.reduceLT, Int.reduceLE, Nat.reduceLT, Nat.lt_irrefl, Nat.reduceBEq, tys0, tys1, tys2, tys3, tys4, tys5, tys6, tys7, tys8, tys9, tys10, tys11, tys12, tys13, tys14, tys15, tys16, tys17, tys18, tys19, tys20, tys21, tys22, tys23, Try.ntmps15, Try.results15, List.length_map, hml, hsh, e1, e5, e6, hno, e8, zP_c, zP_a, zP_s, Int.toNat_natCast, Int.natCast_nonneg]
    have i1 : 3 + (5 * d.length + 1) = 5 * d.length + 4 := by omega
    have i2 : 4 + (5 * d.length + 1) = 5 * d.length + 5 := by omega
    have i3 : toE (0 + d.length) e = .agg [.ref (5 * d.length + 4) [] 0 e.1.length, .ref (5 * d.length + 5) [] 0 e.2.length] := by simp [toE]
    have i4 : 5 * (0 + d.length) + 1 = 5 * d.length + 1 := by omega
    exact ⟨(d ++ [e], r), by simp [ha], by simp, by simp only [List.length_append, List.length_cons, List.length_nil]; repeat constructor, by rw [i1, i2, toEs_snoc, toMs_snoc, i3, i4]; simp⟩
theorem toPositionS_ownP (g : List GP) : ∃ S, OwnP (.vec 70 2 0 (toEs g 0) :: toMs g 0) g (.ref 0 [] 0 g.length) S ∧ S.Nodup := by
  obtain ⟨h1, h2⟩ := toSs_rng g 0
  refine ⟨0 :: toSs g 0, .inr ⟨0, 0, toEs g 0, toSs g 0, rfl, rfl, toEs_own g 0 _ fun i hi => ?_, rfl⟩, List.nodup_cons.2 ⟨fun hx => by have := h1 0 hx; omega, h2⟩⟩
  rw [show 5 * 0 + 1 + i = i + 1 by omega]
  rfl

end Go.Proofs.Ytllcljajlemmaaa
/-
  Positions with rows of their own, however many: marked, held.
-/
namespace Go.Proofs.Ytllcljajlemmaaa
open Go K
set_option linter.unusedSimpArgs false
set_option linter.unusedVariables false
set_option maxHeartbeats 1600000
set_option maxRecDepth 8000

theorem gsz_app : ∀ (d r : List GP), gsz (d ++ r) = gsz d + gsz r
  | [], r => by simp [gsz]
  | q :: d, r => by simp [gsz, gsz_app d r, Nat.add_assoc]
theorem markPositionS_big (l : List GP) (x : AV) (S : List Nat) (L0 : List AObj) (k : Int) (ho : OwnP L0 l x S) (hn : S.Nodup) (hl : l.length ≤ 1048576) (hs : gsz l ≤ 1048576) (h0 : 0 ≤ k) (hk : k ≤ 4194304) :
    ∃ L', Ct Try.prog 18 [x, .int .i64 k] L0 (.int .i64 (k + gsz l)) L' ∧ OwnP L' (mkP l k) x S ∧ (∀ id, id ∉ S → L'[id]? = L0[id]?) ∧ L'.length = L0.length := by
  rcases ho with ⟨rfl, rfl, rfl⟩ | ⟨id, g, es, S', rfl, hL, hE, rfl⟩
  · refine ⟨L0, ?_, .inl ⟨rfl, rfl, rfl⟩, fun _ _ => rfl, rfl⟩
    refine Ct.by_ hmix [] Try.func18 rfl ?_
    simp only [run0, run1, run2, run3, run4, run5, run6, run7, run8, run9, run10, run11, run12, run13, run14, run15, run16, run17, run18, run19, run20, run21, run22, reduceCtorEq, Nat.reduceEqDiff, Nat.reduceAdd, Nat.reduceSub, Nat.reduceLeDiff, indexAddrA, indexRefA, appendA, strA, Nat.reduceMul, Nat.zero_mul, Nat.reduceMod, Int.reduceEq, Int.reduceLT, Int.reduceLE, Nat.reduceLT, Nat.lt_irrefl, Nat.reduceBEq, tys0, tys1, tys2, tys3, tys4, tys5, tys6, tys7, tys8, tys9, tys10, tys11, tys12, tys13, tys14, tys15, tys16, tys17, tys18, tys19, tys20, tys21, tys22, tys23, Try.ntmps18, Try.results18, nilV]
    refine AWp.loop_inv (ι := Unit) (fun _ => ⟨[.lit (.slice none 0 0), .int .i64 k, .junk, .junk, .int .i64 0, .int .i64 0, .junk, .junk, .junk, .junk, .junk, .junk, .junk, .junk, .junk, .junk, .junk, .junk, .junk, .junk, .junk, .junk, .junk, .junk, .junk, .junk, .junk], L0⟩) (fun _ => True) (fun _ => 0) () trivial ⟨by repeat constructor, rfl⟩ ?_
    rintro _ _
    refine W.sound hmix (E := []) ?_
    simp only [run0, run1, run2, run3, run4, run5, run6, run7, run8, run9, run10, run11, run12, run13, run14, run15, run16, run17, run18, run19, run20, run21, run22, reduceCtorEq, Nat.reduceEqDiff, Nat.reduceAdd, Nat.reduceSub, Nat.reduceLeDiff, indexAddrA, indexRefA, appendA, strA, Nat.reduceMul, Nat.zero_mul, Nat.reduceMod, Int.reduceEq, Int.reduceLT, Int.reduceLE, Nat.reduceLT, Nat.lt_irrefl, Nat.reduceBEq, tys0, tys1, tys2, tys3, tys4, tys5, tys6, tys7, tys8, tys9, tys10, tys11, tys12, tys13, tys14, tys15, tys16, tys17, tys18, tys19, tys20, tys21, tys22, tys23, Try.ntmps18, Try.results18, Int.lt_irrefl]
    exact Fin.own rfl (by simp [gsz])
  have hel := hE.len
  have hnO := hE.noOwn
  obtain ⟨hid, hnS⟩ := List.nodup_cons.1 hn
  suffices h : ∃ r L', Ct Try.prog 18 [.ref id [] g l.length, .int .i64 k] L0 r L' ∧ (r = .int .i64 (k + gsz l) ∧ L'[id]? = some (.vec 70 2 g es) ∧ OwnPE L' (mkP l k) es S' ∧ (∀ j, j ∉ S' → L'[j]? = L0[j]?) ∧ L'.length = L0.length) by
    obtain ⟨r, L', h1, rfl, h2, h3, h4, h5⟩ := h
    exact ⟨L', h1, .inr ⟨id, g, es, S', by rw [mkP_len], h2, h3, rfl⟩, fun j hj => h4 j (fun q => hj (by simp [q])), h5⟩
  refine Ct.ex hmix [] Try.func18 rfl ?_
  simp only [run0, run1, run2, run3, run4, run5, run6, run7, run8, run9, run10, run11, run12, run13, run14, run15, run16, run17, run18, run19, run20, run21, run22, reduceCtorEq, Nat.reduceEqDiff, Nat.reduceAdd, Nat.reduceSub, Nat.reduceLeDiff, indexAddrA, indexRefA, appendA, strA, Nat.reduceMul, Nat.zero_mul, Nat.reduceMod, Int.reduceEq, Int.reduceLT, Int.reduceLE, Nat.reduceLT, Nat.lt_irrefl, Nat.reduceBEq, tys0, tys1, tys2, tys3, tys4, tys5, tys6, tys7, tys8, tys9, tys10, tys11, tys12, tys13, tys14, tys15, tys16, tys17, tys18, tys19, tys20, tys21, tys22, tys23, Try.ntmps18, Try.results18]
  refine AWp.loop_exK (ι := MpS) (fun q => ⟨[.ref id [] g l.length, .int .i64 (k + gsz q.d), .junk, .junk, .int .i64 0, .int .i64 q.d.length, .junk, .junk, .junk, .junk, .junk, .junk, .junk, .junk, .junk, .junk, .junk, .junk, .junk, .junk, .junk, .junk, .junk, .junk, .junk, .junk, .junk], q.L⟩)
    (fun q => l = q.d ++ q.r ∧ q.L[id]? = some (.vec 70 2 g es) ∧ OwnPE q.L (mkP q.d k ++ q.r) es S' ∧ (∀ j, j ∉ S' → q.L[j]? = L0[j]?) ∧ q.L.length = L0.length) (fun q => q.r.length) ⟨[], l, L0⟩ ⟨rfl, hL, hE, fun _ _ => rfl, rfl⟩
    ⟨by simp only [List.length_nil, gsz, Int.natCast_zero, Int.add_zero]; repeat constructor, rfl⟩ ?_
  rintro ⟨d, r, L⟩ ⟨ha, hLi, hO, hf, hlen⟩
  simp only at ha hLi hO hf hlen
  have hda : l.length = d.length + r.length := by rw [ha]; simp
  cases r with
  | nil =>
    left
    have e1 : ¬ ((d.length : Int) < (l.length : Int)) := by rw [ha]; simp
    rw [List.append_nil] at ha hO
    subst ha
    refine ⟨.int .i64 (k + gsz l), L, ?_, rfl, hLi, hO, hf, hlen⟩
    refine W.sound hmix (E := []) ?_
    simp only [run0, run1, run2, run3, run4, run5, run6, run7, run8, run9, run10, run11, run12, run13, run14, run15, run16, run17, run18, run19, run20, run21, run22, reduceCtorEq, Nat.reduceEqDiff, Nat.reduceAdd, Nat.reduceSub, Nat.reduceLeDiff, indexAddrA, indexRefA, appendA, strA, Nat.reduceMul, Nat.zero_mul, Nat.reduceMod, Int.reduceEq, Int.reduceLT, Int.reduceLE, Nat.reduceLT, Nat.lt_irrefl, Nat.reduceBEq, tys0, tys1, tys2, tys3, tys4, tys5, tys6, tys7, tys8, tys9, tys10, tys11, tys12, tys13, tys14, tys15, tys16, tys17, tys18, tys19, tys20, tys21, tys22, tys23, Try.ntmps18, Try.results18, e1, hLi]
    exact Fin.own rfl rfl
  | cons p r =>
    right
    simp only [List.length_cons] at hda
    have hp : psz p ≤ 1048576 := Nat.le_trans (gsz_mem (by rw [ha]; simp)) hs
    have hgd : gsz d + psz p ≤ 1048576 := by
      have e : gsz l = gsz d + (psz p + gsz r) := by rw [ha, gsz_app]; rfl
      omega
    unfold psz at hp hgd
    obtain ⟨ed, a, b, er, Sd, S1, S2, Sr, k1, k2, k3, k4, k5, k6, k7⟩ := hO.split
    rw [mkP_len] at k2
    subst k3
    obtain ⟨L1, c1, o1, f1, n1⟩ := markOwnI_ok p.1 a S1 L (k + gsz d) k5 (by omega) (by omega) (by omega)
    have nd := List.nodup_append.1 hnS
    have nd2 := List.nodup_append.1 nd.2.1
    have nd3 := List.nodup_append.1 nd2.2.1
    have keep1 : ∀ T : List Nat, (∀ j ∈ T, j ∉ S1) → Kept T L L1 := fun T hT j hj _ _ _ _ hq => by rw [f1 j (hT j hj)]; exact hq
    have q2 := k6.mono (keep1 S2 fun j hj hj1 => nd2.2.2 j hj1 j (by simp [hj]) rfl)
    obtain ⟨L2, c2, o2, f2, n2⟩ := markOwnI_ok p.2 b S2 L1 (k + gsz d + p.1.length) q2 (by omega) (by omega) (by omega)
    have keep2 : ∀ T : List Nat, (∀ j ∈ T, j ∉ S2) → Kept T L1 L2 := fun T hT j hj _ _ _ _ hq => by rw [f2 j (hT j hj)]; exact hq
    have ktr : ∀ {T : List Nat} {A B C : List AObj}, Kept T A B → Kept T B C → Kept T A C := fun h1 h2 j hj _ _ _ _ hq => h2 j hj _ _ _ _ (h1 j hj _ _ _ _ hq)
    have oD := k4.mono (ktr (keep1 Sd fun j hj hj1 => nd.2.2 j hj j (by simp [hj1]) rfl) (keep2 Sd fun j hj hj1 => nd.2.2 j hj j (by simp [hj1]) rfl))
    have oR := k7.mono (ktr (keep1 Sr fun j hj hj1 => nd2.2.2 j hj1 j (by simp [hj]) rfl) (keep2 Sr fun j hj hj1 => nd3.2.2 j hj1 j hj rfl))
    have oA := o1.mono (keep2 S1 fun j hj hj1 => nd2.2.2 j hj j (by simp [hj1]) rfl)
    have oJ := OwnPE.join (p := (mkI p.1 (k + gsz d), mkI p.2 (k + gsz d + p.1.length))) oD oA o2 oR
    have hid1 : id ∉ S1 := fun q => hid (by simp [q])
    have hid2 : id ∉ S2 := fun q => hid (by simp [q])
    have hL1 : L1[id]? = some (.vec 70 2 g es) := by rw [f1 id hid1]; exact hLi
    have hL2 : L2[id]? = some (.vec 70 2 g es) := by rw [f2 id hid2]; exact hL1
    refine ⟨⟨d ++ [p], r, L2⟩, ⟨by simp [ha], hL2, ?_, fun j hj => ?_, by rw [n2, n1, hlen]⟩, by simp, ?_⟩
    · rw [mkP_snoc, k1]
      simpa using oJ
    · rw [f2 j (fun q => hj (by simp [q])), f1 j (fun q => hj (by simp [q])), hf j hj]
    refine W.sound hmix (E := []) ?_
    have e1 : (d.length : Int) < (l.length : Int) := by omega
    have e2 : es[d.length]? = some (.agg [a, b]) := by rw [k1, ← k2]; simp
    have e5 : IntKind.i64.wrap ((d.length : Int) + 1) = ((d ++ [p]).length : Int) := by rw [i64_id (by omega) (by omega)]; simp
    have va := k5.vc
    have vb := k6.vc
    have e8 : l.length ≤ es.length := by omega
    have e9 : k + (gsz d : Int) + (p.1.length : Int) + (p.2.length : Int) = k + (gsz (d ++ [p]) : Int) := by rw [gsz_snoc]; unfold psz; omega
    simp only [run0, run1, run2, run3, run4, run5, run6, run7, run8, run9, run10, run11, run12, run13, run14, run15, run16, run17, run18, run19, run20, run21, run22, reduceCtorEq, Nat.reduceEqDiff, Nat.reduceAdd, Nat.reduceSub, Nat.reduceLeDiff, indexAddrA, indexRefA, appendA, strA, Nat.reduceMul, Nat.zero_mul, Nat.reduceMod, Int.reduceEq, Int.reduceLT, Int.reduceLE, Nat.reduceLT, Nat.lt_irrefl, Nat.reduceBEq, tys0, tys1, tys2, tys3, tys4, tys5, tys6, tys7, tys8, tys9, tys10, tys11, tys12, tys13, tys14, tys15, tys16, tys17, tys18, tys19, tys20, tys21, tys22, tys23, Try.ntmps18, Try.results18, e1, e2, e8, hLi, hnO, va, vb, List.mapIdx_cons, List.mapIdx_nil, Int.toNat_natCast, Int.natCast_nonneg]
    refine RunL.callM rfl rfl ok_f53 rfl rfl c1 rfl ?_
    simp only [run0, run1, run2, run3, run4, run5, run6, run7, run8, run9, run10, run11, run12, run13, run14, run15, run16, run17, run18, run19, run20, run21, run22, reduceCtorEq, Nat.reduceEqDiff, Nat.reduceAdd, Nat.reduceSub, Nat.reduceLeDiff, indexAddrA, indexRefA, appendA, strA, Nat.reduceMul, Nat.zero_mul, Nat.reduceMod, Int.reduceEq, Int.reduceLT, Int.reduceLE, Nat.reduceLT, Nat.lt_irrefl, Nat.reduceBEq, tys0, tys1, tys2, tys3, tys4, tys5, tys6, tys7, tys8, tys9, tys10, tys11, tys12, tys13, tys14, tys15, tys16, tys17, tys18, tys19, tys20, tys21, tys22, tys23, Try.ntmps18, Try.results18, e1, e2, e8, hL1, hnO, va, vb, List.mapIdx_cons, List.mapIdx_nil, Int.toNat_natCast, Int.natCast_nonneg]
    refine RunL.callM rfl rfl ok_f53 rfl rfl c2 rfl ?_
    simp only [run0, run1, run2, run3, run4, run5, run6, run7, run8, run9, run10, run11, run12, run13, run14, run15, run16, run17, run18, run19, run20, run21, run22, reduceCtorEq, Nat.reduceEqDiff, Nat.reduceAdd, Nat.reduceSub, Nat.reduceLeDiff, indexAddrA, indexRefA, appendA, strA, Nat.reduceMul, Nat.zero_mul, Nat.reduceMod, Int.reduceEq, Int.reduceLT, Int.reduceLE, Nat.reduceLT, Nat.lt_irrefl, Nat.reduceBEq, tys0, tys1, tys2, tys3, tys4, tys5, tys6, tys7, tys8, tys9, tys10, tys11, tys12, tys13, tys14, tys15, tys16, tys17, tys18, tys19, tys20, tys21, tys22, tys23, Try.ntmps18, Try.results18, e5, e9]
    repeat constructor

theorem heldPositionS_big (l : List GP) (k : Int) (hl : l.length ≤ 1048576) (hs : gsz l ≤ 1048576) (h0 : 0 ≤ k) (hk : k ≤ 4194304) : Ct Try.prog 19 [.sl false ((mkP l k).map posE), .int .i64 k] [] (.int .i64 (k + gsz l)) [] := by
  have hml := mkP_len l k
  refine Ct.by_ hmix [] Try.func19 rfl ?_
  simp only [run0, run1, run2, run3, run4, run5, run6, run7, run8, run9, run10, run11, run12, run13, run14, run15, run16, run17, run18, run19, run20, run21, run22, reduceCtorEq, Nat.reduceEqDiff, Nat.reduceAdd, Nat.reduceSub, Nat.reduceLeDiff, indexAddrA, indexRefA, appendA, strA, Nat.reduceMul, Nat.zero_mul, Nat.reduceMod, Int.reduceEq, Int.reduceLT, Int.reduceLE, Nat.reduceLT, Nat.lt_irrefl, Nat.reduceBEq, tys0, tys1, tys2, tys3, tys4, tys5, tys6, tys7, tys8, tys9, tys10, tys11, tys12, tys13, tys14, tys15, tys16, tys17, tys18, tys19, tys20, tys21, tys22, tys23, Try.ntmps19, Try.results19, hml, List.length_map]
  refine AWp.loop_inv (ι := List GP × List GP) (fun p => ⟨[.sl false ((mkP l k).map posE), .int .i64 (k + gsz p.1), .junk, .junk, .int .i64 0, .int .i64 p.1.length, .junk, .junk, .junk, .junk, .junk, .junk, .junk, .junk, .junk, .junk, .junk, .junk, .junk, .junk, .junk, .junk, .junk, .junk, .junk, .junk, .junk, .junk, .junk, .junk, .junk], []⟩)
    (fun p => l = p.1 ++ p.2) (fun p => p.2.length) ([], l) rfl ⟨by simp only [List.length_nil, gsz, Int.natCast_zero, Int.add_zero]; repeat constructor, rfl⟩ ?_
  rintro ⟨d, r⟩ ha
  refine W.sound hmix (E := []) ?_
  simp only at ha
  have hda : l.length = d.length + r.length := by rw [ha, List.length_append]
  cases r with
  | nil =>
    have e1 : ¬ ((d.length : Int) < (l.length : Int)) := by simp at hda; omega
    simp only [run0, run1, run2, run3, run4, run5, run6, run7, run8, run9, run10, run11, run12, run13, run14, run15, run16, run17, run18, run19, run20, run21, run22, reduceCtorEq, Nat.reduceEqDiff, Nat.reduceAdd, Nat.reduceSub, Nat.reduceLeDiff, indexAddrA, indexRefA, appendA, strA, Nat.reduceMul, Nat.zero_mul, Nat.reduceMod, Int.reduceEq, Int.reduceLT, Int.reduceLE, Nat.reduceLT, Nat.lt_irrefl, Nat.reduceBEq, tys0, tys1, tys2, tys3, tys4, tys5, tys6, tys7, tys8, tys9, tys10, tys11, tys12, tys13, tys14, tys15, tys16, tys17, tys18, tys19, tys20, tys21, tys22, tys23, Try.ntmps19, Try.results19, e1, hml, List.length_map]
    refine Fin.eq ?_ rfl
    rw [ha]; simp
  | cons p r =>
    simp only [List.length_cons] at hda
    have hp : psz p ≤ 1048576 := Nat.le_trans (gsz_mem (by rw [ha]; simp)) hs
    have hgd : gsz d + psz p ≤ 1048576 := by
      have e : gsz l = gsz d + (psz p + gsz r) := by rw [ha, gsz_app]; rfl
      omega
    unfold psz at hp hgd
    have e1 : (d.length : Int) < (l.length : Int) := by omega
    have e2 : ((mkP l k).map posE)[d.length]? = some (.agg [.sl false (ints (mkI p.1 (k + gsz d))), .sl false (ints (mkI p.2 (k + gsz d + p.1.length)))]) := by
      have : l = (d ++ [p]) ++ r := by rw [ha]; simp
      have e : ∀ (x y : List GP) (k : Int), ∃ z, mkP (x ++ y) k = mkP x k ++ z := by
        intro x
        induction x with
        | nil => intro y k; exact ⟨_, rfl⟩
        | cons q x ih => intro y k; obtain ⟨z, hz⟩ := ih y (k + psz q); exact ⟨z, by simp [mkP, hz]⟩
      obtain ⟨z, hz⟩ := e (d ++ [p]) r k
      rw [this, hz, mkP_snoc]
      have hdl := mkP_len d k
      rw [List.map_append, List.map_append, List.append_assoc, List.getElem?_append_right (by simp [hdl])]
      simp [hdl, posE]
    have h1 := heldIntS_ok p.1 (k + gsz d) (by omega) (by omega) (by omega)
    have h2 := heldIntS_ok p.2 (k + gsz d + p.1.length) (by omega) (by omega) (by omega)
    have n1 : ¬ (k + (gsz d : Int) + (p.1.length : Int) < 0) := by omega
    have n2 : ¬ (k + (gsz d : Int) + (p.1.length : Int) + (p.2.length : Int) < 0) := by omega
    have n3 : ¬ (k + (gsz (d ++ [p]) : Int) < 0) := by omega
    have e5 : IntKind.i64.wrap ((d.length : Int) + 1) = ((d ++ [p]).length : Int) := by rw [i64_id (by omega) (by omega)]; simp
    have e9 : k + (gsz d : Int) + (p.1.length : Int) + (p.2.length : Int) = k + (gsz (d ++ [p]) : Int) := by rw [gsz_snoc]; unfold psz; omega
    simp only [run0, run1, run2, run3, run4, run5, run6, run7, run8, run9, run10, run11, run12, run13, run14, run15, run16, run17, run18, run19, run20, run21, run22, reduceCtorEq, Nat.reduceEqDiff, Nat.reduceAdd, Nat.reduceSub, Nat.reduceLeDiff, indexAddrA, indexRefA, appendA, strA, Nat.reduceMul, Nat.zero_mul, Nat.reduceMod, Int.reduceEq, Int.reduceLT, Int.reduceLE, Nat.reduceLT, Nat.lt_irrefl, Nat.reduceBEq, tys0, tys1, tys2, tys3, tys4, tys5, tys6, tys7, tys8, tys9, tys10, tys11, tys12, tys13, tys14, tys15, tys16, tys17, tys18, tys19, tys20, tys21, tys22, tys23, Try.ntmps19, Try.results19, e1, e2, hml, List.length_map, Int.toNat_natCast, Int.natCast_nonneg]
    refine RunL.callp rfl rfl ok_f54 h1 (by simp only [pureL, pureB, ints_pure, Bool.and_self]) rfl ?_
    simp only [run0, run1, run2, run3, run4, run5, run6, run7, run8, run9, run10, run11, run12, run13, run14, run15, run16, run17, run18, run19, run20, run21, run22, reduceCtorEq, Nat.reduceEqDiff, Nat.reduceAdd, Nat.reduceSub, Nat.reduceLeDiff, indexAddrA, indexRefA, appendA, strA, Nat.reduceMul, Nat.zero_mul, Nat.reduceMod, Int.reduceEq, Int.reduceLT, Int.reduceLE, Nat.reduceLT, Nat.lt_irrefl, Nat.reduceBEq, tys0, tys1, tys2, tys3, tys4, tys5, tys6, tys7, tys8, tys9, tys10, tys11, tys12, tys13, tys14, tys15, tys16, tys17, tys18, tys19, tys20, tys21, tys22, tys23, Try.ntmps19, Try.results19, e1, e2, n1, hml, List.length_map, Int.toNat_natCast, Int.natCast_nonneg]
    refine RunL.callp rfl rfl ok_f54 h2 (by simp only [pureL, pureB, ints_pure, Bool.and_self]) rfl ?_
    simp only [run0, run1, run2, run3, run4, run5, run6, run7, run8, run9, run10, run11, run12, run13, run14, run15, run16, run17, run18, run19, run20, run21, run22, reduceCtorEq, Nat.reduceEqDiff, Nat.reduceAdd, Nat.reduceSub, Nat.reduceLeDiff, indexAddrA, indexRefA, appendA, strA, Nat.reduceMul, Nat.zero_mul, Nat.reduceMod, Int.reduceEq, Int.reduceLT, Int.reduceLE, Nat.reduceLT, Nat.lt_irrefl, Nat.reduceBEq, tys0, tys1, tys2, tys3, tys4, tys5, tys6, tys7, tys8, tys9, tys10, tys11, tys12, tys13, tys14, tys15, tys16, tys17, tys18, tys19, tys20, tys21, tys22, tys23, Try.ntmps19, Try.results19, n2, n3, e5, e9]
    exact ⟨(d ++ [p], r), by simp [ha], by simp, by simp only [List.length_append, List.length_cons, List.length_nil]; repeat constructor⟩

end Go.Proofs.Ytllcljajlemmaaa
