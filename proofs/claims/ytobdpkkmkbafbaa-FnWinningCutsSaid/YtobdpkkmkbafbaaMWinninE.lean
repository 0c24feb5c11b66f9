/-
  Texts joined in one: SP1, SP2, FR1, SP3, SP4, SP5, BRD, SP6, BRC, GD6, GL3.
-/
import Derived.Test.YtobdpkkmkbafbaaMWinninD
import Derived.Test.YtobdpkkmkbafbaaMWinninB
/-
  Green pictures by the reference: lists of numbers and of marks; the knots that hang on one.
-/
namespace Go.Proofs.Ytobdpkkmkbafbaa
open Go K
set_option linter.unusedSimpArgs false
set_option linter.unusedVariables false
set_option maxHeartbeats 1600000
set_option maxRecDepth 8000

abbrev bools (l : List Bool) : List AV := l.map AV.bool
theorem bools_pure : ∀ l : List Bool, pureL (bools l) = true
  | [] => rfl
  | x :: r => by
    have := bools_pure r
    simp only [bools, List.map_cons, pureL, pureB, Bool.true_and] at this ⊢
    exact this
theorem bools_noOwn (l : List Bool) : noOwn (bools l) = true := by
  refine List.all_eq_true.2 fun e he => ?_
  obtain ⟨i, _, rfl⟩ := List.mem_map.1 he; rfl
theorem nats_noOwn (l : List Nat) : noOwn (nats l) = true := by
  refine List.all_eq_true.2 fun e he => ?_
  obtain ⟨i, _, rfl⟩ := List.mem_map.1 he; rfl
def bl (n : Nat) (p : Nat → Bool) : List Bool := (List.range n).map p
theorem bl_len (n : Nat) (p : Nat → Bool) : (bl n p).length = n := by simp [bl]
theorem bls_len (n : Nat) (p : Nat → Bool) : (bools (bl n p)).length = n := by simp [bl]
theorem bl_get {n i : Nat} {p : Nat → Bool} (h : i < n) : (bools (bl n p))[i]? = some (.bool (p i)) := by simp [bl, h]
theorem bl_succ (n : Nat) (p : Nat → Bool) : bools (bl (n + 1) p) = bools (bl n p) ++ [.bool (p n)] := by simp [bl, List.range_succ]
theorem nats_len (l : List Nat) : (nats l).length = l.length := by simp [nats]
theorem Vw_bools {L : List AObj} {id g n sz : Nat} {T : TypeId} {es : List AV} {a : List Bool} (hL : L[id]? = some (.vec T sz g es)) (he : es = bools a) (hn : n = a.length) : Vw L (.ref id [] g n) (.sl false (bools a)) := by
  subst he hn
  have := Vw.refPur (o := false) hL (n := a.length) (by simp) (fun e he c hc => by
    simp only [bools, List.mem_map] at he
    obtain ⟨i, _, rfl⟩ := he
    simp [AV.cells] at hc
    subst hc
    exact ⟨.of rfl, fun xs h => by cases h⟩)
  rwa [List.take_of_length_le (by simp)] at this
theorem Vw_nats {L : List AObj} {id g n sz : Nat} {T : TypeId} {es : List AV} {a : List Nat} (hL : L[id]? = some (.vec T sz g es)) (he : es = nats a) (hn : n = a.length) : Vw L (.ref id [] g n) (.sl false (nats a)) := by
  subst he hn
  have := Vw.refPur (o := false) hL (n := a.length) (by simp [nats]) (fun e he c hc => by
    simp only [nats, List.mem_map] at he
    obtain ⟨i, _, rfl⟩ := he
    simp [AV.cells] at hc
    subst hc
    exact ⟨.of rfl, fun xs h => by cases h⟩)
  rwa [List.take_of_length_le (by simp [nats])] at this
theorem hasN_ok (l : List Nat) (x : Nat) (hl : l.length ≤ 1048576) : Ct Try.prog 54 [.sl false (nats l), .int .i64 x] [] (.bool (l.contains x)) [] := by
  refine Ct.by_ hmix [] Try.func54 rfl ?_
  simp only [run0, run1, run2, run3, run4, run5, run6, run7, run8, run9, run10, run11, run12, run13, run14, run15, run16, run17, run18, run19, run20, run21, run22, reduceCtorEq, Nat.reduceEqDiff, Nat.reduceAdd, Nat.reduceSub, Nat.reduceLeDiff, indexAddrA, indexRefA, appendA, strA, Nat.reduceMul, Nat.zero_mul, Nat.reduceMod, Int.reduceEq, Int.reduceLT, Int.reduceLE, Nat.reduceLT, Nat.lt_irrefl, Nat.reduceBEq, tys0, tys1, tys2, tys3, tys4, tys5, tys6, tys7, tys8, tys9, tys10, Try.ntmps54, Try.results54, nats_len]
  refine AWp.loop_inv (ι := List Nat × List Nat) (fun p => ⟨[.junk, .int .i64 x, .junk, .junk, .bool false, .junk, .junk, .sl false (nats l), .int .i64 l.length, .int .i64 p.1.length, .junk, .junk, .junk, .junk, .junk, .junk, .junk], []⟩)
    (fun p => l = p.1 ++ p.2 ∧ l.contains x = p.2.contains x) (fun p => p.2.length) ([], l) ⟨rfl, rfl⟩ ⟨by simp only [List.length_nil, Int.natCast_zero]; repeat constructor, rfl⟩ ?_
  rintro ⟨d, r⟩ ⟨ha, h4⟩
  refine W.sound hmix (E := []) ?_
  simp only at ha h4
  have hda : d.length + r.length = l.length := by rw [ha, List.length_append]
  cases r with
  | nil =>
    have e1 : ¬ ((d.length : Int) < (l.length : Int)) := by simp at hda; omega
    simp only [run0, run1, run2, run3, run4, run5, run6, run7, run8, run9, run10, run11, run12, run13, run14, run15, run16, run17, run18, run19, run20, run21, run22, reduceCtorEq, Nat.reduceEqDiff, Nat.reduceAdd, Nat.reduceSub, Nat.reduceLeDiff, indexAddrA, indexRefA, appendA, strA, Nat.reduceMul, Nat.zero_mul, Nat.reduceMod, Int.reduceEq, Int.reduceLT, Int.reduceLE, Nat.reduceLT, Nat.lt_irrefl, Nat.reduceBEq, tys0, tys1, tys2, tys3, tys4, tys5, tys6, tys7, tys8, tys9, tys10, Try.ntmps54, Try.results54, e1]
    exact Fin.eq (by rw [h4]; rfl) rfl
  | cons t r =>
    simp only [List.length_cons] at hda
    have e1 : (d.length : Int) < (l.length : Int) := by omega
    have e2 : (nats l)[d.length]? = some (.int .i64 t) := by rw [ha]; simp [nats]
    have e5 : IntKind.i64.wrap ((d.length : Int) + 1) = ((d ++ [t]).length : Int) := by rw [s64_id (by omega) (by omega)]; simp
    by_cases h : t = x
    · subst h
      simp only [run0, run1, run2, run3, run4, run5, run6, run7, run8, run9, run10, run11, run12, run13, run14, run15, run16, run17, run18, run19, run20, run21, run22, reduceCtorEq, Nat.reduceEqDiff, Nat.reduceAdd, Nat.reduceSub, Nat.reduceLeDiff, indexAddrA, indexRefA, appendA, strA, Nat.reduceMul, Nat.zero_mul, Nat.reduceMod, Int.reduceEq, Int.reduceLT, Int.reduceLE, Nat.reduceLT, Nat.lt_irrefl, Nat.reduceBEq, tys0, tys1, tys2, tys3, tys4, tys5, tys6, tys7, tys8, tys9, tys10, Try.ntmps54, Try.results54, e1, e2, Int.toNat_natCast, Int.natCast_nonneg, beq_self_eq_true]
      exact Fin.eq (by rw [h4]; simp) rfl
    · have e3 : ((t : Int) == (x : Int)) = false := by simp; omega
      simp only [run0, run1, run2, run3, run4, run5, run6, run7, run8, run9, run10, run11, run12, run13, run14, run15, run16, run17, run18, run19, run20, run21, run22, reduceCtorEq, Nat.reduceEqDiff, Nat.reduceAdd, Nat.reduceSub, Nat.reduceLeDiff, indexAddrA, indexRefA, appendA, strA, Nat.reduceMul, Nat.zero_mul, Nat.reduceMod, Int.reduceEq, Int.reduceLT, Int.reduceLE, Nat.reduceLT, Nat.lt_irrefl, Nat.reduceBEq, tys0, tys1, tys2, tys3, tys4, tys5, tys6, tys7, tys8, tys9, tys10, Try.ntmps54, Try.results54, e1, e2, e3, e5, Int.toNat_natCast, Int.natCast_nonneg]
      exact ⟨(d ++ [t], r), ⟨by rw [ha]; simp, by rw [h4]; simp [h]; omega⟩, by simp, by simp only [List.length_append, List.length_cons, List.length_nil]; repeat constructor⟩
theorem grAll_ok (g : GTw) (hg : Pic g) : Ct Try.prog 39 [.sl false (g.map twE)] [] (.sl false (bools (bl g.length fun _ => true))) [] := by
  have hgl := hg.1
  refine Ct.by_ hmix [] Try.func39 rfl ?_
  simp only [run0, run1, run2, run3, run4, run5, run6, run7, run8, run9, run10, run11, run12, run13, run14, run15, run16, run17, run18, run19, run20, run21, run22, reduceCtorEq, Nat.reduceEqDiff, Nat.reduceAdd, Nat.reduceSub, Nat.reduceLeDiff, indexAddrA, indexRefA, appendA, strA, Nat.reduceMul, Nat.zero_mul, Nat.reduceMod, Int.reduceEq, Int.reduceLT, Int.reduceLE, Nat.reduceLT, Nat.lt_irrefl, Nat.reduceBEq, tys0, tys1, tys2, tys3, tys4, tys5, tys6, tys7, tys8, tys9, tys10, Try.ntmps39, Try.results39, List.length_map]
  refine AWp.nil 3 4 1 rfl ?_
  refine AWp.loop_inv (ι := Nat) (fun p => ⟨[.sl false (g.map twE), .junk, nilV, .ref 0 [] p p, .junk, .int .i64 g.length, .int .i64 p, .junk, .junk, .junk, .junk, .junk, .junk], [.vec 4 1 p (bools (bl p fun _ => true))]⟩)
    (fun p => p ≤ g.length) (fun p => g.length - p) 0 (Nat.zero_le _) ⟨by simp only [Int.natCast_zero]; repeat constructor, rfl⟩ ?_
  intro n hn
  refine W.sound hmix (E := []) ?_
  by_cases h : n < g.length
  · have e1 : (n : Int) < (g.length : Int) := by omega
    have e5 : IntKind.i64.wrap ((n : Int) + 1) = ((n + 1 : Nat) : Int) := by rw [s64_id (by omega) (by omega)]; simp
    have f3 : n + 1 ≤ 137438953472 := by omega
    have f4 := bools_noOwn (bl n fun _ => true)
    have f5 := bls_len n fun _ => true
    simp only [run0, run1, run2, run3, run4, run5, run6, run7, run8, run9, run10, run11, run12, run13, run14, run15, run16, run17, run18, run19, run20, run21, run22, reduceCtorEq, Nat.reduceEqDiff, Nat.reduceAdd, Nat.reduceSub, Nat.reduceLeDiff, indexAddrA, indexRefA, appendA, strA, Nat.reduceMul, Nat.zero_mul, Nat.reduceMod, Int.reduceEq, Int.reduceLT, Int.reduceLE, Nat.reduceLT, Nat.lt_irrefl, Nat.reduceBEq, tys0, tys1, tys2, tys3, tys4, tys5, tys6, tys7, tys8, tys9, tys10, Try.ntmps39, Try.results39, e1, e5, f3, f4, f5]
    exact ⟨n + 1, by omega, by omega, by repeat constructor, by rw [bl_succ]⟩
  · obtain rfl : n = g.length := by omega
    simp only [run0, run1, run2, run3, run4, run5, run6, run7, run8, run9, run10, run11, run12, run13, run14, run15, run16, run17, run18, run19, run20, run21, run22, reduceCtorEq, Nat.reduceEqDiff, Nat.reduceAdd, Nat.reduceSub, Nat.reduceLeDiff, indexAddrA, indexRefA, appendA, strA, Nat.reduceMul, Nat.zero_mul, Nat.reduceMod, Int.reduceEq, Int.reduceLT, Int.reduceLE, Nat.reduceLT, Nat.lt_irrefl, Nat.reduceBEq, tys0, tys1, tys2, tys3, tys4, tys5, tys6, tys7, tys8, tys9, tys10, Try.ntmps39, Try.results39, Int.lt_irrefl]
    exact Fin.value (Vw_bools rfl rfl (bl_len _ _).symm)

end Go.Proofs.Ytobdpkkmkbafbaa
/-
  Green pictures by the reference: the knots that hang on one.
-/
namespace Go.Proofs.Ytobdpkkmkbafbaa
open Go K
set_option linter.unusedSimpArgs false
set_option linter.unusedVariables false
set_option maxHeartbeats 3200000
set_option maxRecDepth 8000

theorem nd_le : ∀ (n : Nat) (l : List Nat), l.Nodup → (∀ x ∈ l, x < n) → l.length ≤ n
  | 0, l, _, h => by
    cases l with
    | nil => simp
    | cons a l => exact absurd (h a (by simp)) (Nat.not_lt_zero _)
  | n + 1, l, hd, h => by
    by_cases hn : n ∈ l
    · have := nd_le n (l.erase n) (hd.erase n) fun x hx => by
        have h1 := (hd.mem_erase_iff).1 hx
        have := h x h1.2
        omega
      rw [List.length_erase_of_mem hn] at this
      omega
    · have := nd_le n l hd fun x hx => by
        have := h x hx
        have : x ≠ n := fun e => hn (e ▸ hx)
        omega
      omega
theorem rch_le {g : GTw} (hg : Pic g) {p : Nat → Bool} {k x : Nat} (hk : k ≤ 12) (h : Rch g p k x) : x ≤ 12 := by
  cases h with
  | refl => exact hk
  | fwd h1 _ _ => exact (hg.2 _ (List.mem_of_getElem? h1)).2
  | bwd h1 _ _ => exact (hg.2 _ (List.mem_of_getElem? h1)).1
def twB (t : Nat × Nat) : AObj := .box 30 [.int .i64 t.1, .int .i64 t.2]
structure KnS where
  k : Nat
  F : List Nat
  X : List AObj
structure KiS where
  d : GTw
  r : GTw
  F : List Nat
theorem nats_snoc (F : List Nat) (b : Nat) : nats F ++ [.int .i64 b] = nats (F ++ [b]) := by simp [nats]
theorem addK_t {F : List Nat} {c : Bool} {b : Nat} (hc : c = true) (h : F.contains b = false) : addK F c b = F ++ [b] := by subst hc; unfold addK; rw [h]; rfl
theorem addK_c {F : List Nat} {c : Bool} {b : Nat} (h : F.contains b = true) : addK F c b = F := by unfold addK; rw [h]; simp
theorem addK_f {F : List Nat} {c : Bool} {b : Nat} (hc : c = false) : addK F c b = F := by subst hc; rfl
theorem grKnots_ok (g : GTw) (hg : Pic g) (p : Nat → Bool) (s : Nat) (hs : s ≤ 12) : ∃ F : List Nat, F.length ≤ 13 ∧ (∀ x, x ∈ F ↔ Rch g p s x) ∧
    Ct Try.prog 53 [.sl false (g.map twE), .sl false (bools (bl g.length p)), .int .i64 s] [] (.sl false (nats F)) [] := by
  have hgl := hg.1
  have hpu := twE_pure g
  suffices h : ∃ r L', Ct Try.prog 53 [.sl false (g.map twE), .sl false (bools (bl g.length p)), .int .i64 s] [] r L' ∧ ∃ F : List Nat, F.length ≤ 13 ∧ (∀ x, x ∈ F ↔ Rch g p s x) ∧ r = .sl false (nats F) ∧ L' = [] by
    obtain ⟨r, L', h1, F, h2, h3, rfl, rfl⟩ := h
    exact ⟨F, h2, h3, h1⟩
  refine Ct.ex hmix [1000000 + 12] Try.func53 rfl ?_
  simp only [run0, run1, run2, run3, run4, run5, run6, run7, run8, run9, run10, run11, run12, run13, run14, run15, run16, run17, run18, run19, run20, run21, run22, reduceCtorEq, Nat.reduceEqDiff, Nat.reduceAdd, Nat.reduceSub, Nat.reduceLeDiff, indexAddrA, indexRefA, appendA, strA, Nat.reduceMul, Nat.zero_mul, Nat.reduceMod, Int.reduceEq, Int.reduceLT, Int.reduceLE, Nat.reduceLT, Nat.lt_irrefl, Nat.reduceBEq, tys0, tys1, tys2, tys3, tys4, tys5, tys6, tys7, tys8, tys9, tys10, Try.ntmps53, Try.results53]
  refine AWp.loop_exK (ι := KnS) (fun q => ⟨[.sl false (g.map twE), .sl false (bools (bl g.length p)), .junk, .junk, .junk, .junk, nilV, .ref 0 [] (q.F.length - 1) q.F.length, .int .i64 q.k, .junk, .junk, .junk, .junk, .junk, .junk, .junk, .junk, .junk, .junk, .junk, .junk, .junk, .junk, .junk, .junk, .junk, .junk, .junk, .junk, .junk, .junk, .junk, .junk, .junk, .junk, .junk, .junk, .junk, .junk, .junk, .junk, .junk, .junk, .junk, .junk, .junk, .junk, .junk, .junk, .junk, .junk, .junk, .junk, .junk, .junk, .junk, .junk, .junk, .junk, .junk, .junk, .junk, .junk, .junk, .junk, .junk, .junk, .junk, .junk, .junk, .junk], .vec 3 1 (q.F.length - 1) (nats q.F) :: q.X⟩)
    (fun q => q.k ≤ q.F.length ∧ BfI g p s q.F q.k) (fun q => 14 - q.k) ⟨0, [s], []⟩ ⟨Nat.zero_le _, BfI.start g p s⟩ ⟨by repeat constructor, rfl⟩ ?_
  rintro ⟨k, F, X⟩ ⟨hk, hI⟩
  simp only at hk hI
  have hFl : F.length ≤ 13 := nd_le 13 F hI.nd fun x hx => by have := rch_le hg hs (hI.sub x hx); omega
  have hF1 : 1 ≤ F.length := by
    cases F with
    | nil => have := hI.has; simp at this
    | cons a F => simp
  by_cases hlt : k < F.length
  case neg =>
    obtain rfl : k = F.length := by omega
    left
    refine ⟨.sl false (nats F), [], ?_, F, hFl, hI.done, rfl, rfl⟩
    refine W.sound hmix (E := []) ?_
    simp only [run0, run1, run2, run3, run4, run5, run6, run7, run8, run9, run10, run11, run12, run13, run14, run15, run16, run17, run18, run19, run20, run21, run22, reduceCtorEq, Nat.reduceEqDiff, Nat.reduceAdd, Nat.reduceSub, Nat.reduceLeDiff, indexAddrA, indexRefA, appendA, strA, Nat.reduceMul, Nat.zero_mul, Nat.reduceMod, Int.reduceEq, Int.reduceLT, Int.reduceLE, Nat.reduceLT, Nat.lt_irrefl, Nat.reduceBEq, tys0, tys1, tys2, tys3, tys4, tys5, tys6, tys7, tys8, tys9, tys10, Try.ntmps53, Try.results53, Int.lt_irrefl]
    exact Fin.value (Vw_nats rfl rfl rfl)
  right
  obtain ⟨x, hx⟩ : ∃ x, F[k]? = some x := ⟨F[k], by simp [hlt]⟩
  refine ⟨⟨k + 1, bPass p x 0 g F, X ++ g.map twB⟩, ⟨?_, hI.step hx⟩, by simp only; omega, ?_⟩
  · obtain ⟨Y, hY⟩ := bPass_pre p x g 0 F
    rw [hY]; simp; omega
  refine W.sound hmix (E := []) ?_
  have e0 : (k : Int) < (F.length : Int) := by omega
  simp only [run0, run1, run2, run3, run4, run5, run6, run7, run8, run9, run10, run11, run12, run13, run14, run15, run16, run17, run18, run19, run20, run21, run22, reduceCtorEq, Nat.reduceEqDiff, Nat.reduceAdd, Nat.reduceSub, Nat.reduceLeDiff, indexAddrA, indexRefA, appendA, strA, Nat.reduceMul, Nat.zero_mul, Nat.reduceMod, Int.reduceEq, Int.reduceLT, Int.reduceLE, Nat.reduceLT, Nat.lt_irrefl, Nat.reduceBEq, tys0, tys1, tys2, tys3, tys4, tys5, tys6, tys7, tys8, tys9, tys10, Try.ntmps53, Try.results53, e0, List.length_map]
  refine AWp.loop_inv (ι := KiS) (fun q => ⟨[.sl false (g.map twE), .sl false (bools (bl g.length p)), .junk, .junk, .junk, .junk, nilV, .ref 0 [] (q.F.length - 1) q.F.length, .int .i64 k, .junk, .junk, .junk, .junk, .junk, .junk, .junk, .junk, .junk, .junk, .sl false (g.map twE), .int .i64 g.length, .int .i64 q.d.length, .junk, .junk, .junk, .junk, .junk, .junk, .junk, .junk, .junk, .junk, .junk, .junk, .junk, .junk, .junk, .junk, .junk, .junk, .junk, .junk, .junk, .junk, .junk, .junk, .junk, .junk, .junk, .junk, .junk, .junk, .junk, .junk, .junk, .junk, .junk, .junk, .junk, .junk, .junk, .junk, .junk, .junk, .junk, .junk, .junk, .junk, .junk, .junk, .junk], .vec 3 1 (q.F.length - 1) (nats q.F) :: (X ++ q.d.map twB)⟩)
    (fun q => g = q.d ++ q.r ∧ bPass p x q.d.length q.r q.F = bPass p x 0 g F ∧ q.F[k]? = some x ∧ q.F.length ≤ 100 + 2 * q.d.length ∧ 1 ≤ q.F.length) (fun q => q.r.length) ⟨[], g, F⟩ ⟨rfl, rfl, hx, by simp only; omega, hF1⟩ ⟨by simp only [List.length_nil, Int.natCast_zero]; repeat constructor, by simp⟩ ?_
  rintro ⟨d, r, F1⟩ ⟨ha, hP, hx1, hf1, hf2⟩
  refine W.sound hmix (E := [54]) ?_
  simp only at ha hP hx1 hf1 hf2
  have hda : d.length + r.length = g.length := by rw [ha, List.length_append]
  cases r with
  | nil =>
    have e1 : ¬ ((d.length : Int) < (g.length : Int)) := by simp at hda; omega
    have e5 : IntKind.i64.wrap ((k : Int) + 1) = ((k + 1 : Nat) : Int) := by rw [s64_id (by omega) (by omega)]; simp
    rw [List.append_nil] at ha
    subst ha
    have hP : F1 = bPass p x 0 g F := hP
    subst hP
    simp only [run0, run1, run2, run3, run4, run5, run6, run7, run8, run9, run10, run11, run12, run13, run14, run15, run16, run17, run18, run19, run20, run21, run22, reduceCtorEq, Nat.reduceEqDiff, Nat.reduceAdd, Nat.reduceSub, Nat.reduceLeDiff, indexAddrA, indexRefA, appendA, strA, Nat.reduceMul, Nat.zero_mul, Nat.reduceMod, Int.reduceEq, Int.reduceLT, Int.reduceLE, Nat.reduceLT, Nat.lt_irrefl, Nat.reduceBEq, tys0, tys1, tys2, tys3, tys4, tys5, tys6, tys7, tys8, tys9, tys10, Try.ntmps53, Try.results53, e1, e5]
    first | exact ⟨by repeat constructor, rfl⟩ | repeat constructor
  | cons t r =>
    obtain ⟨a, b⟩ := t
    simp only [List.length_cons] at hda
    have e1 : (d.length : Int) < (g.length : Int) := by omega
    have e2 : (g.map twE)[d.length]? = some (.agg [.int .i64 (a : Int), .int .i64 (b : Int)]) := by rw [ha]; simp [twE]
    have e3 := bl_get (n := g.length) (i := d.length) (p := p) (by omega)
    have e5 : IntKind.i64.wrap ((d.length : Int) + 1) = ((d ++ [(a, b)]).length : Int) := by rw [s64_id (by omega) (by omega)]; simp
    have hk1 : (nats F1)[k]? = some (.int .i64 (x : Int)) := by simp [nats, hx1]
    have hkl : (k : Int) < (F1.length : Int) := by have := (List.getElem?_eq_some_iff.1 hx1).1; omega
    have hZ2 : X ++ (d ++ [(a, b)]).map twB = (X ++ d.map twB) ++ [twB (a, b)] := by simp
    generalize hZ : X ++ d.map twB = Z at *
    have hP : bPass p x (d.length + 1) r (bStep p x d.length (a, b) F1) = bPass p x 0 g F := hP
    cases hp : p d.length
    · have hb : bStep p x d.length (a, b) F1 = F1 := by simp [bStep, addK, hp]
      rw [hp] at e3
      rw [hb] at hP
      simp only [run0, run1, run2, run3, run4, run5, run6, run7, run8, run9, run10, run11, run12, run13, run14, run15, run16, run17, run18, run19, run20, run21, run22, reduceCtorEq, Nat.reduceEqDiff, Nat.reduceAdd, Nat.reduceSub, Nat.reduceLeDiff, indexAddrA, indexRefA, appendA, strA, Nat.reduceMul, Nat.zero_mul, Nat.reduceMod, Int.reduceEq, Int.reduceLT, Int.reduceLE, Nat.reduceLT, Nat.lt_irrefl, Nat.reduceBEq, tys0, tys1, tys2, tys3, tys4, tys5, tys6, tys7, tys8, tys9, tys10, Try.ntmps53, Try.results53, e1, e2, e3, e5, Int.toNat_natCast, Int.natCast_nonneg, List.getElem?_append_right, Nat.le_refl, Nat.sub_self]
      exact ⟨⟨d ++ [(a, b)], r, F1⟩, ⟨by rw [ha]; simp, by simpa using hP, hx1, by simp; omega, hf2⟩, by simp, by simp only [List.length_append, List.length_cons, List.length_nil, Nat.zero_add]; repeat constructor, by rw [hZ2]; rfl⟩
    rw [hp] at e3
    have hbS : bStep p x d.length (a, b) F1 = addK (addK F1 (a == x) b) (b == x) a := by simp [bStep, hp]
    rw [hbS] at hP
    simp only [run0, run1, run2, run3, run4, run5, run6, run7, run8, run9, run10, run11, run12, run13, run14, run15, run16, run17, run18, run19, run20, run21, run22, reduceCtorEq, Nat.reduceEqDiff, Nat.reduceAdd, Nat.reduceSub, Nat.reduceLeDiff, indexAddrA, indexRefA, appendA, strA, Nat.reduceMul, Nat.zero_mul, Nat.reduceMod, Int.reduceEq, Int.reduceLT, Int.reduceLE, Nat.reduceLT, Nat.lt_irrefl, Nat.reduceBEq, tys0, tys1, tys2, tys3, tys4, tys5, tys6, tys7, tys8, tys9, tys10, Try.ntmps53, Try.results53, e1, e2, e3, Int.toNat_natCast, Int.natCast_nonneg, List.getElem?_append_right, Nat.le_refl, Nat.sub_self]
    have hgen : F1.length - 1 + 1 = F1.length := by omega
    have hkl0 := (List.getElem?_eq_some_iff.1 hx1).1
    have g3 : F1.length + 1 ≤ 137438953472 := by omega
    have g4 := nats_noOwn F1
    have g5 : (nats F1).length = F1.length := by simp [nats]
    have hv1 : ∀ Y, Vw (.vec 3 1 (F1.length - 1) (nats F1) :: Y) (.ref 0 [] (F1.length - 1) F1.length) (.sl false (nats F1)) := fun Y => Vw_nats rfl rfl rfl
    refine ⟨by kernel_rfl, ?_⟩
    by_cases ca : a = x
    · have q1 : ((a : Int) == (x : Int)) = true := by simp [ca]
      simp only [run0, run1, run2, run3, run4, run5, run6, run7, run8, run9, run10, run11, run12, run13, run14, run15, run16, run17, run18, run19, run20, run21, run22, reduceCtorEq, Nat.reduceEqDiff, Nat.reduceAdd, Nat.reduceSub, Nat.reduceLeDiff, indexAddrA, indexRefA, appendA, strA, Nat.reduceMul, Nat.zero_mul, Nat.reduceMod, Int.reduceEq, Int.reduceLT, Int.reduceLE, Nat.reduceLT, Nat.lt_irrefl, Nat.reduceBEq, tys0, tys1, tys2, tys3, tys4, tys5, tys6, tys7, tys8, tys9, tys10, Try.ntmps53, Try.results53, hk1, hkl, q1, List.mapIdx_cons, List.mapIdx_nil, viewC, Int.toNat_natCast, Int.natCast_nonneg, List.getElem?_append_right, Nat.le_refl, Nat.sub_self]
      refine RunL.lendV rfl rfl ok_f54 rfl (hasN_ok F1 b (by omega)) (.cons (hv1 _) (.cons (.pur (.int _ _)) .nil)) rfl rfl ?_
      cases hc : F1.contains b
      · simp only [run0, run1, run2, run3, run4, run5, run6, run7, run8, run9, run10, run11, run12, run13, run14, run15, run16, run17, run18, run19, run20, run21, run22, reduceCtorEq, Nat.reduceEqDiff, Nat.reduceAdd, Nat.reduceSub, Nat.reduceLeDiff, indexAddrA, indexRefA, appendA, strA, Nat.reduceMul, Nat.zero_mul, Nat.reduceMod, Int.reduceEq, Int.reduceLT, Int.reduceLE, Nat.reduceLT, Nat.lt_irrefl, Nat.reduceBEq, tys0, tys1, tys2, tys3, tys4, tys5, tys6, tys7, tys8, tys9, tys10, Try.ntmps53, Try.results53, hgen, nats_snoc, g3, g4, g5, Int.toNat_natCast, Int.natCast_nonneg, List.getElem?_append_right, Nat.le_refl, Nat.sub_self]
        have a1 : addK F1 (a == x) b = F1 ++ [b] := addK_t (by simp [ca]) hc
        rw [a1] at hP
        have hx2 : (F1 ++ [b])[k]? = some x := by first | exact hx1 | (rw [List.getElem?_append_left (by omega)]; exact hx1)
        have hk2 : (nats (F1 ++ [b]))[k]? = some (.int .i64 (x : Int)) := by unfold nats; rw [List.getElem?_map, hx2]; rfl
        have hkl2 : (k : Int) < ((F1.length + 1 : Nat) : Int) := by omega
        have hv2 : ∀ Y, Vw (.vec 3 1 (F1.length) (nats (F1 ++ [b])) :: Y) (.ref 0 [] (F1.length) (F1.length + 1)) (.sl false (nats (F1 ++ [b]))) := fun Y => Vw_nats rfl rfl (by simp)
        have f3 : F1.length + 1 + 1 ≤ 137438953472 := by omega
        have f4 := nats_noOwn (F1 ++ [b])
        have f5 : (nats (F1 ++ [b])).length = F1.length + 1 := by simp [nats]
        refine ⟨by kernel_rfl, ?_⟩
        by_cases cb : b = x
        · have q2 : ((b : Int) == (x : Int)) = true := by simp [cb]
          simp only [run0, run1, run2, run3, run4, run5, run6, run7, run8, run9, run10, run11, run12, run13, run14, run15, run16, run17, run18, run19, run20, run21, run22, reduceCtorEq, Nat.reduceEqDiff, Nat.reduceAdd, Nat.reduceSub, Nat.reduceLeDiff, indexAddrA, indexRefA, appendA, strA, Nat.reduceMul, Nat.zero_mul, Nat.reduceMod, Int.reduceEq, Int.reduceLT, Int.reduceLE, Nat.reduceLT, Nat.lt_irrefl, Nat.reduceBEq, tys0, tys1, tys2, tys3, tys4, tys5, tys6, tys7, tys8, tys9, tys10, Try.ntmps53, Try.results53, hk2, hkl2, q2, List.mapIdx_cons, List.mapIdx_nil, viewC, e5, Int.toNat_natCast, Int.natCast_nonneg, List.getElem?_append_right, Nat.le_refl, Nat.sub_self, beq_self_eq_true]
          refine RunL.lendV rfl rfl ok_f54 rfl (hasN_ok (F1 ++ [b]) a (by simp; omega)) (.cons (hv2 _) (.cons (.pur (.int _ _)) .nil)) rfl rfl ?_
          cases hc2 : (F1 ++ [b]).contains a
          · have a2 : addK (F1 ++ [b]) (b == x) a = F1 ++ [b] ++ [a] := addK_t (by simp [cb]) hc2
            rw [a2] at hP
            simp only [run0, run1, run2, run3, run4, run5, run6, run7, run8, run9, run10, run11, run12, run13, run14, run15, run16, run17, run18, run19, run20, run21, run22, reduceCtorEq, Nat.reduceEqDiff, Nat.reduceAdd, Nat.reduceSub, Nat.reduceLeDiff, indexAddrA, indexRefA, appendA, strA, Nat.reduceMul, Nat.zero_mul, Nat.reduceMod, Int.reduceEq, Int.reduceLT, Int.reduceLE, Nat.reduceLT, Nat.lt_irrefl, Nat.reduceBEq, tys0, tys1, tys2, tys3, tys4, tys5, tys6, tys7, tys8, tys9, tys10, Try.ntmps53, Try.results53, hgen, nats_snoc, f3, f4, f5, e5, Int.toNat_natCast, Int.natCast_nonneg, List.getElem?_append_right, Nat.le_refl, Nat.sub_self, beq_self_eq_true]
            exact ⟨⟨d ++ [(a, b)], r, F1 ++ [b] ++ [a]⟩, ⟨by rw [ha]; simp, by simpa using hP, by rw [List.getElem?_append_left (by first | omega | (simp; omega))]; exact hx2, by simp; omega, by simp⟩, by simp, by (try simp only [List.length_append, List.length_cons, List.length_nil, Nat.zero_add, Nat.add_sub_cancel]); repeat constructor, by rw [hZ2]; simp [twB]⟩
          · have a2 : addK (F1 ++ [b]) (b == x) a = F1 ++ [b] := addK_c hc2
            rw [a2] at hP
            simp only [run0, run1, run2, run3, run4, run5, run6, run7, run8, run9, run10, run11, run12, run13, run14, run15, run16, run17, run18, run19, run20, run21, run22, reduceCtorEq, Nat.reduceEqDiff, Nat.reduceAdd, Nat.reduceSub, Nat.reduceLeDiff, indexAddrA, indexRefA, appendA, strA, Nat.reduceMul, Nat.zero_mul, Nat.reduceMod, Int.reduceEq, Int.reduceLT, Int.reduceLE, Nat.reduceLT, Nat.lt_irrefl, Nat.reduceBEq, tys0, tys1, tys2, tys3, tys4, tys5, tys6, tys7, tys8, tys9, tys10, Try.ntmps53, Try.results53, e5, Int.toNat_natCast, Int.natCast_nonneg, List.getElem?_append_right, Nat.le_refl, Nat.sub_self, beq_self_eq_true]
            exact ⟨⟨d ++ [(a, b)], r, F1 ++ [b]⟩, ⟨by rw [ha]; simp, by simpa using hP, hx2, by simp; omega, by simp; try omega⟩, by simp, by (try simp only [List.length_append, List.length_cons, List.length_nil, Nat.zero_add, Nat.add_sub_cancel]); repeat constructor, by rw [hZ2]; simp [twB]⟩
        · have q2 : ((b : Int) == (x : Int)) = false := by simp; omega
          have a2 : addK (F1 ++ [b]) (b == x) a = F1 ++ [b] := addK_f (by simp [cb])
          rw [a2] at hP
          simp only [run0, run1, run2, run3, run4, run5, run6, run7, run8, run9, run10, run11, run12, run13, run14, run15, run16, run17, run18, run19, run20, run21, run22, reduceCtorEq, Nat.reduceEqDiff, Nat.reduceAdd, Nat.reduceSub, Nat.reduceLeDiff, indexAddrA, indexRefA, appendA, strA, Nat.reduceMul, Nat.zero_mul, Nat.reduceMod, Int.reduceEq, Int.reduceLT, Int.reduceLE, Nat.reduceLT, Nat.lt_irrefl, Nat.reduceBEq, tys0, tys1, tys2, tys3, tys4, tys5, tys6, tys7, tys8, tys9, tys10, Try.ntmps53, Try.results53, hk2, hkl2, q2, List.mapIdx_cons, List.mapIdx_nil, viewC, e5, Int.toNat_natCast, Int.natCast_nonneg, List.getElem?_append_right, Nat.le_refl, Nat.sub_self, beq_self_eq_true]
          exact ⟨⟨d ++ [(a, b)], r, F1 ++ [b]⟩, ⟨by rw [ha]; simp, by simpa using hP, hx2, by simp; omega, by simp; try omega⟩, by simp, by (try simp only [List.length_append, List.length_cons, List.length_nil, Nat.zero_add, Nat.add_sub_cancel]); repeat constructor, by rw [hZ2]; simp [twB]⟩
      · simp only [run0, run1, run2, run3, run4, run5, run6, run7, run8, run9, run10, run11, run12, run13, run14, run15, run16, run17, run18, run19, run20, run21, run22, reduceCtorEq, Nat.reduceEqDiff, Nat.reduceAdd, Nat.reduceSub, Nat.reduceLeDiff, indexAddrA, indexRefA, appendA, strA, Nat.reduceMul, Nat.zero_mul, Nat.reduceMod, Int.reduceEq, Int.reduceLT, Int.reduceLE, Nat.reduceLT, Nat.lt_irrefl, Nat.reduceBEq, tys0, tys1, tys2, tys3, tys4, tys5, tys6, tys7, tys8, tys9, tys10, Try.ntmps53, Try.results53]
        have a1 : addK F1 (a == x) b = F1 := addK_c hc
        rw [a1] at hP
        have hx2 : (F1)[k]? = some x := by first | exact hx1 | (rw [List.getElem?_append_left (by omega)]; exact hx1)
        have hk2 : (nats (F1))[k]? = some (.int .i64 (x : Int)) := by unfold nats; rw [List.getElem?_map, hx2]; rfl
        have hkl2 : (k : Int) < ((F1.length : Nat) : Int) := by omega
        have hv2 : ∀ Y, Vw (.vec 3 1 (F1.length - 1) (nats (F1)) :: Y) (.ref 0 [] (F1.length - 1) (F1.length)) (.sl false (nats (F1))) := fun Y => Vw_nats rfl rfl (by simp)
        have f3 : F1.length + 1 ≤ 137438953472 := by omega
        have f4 := nats_noOwn (F1)
        have f5 : (nats (F1)).length = F1.length := by simp [nats]
        refine ⟨by kernel_rfl, ?_⟩
        by_cases cb : b = x
        · have q2 : ((b : Int) == (x : Int)) = true := by simp [cb]
          simp only [run0, run1, run2, run3, run4, run5, run6, run7, run8, run9, run10, run11, run12, run13, run14, run15, run16, run17, run18, run19, run20, run21, run22, reduceCtorEq, Nat.reduceEqDiff, Nat.reduceAdd, Nat.reduceSub, Nat.reduceLeDiff, indexAddrA, indexRefA, appendA, strA, Nat.reduceMul, Nat.zero_mul, Nat.reduceMod, Int.reduceEq, Int.reduceLT, Int.reduceLE, Nat.reduceLT, Nat.lt_irrefl, Nat.reduceBEq, tys0, tys1, tys2, tys3, tys4, tys5, tys6, tys7, tys8, tys9, tys10, Try.ntmps53, Try.results53, hk2, hkl2, q2, List.mapIdx_cons, List.mapIdx_nil, viewC, e5, Int.toNat_natCast, Int.natCast_nonneg, List.getElem?_append_right, Nat.le_refl, Nat.sub_self, beq_self_eq_true]
          refine RunL.lendV rfl rfl ok_f54 rfl (hasN_ok (F1) a (by omega)) (.cons (hv2 _) (.cons (.pur (.int _ _)) .nil)) rfl rfl ?_
          cases hc2 : (F1).contains a
          · have a2 : addK (F1) (b == x) a = F1 ++ [a] := addK_t (by simp [cb]) hc2
            rw [a2] at hP
            simp only [run0, run1, run2, run3, run4, run5, run6, run7, run8, run9, run10, run11, run12, run13, run14, run15, run16, run17, run18, run19, run20, run21, run22, reduceCtorEq, Nat.reduceEqDiff, Nat.reduceAdd, Nat.reduceSub, Nat.reduceLeDiff, indexAddrA, indexRefA, appendA, strA, Nat.reduceMul, Nat.zero_mul, Nat.reduceMod, Int.reduceEq, Int.reduceLT, Int.reduceLE, Nat.reduceLT, Nat.lt_irrefl, Nat.reduceBEq, tys0, tys1, tys2, tys3, tys4, tys5, tys6, tys7, tys8, tys9, tys10, Try.ntmps53, Try.results53, hgen, nats_snoc, f3, f4, f5, e5, Int.toNat_natCast, Int.natCast_nonneg, List.getElem?_append_right, Nat.le_refl, Nat.sub_self, beq_self_eq_true]
            exact ⟨⟨d ++ [(a, b)], r, F1 ++ [a]⟩, ⟨by rw [ha]; simp, by simpa using hP, by rw [List.getElem?_append_left (by first | omega | (simp; omega))]; exact hx2, by simp; omega, by simp⟩, by simp, by (try simp only [List.length_append, List.length_cons, List.length_nil, Nat.zero_add, Nat.add_sub_cancel]); repeat constructor, by rw [hZ2]; simp [twB]⟩
          · have a2 : addK (F1) (b == x) a = F1 := addK_c hc2
            rw [a2] at hP
            simp only [run0, run1, run2, run3, run4, run5, run6, run7, run8, run9, run10, run11, run12, run13, run14, run15, run16, run17, run18, run19, run20, run21, run22, reduceCtorEq, Nat.reduceEqDiff, Nat.reduceAdd, Nat.reduceSub, Nat.reduceLeDiff, indexAddrA, indexRefA, appendA, strA, Nat.reduceMul, Nat.zero_mul, Nat.reduceMod, Int.reduceEq, Int.reduceLT, Int.reduceLE, Nat.reduceLT, Nat.lt_irrefl, Nat.reduceBEq, tys0, tys1, tys2, tys3, tys4, tys5, tys6, tys7, tys8, tys9, tys10, Try.ntmps53, Try.results53, e5, Int.toNat_natCast, Int.natCast_nonneg, List.getElem?_append_right, Nat.le_refl, Nat.sub_self, beq_self_eq_true]
            exact ⟨⟨d ++ [(a, b)], r, F1⟩, ⟨by rw [ha]; simp, by simpa using hP, hx2, by simp; omega, by simp; try omega⟩, by simp, by (try simp only [List.length_append, List.length_cons, List.length_nil, Nat.zero_add, Nat.add_sub_cancel]); repeat constructor, by rw [hZ2]; simp [twB]⟩
        · have q2 : ((b : Int) == (x : Int)) = false := by simp; omega
          have a2 : addK (F1) (b == x) a = F1 := addK_f (by simp [cb])
          rw [a2] at hP
          simp only [run0, run1, run2, run3, run4, run5, run6, run7, run8, run9, run10, run11, run12, run13, run14, run15, run16, run17, run18, run19, run20, run21, run22, reduceCtorEq, Nat.reduceEqDiff, Nat.reduceAdd, Nat.reduceSub, Nat.reduceLeDiff, indexAddrA, indexRefA, appendA, strA, Nat.reduceMul, Nat.zero_mul, Nat.reduceMod, Int.reduceEq, Int.reduceLT, Int.reduceLE, Nat.reduceLT, Nat.lt_irrefl, Nat.reduceBEq, tys0, tys1, tys2, tys3, tys4, tys5, tys6, tys7, tys8, tys9, tys10, Try.ntmps53, Try.results53, hk2, hkl2, q2, List.mapIdx_cons, List.mapIdx_nil, viewC, e5, Int.toNat_natCast, Int.natCast_nonneg, List.getElem?_append_right, Nat.le_refl, Nat.sub_self, beq_self_eq_true]
          exact ⟨⟨d ++ [(a, b)], r, F1⟩, ⟨by rw [ha]; simp, by simpa using hP, hx2, by simp; omega, by simp; try omega⟩, by simp, by (try simp only [List.length_append, List.length_cons, List.length_nil, Nat.zero_add, Nat.add_sub_cancel]); repeat constructor, by rw [hZ2]; simp [twB]⟩
    · have q1 : ((a : Int) == (x : Int)) = false := by simp; omega
      simp only [run0, run1, run2, run3, run4, run5, run6, run7, run8, run9, run10, run11, run12, run13, run14, run15, run16, run17, run18, run19, run20, run21, run22, reduceCtorEq, Nat.reduceEqDiff, Nat.reduceAdd, Nat.reduceSub, Nat.reduceLeDiff, indexAddrA, indexRefA, appendA, strA, Nat.reduceMul, Nat.zero_mul, Nat.reduceMod, Int.reduceEq, Int.reduceLT, Int.reduceLE, Nat.reduceLT, Nat.lt_irrefl, Nat.reduceBEq, tys0, tys1, tys2, tys3, tys4, tys5, tys6, tys7, tys8, tys9, tys10, Try.ntmps53, Try.results53, hk1, hkl, q1, List.mapIdx_cons, List.mapIdx_nil, viewC, Int.toNat_natCast, Int.natCast_nonneg, List.getElem?_append_right, Nat.le_refl, Nat.sub_self]
      have a1 : addK F1 (a == x) b = F1 := addK_f (by simp [ca])
      rw [a1] at hP
      have hx2 : (F1)[k]? = some x := by first | exact hx1 | (rw [List.getElem?_append_left (by omega)]; exact hx1)
      have hk2 : (nats (F1))[k]? = some (.int .i64 (x : Int)) := by unfold nats; rw [List.getElem?_map, hx2]; rfl
      have hkl2 : (k : Int) < ((F1.length : Nat) : Int) := by omega
      have hv2 : ∀ Y, Vw (.vec 3 1 (F1.length - 1) (nats (F1)) :: Y) (.ref 0 [] (F1.length - 1) (F1.length)) (.sl false (nats (F1))) := fun Y => Vw_nats rfl rfl (by simp)
      have f3 : F1.length + 1 ≤ 137438953472 := by omega
      have f4 := nats_noOwn (F1)
      have f5 : (nats (F1)).length = F1.length := by simp [nats]
      refine ⟨by kernel_rfl, ?_⟩
      by_cases cb : b = x
      · have q2 : ((b : Int) == (x : Int)) = true := by simp [cb]
        simp only [run0, run1, run2, run3, run4, run5, run6, run7, run8, run9, run10, run11, run12, run13, run14, run15, run16, run17, run18, run19, run20, run21, run22, reduceCtorEq, Nat.reduceEqDiff, Nat.reduceAdd, Nat.reduceSub, Nat.reduceLeDiff, indexAddrA, indexRefA, appendA, strA, Nat.reduceMul, Nat.zero_mul, Nat.reduceMod, Int.reduceEq, Int.reduceLT, Int.reduceLE, Nat.reduceLT, Nat.lt_irrefl, Nat.reduceBEq, tys0, tys1, tys2, tys3, tys4, tys5, tys6, tys7, tys8, tys9, tys10, Try.ntmps53, Try.results53, hk2, hkl2, q2, List.mapIdx_cons, List.mapIdx_nil, viewC, e5, Int.toNat_natCast, Int.natCast_nonneg, List.getElem?_append_right, Nat.le_refl, Nat.sub_self, beq_self_eq_true]
        refine RunL.lendV rfl rfl ok_f54 rfl (hasN_ok (F1) a (by omega)) (.cons (hv2 _) (.cons (.pur (.int _ _)) .nil)) rfl rfl ?_
        cases hc2 : (F1).contains a
        · have a2 : addK (F1) (b == x) a = F1 ++ [a] := addK_t (by simp [cb]) hc2
          rw [a2] at hP
          simp only [run0, run1, run2, run3, run4, run5, run6, run7, run8, run9, run10, run11, run12, run13, run14, run15, run16, run17, run18, run19, run20, run21, run22, reduceCtorEq, Nat.reduceEqDiff, Nat.reduceAdd, Nat.reduceSub, Nat.reduceLeDiff, indexAddrA, indexRefA, appendA, strA, Nat.reduceMul, Nat.zero_mul, Nat.reduceMod, Int.reduceEq, Int.reduceLT, Int.reduceLE, Nat.reduceLT, Nat.lt_irrefl, Nat.reduceBEq, tys0, tys1, tys2, tys3, tys4, tys5, tys6, tys7, tys8, tys9, tys10, Try.ntmps53, Try.results53, hgen, nats_snoc, f3, f4, f5, e5, Int.toNat_natCast, Int.natCast_nonneg, List.getElem?_append_right, Nat.le_refl, Nat.sub_self, beq_self_eq_true]
          exact ⟨⟨d ++ [(a, b)], r, F1 ++ [a]⟩, ⟨by rw [ha]; simp, by simpa using hP, by rw [List.getElem?_append_left (by first | omega | (simp; omega))]; exact hx2, by simp; omega, by simp⟩, by simp, by (try simp only [List.length_append, List.length_cons, List.length_nil, Nat.zero_add, Nat.add_sub_cancel]); repeat constructor, by rw [hZ2]; simp [twB]⟩
        · have a2 : addK (F1) (b == x) a = F1 := addK_c hc2
          rw [a2] at hP
          simp only [run0, run1, run2, run3, run4, run5, run6, run7, run8, run9, run10, run11, run12, run13, run14, run15, run16, run17, run18, run19, run20, run21, run22, reduceCtorEq, Nat.reduceEqDiff, Nat.reduceAdd, Nat.reduceSub, Nat.reduceLeDiff, indexAddrA, indexRefA, appendA, strA, Nat.reduceMul, Nat.zero_mul, Nat.reduceMod, Int.reduceEq, Int.reduceLT, Int.reduceLE, Nat.reduceLT, Nat.lt_irrefl, Nat.reduceBEq, tys0, tys1, tys2, tys3, tys4, tys5, tys6, tys7, tys8, tys9, tys10, Try.ntmps53, Try.results53, e5, Int.toNat_natCast, Int.natCast_nonneg, List.getElem?_append_right, Nat.le_refl, Nat.sub_self, beq_self_eq_true]
          exact ⟨⟨d ++ [(a, b)], r, F1⟩, ⟨by rw [ha]; simp, by simpa using hP, hx2, by simp; omega, by simp; try omega⟩, by simp, by (try simp only [List.length_append, List.length_cons, List.length_nil, Nat.zero_add, Nat.add_sub_cancel]); repeat constructor, by rw [hZ2]; simp [twB]⟩
      · have q2 : ((b : Int) == (x : Int)) = false := by simp; omega
        have a2 : addK (F1) (b == x) a = F1 := addK_f (by simp [cb])
        rw [a2] at hP
        simp only [run0, run1, run2, run3, run4, run5, run6, run7, run8, run9, run10, run11, run12, run13, run14, run15, run16, run17, run18, run19, run20, run21, run22, reduceCtorEq, Nat.reduceEqDiff, Nat.reduceAdd, Nat.reduceSub, Nat.reduceLeDiff, indexAddrA, indexRefA, appendA, strA, Nat.reduceMul, Nat.zero_mul, Nat.reduceMod, Int.reduceEq, Int.reduceLT, Int.reduceLE, Nat.reduceLT, Nat.lt_irrefl, Nat.reduceBEq, tys0, tys1, tys2, tys3, tys4, tys5, tys6, tys7, tys8, tys9, tys10, Try.ntmps53, Try.results53, hk2, hkl2, q2, List.mapIdx_cons, List.mapIdx_nil, viewC, e5, Int.toNat_natCast, Int.natCast_nonneg, List.getElem?_append_right, Nat.le_refl, Nat.sub_self, beq_self_eq_true]
        exact ⟨⟨d ++ [(a, b)], r, F1⟩, ⟨by rw [ha]; simp, by simpa using hP, hx2, by simp; omega, by simp; try omega⟩, by simp, by (try simp only [List.length_append, List.length_cons, List.length_nil, Nat.zero_add, Nat.add_sub_cancel]); repeat constructor, by rw [hZ2]; simp [twB]⟩

end Go.Proofs.Ytobdpkkmkbafbaa
/-
  Rows told as values, all at once (from the nimbers' texts).
-/
namespace Go.Proofs.Ytobdpkkmkbafbaa
open Go K
set_option linter.unusedSimpArgs false
set_option linter.unusedVariables false
set_option maxHeartbeats 1600000
set_option maxRecDepth 8000

theorem FrV.pur' {D : List Nat} {L : List AObj} {x : AV} (h : pureB x = true) : FrV D L x x := .pur (.of h)
theorem FrV_bools {D : List Nat} {L : List AObj} {id g n : Nat} {T : TypeId} {l : List Bool} {o : Bool} (hD : id ∈ D) (hL : L[id]? = some (.vec T 1 g (bools l))) (hn : n = l.length) : FrV D L (.ref id [] g n) (.sl o (bools l)) := by
  refine FrV.ref hD hL rfl (by simp [hn]) fun i e y he hy => ?_
  rw [he] at hy
  cases hy
  obtain ⟨z, _, rfl⟩ := List.mem_map.1 (List.mem_of_getElem? he)
  refine ⟨rfl, fun j c d hc hd => ?_⟩
  rw [hc] at hd
  cases hd
  cases j with
  | zero => simp [AV.cells] at hc; subst hc; exact FrV.pur' rfl
  | succ j => simp [AV.cells] at hc
/-- All rows that are owned. -/
def isVec : AObj → Bool
  | .vec _ _ _ _ => true
  | _ => false
def vecs (L : List AObj) : List Nat := (List.range L.length).filter fun i => match L[i]? with | some o => isVec o | none => false
theorem vecs_mem {L : List AObj} {i : Nat} : i ∈ vecs L ↔ ∃ T z g es, L[i]? = some (.vec T z g es) := by
  unfold vecs
  rw [List.mem_filter]
  constructor
  · rintro ⟨_, h⟩
    cases hL : L[i]? with
    | none => rw [hL] at h; cases h
    | some o =>
      rw [hL] at h
      cases o with
      | vec T z g es => exact ⟨_, _, _, _, rfl⟩
      | _ => cases h
  · rintro ⟨T, z, g, es, h⟩
    exact ⟨List.mem_range.2 (List.getElem?_eq_some_iff.1 h).1, by rw [h]; rfl⟩
/-- Rows and plain variables alone. -/
def plainO (o : AObj) : Prop := isVec o = true ∨ ∃ T cs, o = .box T cs ∧ ∀ x ∈ cs, Pur x
inductive FrL (D : List Nat) (L : List AObj) : List AV → List AV → Prop
  | nil : FrL D L [] []
  | drop {x : AV} {xs ys : List AV} (k : FrL D L xs ys) : FrL D L (x :: xs) (.junk :: ys)
  | cons {x y : AV} {xs ys : List AV} (h : FrV D L x y) (k : FrL D L xs ys) : FrL D L (x :: xs) (y :: ys)
theorem FrL.get {D : List Nat} {L : List AObj} {xs ys : List AV} (h : FrL D L xs ys) : ys.length = xs.length ∧ ∀ (i : Nat) y, ys[i]? = some y → y = .junk ∨ ∃ x, xs[i]? = some x ∧ FrV D L x y := by
  induction h with
  | nil => exact ⟨rfl, fun i y h => by simp at h⟩
  | drop k ih =>
    refine ⟨by simp [ih.1], fun i y hi => ?_⟩
    cases i with
    | zero => simp at hi; exact .inl hi.symm
    | succ i => simpa using ih.2 i y (by simpa using hi)
  | cons h k ih =>
    refine ⟨by simp [ih.1], fun i y hi => ?_⟩
    cases i with
    | zero => simp at hi; subst hi; exact .inr ⟨_, rfl, h⟩
    | succ i => simpa using ih.2 i y (by simpa using hi)
theorem AWp.freezeAll {P : Program} {c : Code} {Q : Exit → St → Prop} {s : St} {t' : List AV} (hT : FrL (vecs s.L) s.L s.t t') (hL : ∀ o ∈ s.L, plainO o) (h : AWp P c Q ⟨t', killS (vecs s.L) s.L⟩) : AWp P c Q s :=
  AWp.freeze (vecs s.L) hT.get.1 hT.get.2 (fun id hid => vecs_mem.1 hid) (fun id hid o ho => by
    rcases hL o (List.mem_of_getElem? ho) with hv | hb
    · cases o with
      | vec T z g es => exact absurd (vecs_mem.2 ⟨_, _, _, _, ho⟩) hid
      | _ => cases hv
    · exact .inr hb) h

end Go.Proofs.Ytobdpkkmkbafbaa
/-
  Green pictures by the reference: what is grounded, cuts, masks, the least number that lacks.
-/
namespace Go.Proofs.Ytobdpkkmkbafbaa
open Go K
set_option linter.unusedSimpArgs false
set_option linter.unusedVariables false
set_option maxHeartbeats 3200000
set_option maxRecDepth 8000

def gnd (g : GTw) (p : Nat → Bool) : Nat := (gRun g p (g.length + 1) (1, 0)).2
structure GgS where
  n : Nat
  X : List AObj
theorem grGround_ok (g : GTw) (hg : Pic g) (p : Nat → Bool) : Ct Try.prog 38 [.sl false (g.map twE), .sl false (bools (bl g.length p))] [] (.sl false (bools (bl g.length (gnd g p).testBit))) [] := by
  have hgl := hg.1
  have hpu := twE_pure g
  have hpb := bools_pure (bl g.length p)
  obtain ⟨F, hF1, hF, ck⟩ := grKnots_ok g hg p 0 (by omega)
  have hpn := nats_pure F
  have key : ∀ i a b, g[i]? = some (a, b) → (gnd g p).testBit i = (p i && F.contains a) := fun i a b h => by
    rw [Bool.eq_iff_iff, Bool.and_eq_true, List.contains_iff_mem, hF]
    unfold gnd
    rw [gRun_is]
    constructor
    · rintro ⟨a', b', h1, h2, h3⟩
      rw [h] at h1
      cases h1
      exact ⟨h2, h3⟩
    · rintro ⟨h2, h3⟩
      exact ⟨a, b, h, h2, h3⟩
  refine Ct.by_ hmix [] Try.func38 rfl ?_
  simp only [run0, run1, run2, run3, run4, run5, run6, run7, run8, run9, run10, run11, run12, run13, run14, run15, run16, run17, run18, run19, run20, run21, run22, reduceCtorEq, Nat.reduceEqDiff, Nat.reduceAdd, Nat.reduceSub, Nat.reduceLeDiff, indexAddrA, indexRefA, appendA, strA, Nat.reduceMul, Nat.zero_mul, Nat.reduceMod, Int.reduceEq, Int.reduceLT, Int.reduceLE, Nat.reduceLT, Nat.lt_irrefl, Nat.reduceBEq, tys0, tys1, tys2, tys3, tys4, tys5, tys6, tys7, tys8, tys9, tys10, Try.ntmps38, Try.results38]
  refine RunL.callp rfl rfl ok_f53 ck (by simp only [pureL, pureB, hpu, hpb, Bool.and_self]) rfl ?_
  simp only [run0, run1, run2, run3, run4, run5, run6, run7, run8, run9, run10, run11, run12, run13, run14, run15, run16, run17, run18, run19, run20, run21, run22, reduceCtorEq, Nat.reduceEqDiff, Nat.reduceAdd, Nat.reduceSub, Nat.reduceLeDiff, indexAddrA, indexRefA, appendA, strA, Nat.reduceMul, Nat.zero_mul, Nat.reduceMod, Int.reduceEq, Int.reduceLT, Int.reduceLE, Nat.reduceLT, Nat.lt_irrefl, Nat.reduceBEq, tys0, tys1, tys2, tys3, tys4, tys5, tys6, tys7, tys8, tys9, tys10, Try.ntmps38, Try.results38, List.length_map]
  refine AWp.nil 6 4 1 rfl ?_
  refine AWp.loop_inv (ι := GgS) (fun q => ⟨[.sl false (g.map twE), .sl false (bools (bl g.length p)), .junk, .junk, nilV, .sl false (nats F), .ref 0 [] q.n q.n, .junk, .junk, .junk, .junk, .junk, .sl false (g.map twE), .int .i64 g.length, .int .i64 q.n, .junk, .junk, .junk, .junk, .junk, .junk, .junk, .junk, .junk, .junk, .junk, .junk, .junk, .junk, .junk, .junk, .junk, .junk, .junk], .vec 4 1 q.n (bools (bl q.n (gnd g p).testBit)) :: q.X⟩)
    (fun q => q.n ≤ g.length) (fun q => g.length - q.n) ⟨0, []⟩ (Nat.zero_le _) ⟨by simp only [Int.natCast_zero]; repeat constructor, rfl⟩ ?_
  rintro ⟨n, X⟩ hn
  refine W.sound hmix (E := []) ?_
  simp only at hn
  by_cases h : n < g.length
  · obtain ⟨⟨a, b⟩, hab⟩ : ∃ t, g[n]? = some t := ⟨g[n], by simp [h]⟩
    have e1 : (n : Int) < (g.length : Int) := by omega
    have e2 : (g.map twE)[n]? = some (.agg [.int .i64 (a : Int), .int .i64 (b : Int)]) := by simp [hab, twE]
    have e3 := bl_get (p := p) h
    have e5 : IntKind.i64.wrap ((n : Int) + 1) = ((n + 1 : Nat) : Int) := by rw [s64_id (by omega) (by omega)]; simp
    have f3 : n + 1 ≤ 137438953472 := by omega
    have f4 := bools_noOwn (bl n (gnd g p).testBit)
    have f5 := bls_len n (gnd g p).testBit
    have hk := key n a b hab
    have hc := hasN_ok F a (by omega)
    cases hp : p n
    · rw [hp] at e3 hk
      rw [Bool.false_and] at hk
      simp only [run0, run1, run2, run3, run4, run5, run6, run7, run8, run9, run10, run11, run12, run13, run14, run15, run16, run17, run18, run19, run20, run21, run22, reduceCtorEq, Nat.reduceEqDiff, Nat.reduceAdd, Nat.reduceSub, Nat.reduceLeDiff, indexAddrA, indexRefA, appendA, strA, Nat.reduceMul, Nat.zero_mul, Nat.reduceMod, Int.reduceEq, Int.reduceLT, Int.reduceLE, Nat.reduceLT, Nat.lt_irrefl, Nat.reduceBEq, tys0, tys1, tys2, tys3, tys4, tys5, tys6, tys7, tys8, tys9, tys10, Try.ntmps38, Try.results38, e1, e2, e3, e5, f3, f4, f5, Int.toNat_natCast, Int.natCast_nonneg, List.getElem?_append_right, Nat.le_refl, Nat.sub_self]
      exact ⟨⟨n + 1, _⟩, by simp only; omega, by simp only; omega, by repeat constructor, by rw [bl_succ, hk]⟩
    · rw [hp] at e3 hk
      rw [Bool.true_and] at hk
      simp only [run0, run1, run2, run3, run4, run5, run6, run7, run8, run9, run10, run11, run12, run13, run14, run15, run16, run17, run18, run19, run20, run21, run22, reduceCtorEq, Nat.reduceEqDiff, Nat.reduceAdd, Nat.reduceSub, Nat.reduceLeDiff, indexAddrA, indexRefA, appendA, strA, Nat.reduceMul, Nat.zero_mul, Nat.reduceMod, Int.reduceEq, Int.reduceLT, Int.reduceLE, Nat.reduceLT, Nat.lt_irrefl, Nat.reduceBEq, tys0, tys1, tys2, tys3, tys4, tys5, tys6, tys7, tys8, tys9, tys10, Try.ntmps38, Try.results38, e1, e2, e3, Int.toNat_natCast, Int.natCast_nonneg, List.getElem?_append_right, Nat.le_refl, Nat.sub_self]
      refine RunL.callp rfl rfl ok_f54 hc (by simp only [pureL, pureB, hpn, Bool.and_self]) rfl ?_
      simp only [run0, run1, run2, run3, run4, run5, run6, run7, run8, run9, run10, run11, run12, run13, run14, run15, run16, run17, run18, run19, run20, run21, run22, reduceCtorEq, Nat.reduceEqDiff, Nat.reduceAdd, Nat.reduceSub, Nat.reduceLeDiff, indexAddrA, indexRefA, appendA, strA, Nat.reduceMul, Nat.zero_mul, Nat.reduceMod, Int.reduceEq, Int.reduceLT, Int.reduceLE, Nat.reduceLT, Nat.lt_irrefl, Nat.reduceBEq, tys0, tys1, tys2, tys3, tys4, tys5, tys6, tys7, tys8, tys9, tys10, Try.ntmps38, Try.results38, e5, f3, f4, f5]
      exact ⟨⟨n + 1, _⟩, by simp only; omega, by simp only; omega, by repeat constructor, by rw [bl_succ, hk]⟩
  · obtain rfl : n = g.length := by omega
    simp only [run0, run1, run2, run3, run4, run5, run6, run7, run8, run9, run10, run11, run12, run13, run14, run15, run16, run17, run18, run19, run20, run21, run22, reduceCtorEq, Nat.reduceEqDiff, Nat.reduceAdd, Nat.reduceSub, Nat.reduceLeDiff, indexAddrA, indexRefA, appendA, strA, Nat.reduceMul, Nat.zero_mul, Nat.reduceMod, Int.reduceEq, Int.reduceLT, Int.reduceLE, Nat.reduceLT, Nat.lt_irrefl, Nat.reduceBEq, tys0, tys1, tys2, tys3, tys4, tys5, tys6, tys7, tys8, tys9, tys10, Try.ntmps38, Try.results38, Int.lt_irrefl]
    exact Fin.value (Vw_bools rfl rfl (bl_len _ _).symm)
theorem bl_but {n set i : Nat} (hs : set < 2 ^ 14) (hi : i < n) : (bools (bl n set.testBit)).set i (.bool false) = bools (bl n (andNot set (1 <<< i)).testBit) := by
  apply List.ext_getElem?
  intro j
  by_cases hj : j < n
  · rw [bl_get hj, andNot_one hs]
    by_cases e : i = j
    · subst e
      rw [List.getElem?_set_self (by rw [bls_len]; exact hi)]
      simp [butK]
    · rw [List.getElem?_set_ne e, bl_get hj]
      have e2 : (j != i) = true := by simp; omega
      simp [butK, e2]
  · rw [List.getElem?_eq_none (by rw [List.length_set, bls_len]; omega), List.getElem?_eq_none (by rw [bls_len]; omega)]
theorem grCut_ok (g : GTw) (hg : Pic g) (set i : Nat) (hs : set < 2 ^ 14) (hi : i < g.length) : Ct Try.prog 41 [.sl false (g.map twE), .sl false (bools (bl g.length set.testBit)), .int .i64 i] [] (.sl false (bools (bl g.length (cutS g set i).testBit))) [] := by
  have hgl := hg.1
  have f3 : g.length ≤ 137438953472 := by omega
  have f4 := bools_noOwn (bl g.length set.testBit)
  have f5 : ((bools (bl g.length set.testBit)).all fun z => z.cells.length == 1) = true := by
    refine List.all_eq_true.2 fun e he => ?_
    obtain ⟨y, _, rfl⟩ := List.mem_map.1 he
    rfl
  have f6 := bls_len g.length set.testBit
  have f7 : (i : Int) < (g.length : Int) := by omega
  have f8 := bl_get (p := set.testBit) hi
  have f9 := bl_but (n := g.length) hs hi
  have cg := grGround_ok g hg (andNot set (1 <<< i)).testBit
  have hpu := twE_pure g
  have hpb := bools_pure (bl g.length (andNot set (1 <<< i)).testBit)
  refine Ct.intro Try.func41 rfl ?_
  refine AWp.seq ?_
  refine W.sound hmix (E := []) ?_
  simp only [run0, run1, run2, run3, run4, run5, run6, run7, run8, run9, run10, run11, run12, run13, run14, run15, run16, run17, run18, run19, run20, run21, run22, reduceCtorEq, Nat.reduceEqDiff, Nat.reduceAdd, Nat.reduceSub, Nat.reduceLeDiff, indexAddrA, indexRefA, appendA, strA, Nat.reduceMul, Nat.zero_mul, Nat.reduceMod, Int.reduceEq, Int.reduceLT, Int.reduceLE, Nat.reduceLT, Nat.lt_irrefl, Nat.reduceBEq, tys0, tys1, tys2, tys3, tys4, tys5, tys6, tys7, tys8, tys9, tys10, Try.ntmps41, Try.results41]
  refine AWp.seq ?_
  refine W.sound hmix (E := []) ?_
  simp only [run0, run1, run2, run3, run4, run5, run6, run7, run8, run9, run10, run11, run12, run13, run14, run15, run16, run17, run18, run19, run20, run21, run22, reduceCtorEq, Nat.reduceEqDiff, Nat.reduceAdd, Nat.reduceSub, Nat.reduceLeDiff, indexAddrA, indexRefA, appendA, strA, Nat.reduceMul, Nat.zero_mul, Nat.reduceMod, Int.reduceEq, Int.reduceLT, Int.reduceLE, Nat.reduceLT, Nat.lt_irrefl, Nat.reduceBEq, tys0, tys1, tys2, tys3, tys4, tys5, tys6, tys7, tys8, tys9, tys10, Try.ntmps41, Try.results41, f3, f4, f5, f6, Nat.zero_add, List.nil_append]
  refine AWp.seq ?_
  refine W.sound hmix (E := []) ?_
  simp only [run0, run1, run2, run3, run4, run5, run6, run7, run8, run9, run10, run11, run12, run13, run14, run15, run16, run17, run18, run19, run20, run21, run22, reduceCtorEq, Nat.reduceEqDiff, Nat.reduceAdd, Nat.reduceSub, Nat.reduceLeDiff, indexAddrA, indexRefA, appendA, strA, Nat.reduceMul, Nat.zero_mul, Nat.reduceMod, Int.reduceEq, Int.reduceLT, Int.reduceLE, Nat.reduceLT, Nat.lt_irrefl, Nat.reduceBEq, tys0, tys1, tys2, tys3, tys4, tys5, tys6, tys7, tys8, tys9, tys10, Try.ntmps41, Try.results41, f3, f4, f5, f6, f7, f8, f9, Nat.zero_add, List.nil_append, Int.toNat_natCast, Int.natCast_nonneg, setE]
  refine AWp.freezeAll (t' := [.sl false (g.map twE), .junk, .junk, .junk, .junk, .junk, .junk, .sl false (bools (bl g.length (andNot set (1 <<< i)).testBit)), .junk, .junk, .junk, .junk, .junk, .junk, .junk, .junk, .junk]) ?_ ?_ ?_
  · repeat' first | exact FrL.nil | apply FrL.drop | apply FrL.cons
    · exact FrV.pur' (show pureB (.sl false (g.map twE)) = true by simp only [pureB, hpu])
    · exact FrV_bools (vecs_mem.2 ⟨_, _, _, _, rfl⟩) rfl (bl_len _ _).symm
  · intro o ho
    simp only [List.mem_cons, List.not_mem_nil, or_false] at ho
    subst ho
    exact .inl rfl
  refine W.sound hmix (E := []) ?_
  simp only [run0, run1, run2, run3, run4, run5, run6, run7, run8, run9, run10, run11, run12, run13, run14, run15, run16, run17, run18, run19, run20, run21, run22, reduceCtorEq, Nat.reduceEqDiff, Nat.reduceAdd, Nat.reduceSub, Nat.reduceLeDiff, indexAddrA, indexRefA, appendA, strA, Nat.reduceMul, Nat.zero_mul, Nat.reduceMod, Int.reduceEq, Int.reduceLT, Int.reduceLE, Nat.reduceLT, Nat.lt_irrefl, Nat.reduceBEq, tys0, tys1, tys2, tys3, tys4, tys5, tys6, tys7, tys8, tys9, tys10, Try.ntmps41, Try.results41]
  refine RunL.callp rfl rfl ok_f38 cg (by simp only [pureL, pureB, hpu, hpb, Bool.and_self]) rfl ?_
  simp only [run0, run1, run2, run3, run4, run5, run6, run7, run8, run9, run10, run11, run12, run13, run14, run15, run16, run17, run18, run19, run20, run21, run22, reduceCtorEq, Nat.reduceEqDiff, Nat.reduceAdd, Nat.reduceSub, Nat.reduceLeDiff, indexAddrA, indexRefA, appendA, strA, Nat.reduceMul, Nat.zero_mul, Nat.reduceMod, Int.reduceEq, Int.reduceLT, Int.reduceLE, Nat.reduceLT, Nat.lt_irrefl, Nat.reduceBEq, tys0, tys1, tys2, tys3, tys4, tys5, tys6, tys7, tys8, tys9, tys10, Try.ntmps41, Try.results41]
  exact Fin.eq rfl (by simp only [pureB, bools_pure])
theorem shl_i64 {a : Nat} (ha : a < 32) : IntKind.i64.wrap (1 * 2 ^ min a IntKind.i64.bits) = ((2 ^ a : Nat) : Int) := by
  have hp : 2 ^ a ≤ 2 ^ 31 := Nat.pow_le_pow_right (by omega) (by omega)
  have e : min a IntKind.i64.bits = a := Nat.min_eq_left (by show a ≤ 64; omega)
  rw [e, Int.one_mul]
  have : ((2 : Int) ^ a) = ((2 ^ a : Nat) : Int) := by simp
  rw [this]
  generalize 2 ^ a = B at *
  exact s64_id (by omega) (by omega)
theorem mod_bit (x k : Nat) : x % 2 ^ (k + 1) = x % 2 ^ k + (if x.testBit k then 2 ^ k else 0) := by
  rw [Nat.mod_pow_succ, Nat.testBit_eq_decide_div_mod_eq]
  rcases Nat.mod_two_eq_zero_or_one (x / 2 ^ k) with h | h <;> simp [h]
theorem grMask_ok (n set : Nat) (hn : n ≤ 14) (hs : set < 2 ^ n) : Ct Try.prog 55 [.sl false (bools (bl n set.testBit))] [] (.int .i64 set) [] := by
  have f6 := bls_len n set.testBit
  refine Ct.by_ hmix [] Try.func55 rfl ?_
  simp only [run0, run1, run2, run3, run4, run5, run6, run7, run8, run9, run10, run11, run12, run13, run14, run15, run16, run17, run18, run19, run20, run21, run22, reduceCtorEq, Nat.reduceEqDiff, Nat.reduceAdd, Nat.reduceSub, Nat.reduceLeDiff, indexAddrA, indexRefA, appendA, strA, Nat.reduceMul, Nat.zero_mul, Nat.reduceMod, Int.reduceEq, Int.reduceLT, Int.reduceLE, Nat.reduceLT, Nat.lt_irrefl, Nat.reduceBEq, tys0, tys1, tys2, tys3, tys4, tys5, tys6, tys7, tys8, tys9, tys10, Try.ntmps55, Try.results55, f6]
  refine AWp.loop_inv (ι := Nat) (fun k => ⟨[.sl false (bools (bl n set.testBit)), .junk, .junk, .int .i64 ((set % 2 ^ k : Nat) : Int), .junk, .junk, .sl false (bools (bl n set.testBit)), .int .i64 n, .int .i64 k, .junk, .junk, .junk, .junk, .junk, .junk, .junk, .junk, .junk, .junk, .junk], []⟩)
    (fun k => k ≤ n) (fun k => n - k) 0 (Nat.zero_le _) ⟨by simp only [Int.natCast_zero, Nat.pow_zero, Nat.mod_one]; repeat constructor, rfl⟩ ?_
  intro k hk
  refine W.sound hmix (E := []) ?_
  by_cases h : k < n
  · have e1 : (k : Int) < (n : Int) := by omega
    have e3 := bl_get (p := set.testBit) h
    have e5 : IntKind.i64.wrap ((k : Int) + 1) = ((k + 1 : Nat) : Int) := by rw [s64_id (by omega) (by omega)]; simp
    have hm := mod_bit set k
    have hsh := shl_i64 (a := k) (by omega)
    have hp1 : 2 ^ k ≤ 2 ^ 14 := Nat.pow_le_pow_right (by omega) (by omega)
    have hml : set % 2 ^ k < 2 ^ k := Nat.mod_lt _ (Nat.two_pow_pos k)
    cases hb : set.testBit k
    · rw [hb] at e3 hm
      have hm : set % 2 ^ (k + 1) = set % 2 ^ k := by simpa using hm
      simp only [run0, run1, run2, run3, run4, run5, run6, run7, run8, run9, run10, run11, run12, run13, run14, run15, run16, run17, run18, run19, run20, run21, run22, reduceCtorEq, Nat.reduceEqDiff, Nat.reduceAdd, Nat.reduceSub, Nat.reduceLeDiff, indexAddrA, indexRefA, appendA, strA, Nat.reduceMul, Nat.zero_mul, Nat.reduceMod, Int.reduceEq, Int.reduceLT, Int.reduceLE, Nat.reduceLT, Nat.lt_irrefl, Nat.reduceBEq, tys0, tys1, tys2, tys3, tys4, tys5, tys6, tys7, tys8, tys9, tys10, Try.ntmps55, Try.results55, e1, e3, e5, Int.toNat_natCast, Int.natCast_nonneg]
      exact ⟨k + 1, by omega, by omega, by rw [hm]; repeat constructor⟩
    · rw [hb] at e3 hm
      have hm : set % 2 ^ (k + 1) = set % 2 ^ k + 2 ^ k := by simpa using hm
      have hw : IntKind.i64.wrap (((set % 2 ^ k : Nat) : Int) + ((2 ^ k : Nat) : Int)) = ((set % 2 ^ k + 2 ^ k : Nat) : Int) := by
        rw [s64_id (by omega) (by omega)]; simp
      generalize set % 2 ^ k = A at *
      generalize hB : 2 ^ k = B at *
      simp only [run0, run1, run2, run3, run4, run5, run6, run7, run8, run9, run10, run11, run12, run13, run14, run15, run16, run17, run18, run19, run20, run21, run22, reduceCtorEq, Nat.reduceEqDiff, Nat.reduceAdd, Nat.reduceSub, Nat.reduceLeDiff, indexAddrA, indexRefA, appendA, strA, Nat.reduceMul, Nat.zero_mul, Nat.reduceMod, Int.reduceEq, Int.reduceLT, Int.reduceLE, Nat.reduceLT, Nat.lt_irrefl, Nat.reduceBEq, tys0, tys1, tys2, tys3, tys4, tys5, tys6, tys7, tys8, tys9, tys10, Try.ntmps55, Try.results55, e1, e3, e5, hsh, hw, Int.toNat_natCast, Int.natCast_nonneg]
      exact ⟨k + 1, by omega, by omega, by rw [hm]; repeat constructor⟩
  · obtain rfl : k = n := by omega
    rw [Nat.mod_eq_of_lt hs]
    simp only [run0, run1, run2, run3, run4, run5, run6, run7, run8, run9, run10, run11, run12, run13, run14, run15, run16, run17, run18, run19, run20, run21, run22, reduceCtorEq, Nat.reduceEqDiff, Nat.reduceAdd, Nat.reduceSub, Nat.reduceLeDiff, indexAddrA, indexRefA, appendA, strA, Nat.reduceMul, Nat.zero_mul, Nat.reduceMod, Int.reduceEq, Int.reduceLT, Int.reduceLE, Nat.reduceLT, Nat.lt_irrefl, Nat.reduceBEq, tys0, tys1, tys2, tys3, tys4, tys5, tys6, tys7, tys8, tys9, tys10, Try.ntmps55, Try.results55, Int.lt_irrefl]
    exact Fin.eq rfl rfl
theorem grMex_ok (l : List Nat) (m : Nat) (hl : l.length ≤ 1000) (hm : m ≤ 1000) (h1 : ∀ v, v < m → v ∈ l) (h2 : m ∉ l) : Ct Try.prog 56 [.sl false (nats l)] [] (.int .i64 m) [] := by
  have hpn := nats_pure l
  refine Ct.by_ hmix [] Try.func56 rfl ?_
  simp only [run0, run1, run2, run3, run4, run5, run6, run7, run8, run9, run10, run11, run12, run13, run14, run15, run16, run17, run18, run19, run20, run21, run22, reduceCtorEq, Nat.reduceEqDiff, Nat.reduceAdd, Nat.reduceSub, Nat.reduceLeDiff, indexAddrA, indexRefA, appendA, strA, Nat.reduceMul, Nat.zero_mul, Nat.reduceMod, Int.reduceEq, Int.reduceLT, Int.reduceLE, Nat.reduceLT, Nat.lt_irrefl, Nat.reduceBEq, tys0, tys1, tys2, tys3, tys4, tys5, tys6, tys7, tys8, tys9, tys10, Try.ntmps56, Try.results56]
  refine AWp.loop_inv (ι := Nat) (fun k => ⟨[.sl false (nats l), .junk, .junk, .int .i64 k, .junk, .junk, .junk, .junk, .junk, .junk], []⟩)
    (fun k => k ≤ m) (fun k => m - k) 0 (Nat.zero_le _) ⟨by simp only [Int.natCast_zero]; repeat constructor, rfl⟩ ?_
  intro k hk
  refine W.sound hmix (E := []) ?_
  have hc := hasN_ok l k (by omega)
  have e5 : IntKind.i64.wrap ((k : Int) + 1) = ((k + 1 : Nat) : Int) := by rw [s64_id (by omega) (by omega)]; simp
  by_cases h : k < m
  · have : l.contains k = true := List.contains_iff_mem.2 (h1 k h)
    rw [this] at hc
    simp only [run0, run1, run2, run3, run4, run5, run6, run7, run8, run9, run10, run11, run12, run13, run14, run15, run16, run17, run18, run19, run20, run21, run22, reduceCtorEq, Nat.reduceEqDiff, Nat.reduceAdd, Nat.reduceSub, Nat.reduceLeDiff, indexAddrA, indexRefA, appendA, strA, Nat.reduceMul, Nat.zero_mul, Nat.reduceMod, Int.reduceEq, Int.reduceLT, Int.reduceLE, Nat.reduceLT, Nat.lt_irrefl, Nat.reduceBEq, tys0, tys1, tys2, tys3, tys4, tys5, tys6, tys7, tys8, tys9, tys10, Try.ntmps56, Try.results56]
    refine RunL.callp rfl rfl ok_f54 hc (by simp only [pureL, pureB, hpn, Bool.and_self]) rfl ?_
    simp only [run0, run1, run2, run3, run4, run5, run6, run7, run8, run9, run10, run11, run12, run13, run14, run15, run16, run17, run18, run19, run20, run21, run22, reduceCtorEq, Nat.reduceEqDiff, Nat.reduceAdd, Nat.reduceSub, Nat.reduceLeDiff, indexAddrA, indexRefA, appendA, strA, Nat.reduceMul, Nat.zero_mul, Nat.reduceMod, Int.reduceEq, Int.reduceLT, Int.reduceLE, Nat.reduceLT, Nat.lt_irrefl, Nat.reduceBEq, tys0, tys1, tys2, tys3, tys4, tys5, tys6, tys7, tys8, tys9, tys10, Try.ntmps56, Try.results56, e5]
    exact ⟨k + 1, by omega, by omega, by repeat constructor⟩
  · obtain rfl : k = m := by omega
    have : l.contains k = false := by
      cases hq : l.contains k
      · rfl
      · exact absurd (List.contains_iff_mem.1 hq) h2
    rw [this] at hc
    simp only [run0, run1, run2, run3, run4, run5, run6, run7, run8, run9, run10, run11, run12, run13, run14, run15, run16, run17, run18, run19, run20, run21, run22, reduceCtorEq, Nat.reduceEqDiff, Nat.reduceAdd, Nat.reduceSub, Nat.reduceLeDiff, indexAddrA, indexRefA, appendA, strA, Nat.reduceMul, Nat.zero_mul, Nat.reduceMod, Int.reduceEq, Int.reduceLT, Int.reduceLE, Nat.reduceLT, Nat.lt_irrefl, Nat.reduceBEq, tys0, tys1, tys2, tys3, tys4, tys5, tys6, tys7, tys8, tys9, tys10, Try.ntmps56, Try.results56]
    refine RunL.callp rfl rfl ok_f54 hc (by simp only [pureL, pureB, hpn, Bool.and_self]) rfl ?_
    simp only [run0, run1, run2, run3, run4, run5, run6, run7, run8, run9, run10, run11, run12, run13, run14, run15, run16, run17, run18, run19, run20, run21, run22, reduceCtorEq, Nat.reduceEqDiff, Nat.reduceAdd, Nat.reduceSub, Nat.reduceLeDiff, indexAddrA, indexRefA, appendA, strA, Nat.reduceMul, Nat.zero_mul, Nat.reduceMod, Int.reduceEq, Int.reduceLT, Int.reduceLE, Nat.reduceLT, Nat.lt_irrefl, Nat.reduceBEq, tys0, tys1, tys2, tys3, tys4, tys5, tys6, tys7, tys8, tys9, tys10, Try.ntmps56, Try.results56]
    exact Fin.eq rfl rfl

end Go.Proofs.Ytobdpkkmkbafbaa
/-
  Green pictures by the reference: the value by play.
-/
namespace Go.Proofs.Ytobdpkkmkbafbaa
open Go K
set_option linter.unusedSimpArgs false
set_option linter.unusedVariables false
set_option maxHeartbeats 3200000
set_option maxRecDepth 8000

/-- The values that the cuts of the first twigs leave. -/
noncomputable def vals (g : GTw) (set : Nat) : Nat → List Nat
  | 0 => []
  | n + 1 => if set.testBit n then vals g set n ++ [vB g (cutS g set n)] else vals g set n
theorem vals_len (g : GTw) (set : Nat) : ∀ n, (vals g set n).length ≤ n
  | 0 => Nat.le_refl _
  | n + 1 => by
    have := vals_len g set n
    unfold vals; split
    · simp; omega
    · omega
theorem vals_mem {g : GTw} {set v : Nat} : ∀ {n : Nat}, v ∈ vals g set n ↔ ∃ i, i < n ∧ set.testBit i = true ∧ vB g (cutS g set i) = v
  | 0 => by simp [vals]
  | n + 1 => by
    have ih := vals_mem (g := g) (set := set) (v := v) (n := n)
    unfold vals
    by_cases h : set.testBit n = true
    · rw [if_pos h, List.mem_append, ih]
      constructor
      · rintro (⟨i, h1, h2, h3⟩ | h1)
        · exact ⟨i, by omega, h2, h3⟩
        · simp at h1; exact ⟨n, by omega, h, h1.symm⟩
      · rintro ⟨i, h1, h2, h3⟩
        rcases Nat.lt_succ_iff_lt_or_eq.1 h1 with h1 | rfl
        · exact .inl ⟨i, h1, h2, h3⟩
        · exact .inr (by simp [h3])
    · rw [if_neg h, ih]
      constructor
      · rintro ⟨i, h1, h2, h3⟩; exact ⟨i, by omega, h2, h3⟩
      · rintro ⟨i, h1, h2, h3⟩
        rcases Nat.lt_succ_iff_lt_or_eq.1 h1 with h1 | rfl
        · exact ⟨i, h1, h2, h3⟩
        · exact absurd h2 h
theorem vals_mex {g : GTw} {set : Nat} (hs : GSet g set) : (∀ v, v < vB g set → v ∈ vals g set g.length) ∧ vB g set ∉ vals g set g.length := by
  constructor
  · intro v hv
    obtain ⟨i, hc, hval⟩ := vS_lt hv
    obtain ⟨a, b, hT⟩ := hc
    exact vals_mem.2 ⟨i, hT.lt, hT.2.1, by rw [vB_cut hs.lt, hval]⟩
  · intro h
    obtain ⟨i, h1, h2, h3⟩ := vals_mem.1 h
    rw [vB_cut hs.lt] at h3
    exact absurd h3 (vS_ne (hs.cn h2))
/-- The reference's table of values (with 1 added). -/
noncomputable def gT (g : GTw) : Nat → List Nat → Nat → List Nat
  | 0, T, _ => T
  | f + 1, T, set => if 0 < T.getD set 0 then T else ((List.range g.length).foldl (fun T i => if set.testBit i then gT g f T (cutS g set i) else T) T).set set (vB g set + 1)
structure TabOk (g : GTw) (T : List Nat) : Prop where
  len : T.length = 2 ^ g.length
  ok : ∀ s v, T[s]? = some v → 0 < v → v = vB g s + 1
theorem TabOk.put {g : GTw} {T : List Nat} (h : TabOk g T) (s : Nat) : TabOk g (T.set s (vB g s + 1)) := by
  refine ⟨by rw [List.length_set, h.len], fun s2 v hv h0 => ?_⟩
  by_cases e : s = s2
  · subst e
    by_cases hl : s < T.length
    · rw [List.getElem?_set_self hl] at hv; cases hv; rfl
    · rw [List.getElem?_eq_none (by rw [List.length_set]; omega)] at hv; cases hv
  · rw [List.getElem?_set_ne e] at hv
    exact h.ok s2 v hv h0
theorem fold_tab {g : GTw} {F : List Nat → Nat → List Nat} (hF : ∀ m i, TabOk g m → TabOk g (F m i)) : ∀ (l : List Nat) (m : List Nat), TabOk g m → TabOk g (l.foldl F m)
  | [], m, h => h
  | i :: l, m, h => fold_tab hF l (F m i) (hF m i h)
theorem gT_ok {g : GTw} : ∀ (f : Nat) (T : List Nat) (set : Nat), TabOk g T → TabOk g (gT g f T set)
  | 0, T, set, h => h
  | f + 1, T, set, h => by
    unfold gT
    split
    · exact h
    · refine TabOk.put (fold_tab (fun m i hm => ?_) _ _ h) set
      split
      · exact gT_ok f m _ hm
      · exact hm
theorem GSet.ltn {g : GTw} {set : Nat} (h : GSet g set) : set < 2 ^ g.length := by
  refine Nat.lt_pow_two_of_testBit _ fun i hi => ?_
  cases hb : set.testBit i
  · rfl
  · obtain ⟨a, b, h1, _⟩ := h.grd i hb
    have := (List.getElem?_eq_some_iff.1 h1).1
    omega
def tabO (gen : Nat) (T : List Nat) : AObj := .vec 3 1 gen (nats T)
theorem nats_flat (T : TypeId) (z gen : Nat) (l : List Nat) : flatO (.vec T z gen (nats l)) = true := by
  have h : ((nats l).all fun e => e.cells.all pureB) = true := by
    refine List.all_eq_true.2 fun e he => ?_
    obtain ⟨n, _, rfl⟩ := List.mem_map.1 he
    rfl
  simp only [flatO, h, nats_noOwn, Bool.and_self]
structure GpS where
  n : Nat
  T : List Nat
theorem grPlay_ok (g : GTw) (hg : Pic g) (gen : Nat) : ∀ (f set : Nat) (T : List Nat), GSet g set → szB g set < f → TabOk g T → ∀ (L : List AObj) (id : Nat), L[id]? = some (tabO gen T) → L.all flatO = true →
    Ct Try.prog 40 [.sl false (g.map twE), .sl false (bools (bl g.length set.testBit)), .ref id [] gen (2 ^ g.length)] L (.int .i64 (vB g set : Nat)) (L.set id (tabO gen (gT g f T set)))
  | 0, set, T, _, h, _, _, _, _, _ => absurd h (Nat.not_lt_zero _)
  | f + 1, set, T, hs, hf, hT, L, id, hL, hfl => by
    have hgl := hg.1
    have hpu := twE_pure g
    have hpb := bools_pure (bl g.length set.testBit)
    have hml := (List.getElem?_eq_some_iff.1 hL).1
    have hst := hs.lt
    have hsn := hs.ltn
    have hp2 : 2 ^ g.length ≤ 2 ^ 14 := Nat.pow_le_pow_right (by omega) hgl
    have hvl := vB_le g set
    have hTl := hT.len
    have cm := grMask_ok g.length set hgl hsn
    have hw1 : IntKind.i64.wrap ((vB g set : Int) + 1) = ((vB g set + 1 : Nat) : Int) := by rw [s64_id (by omega) (by omega)]; simp
    have hw2 : IntKind.i64.wrap (((vB g set + 1 : Nat) : Int) - 1) = (vB g set : Int) := by rw [s64_id (by omega) (by omega)]; omega
    have hN : (nats T).length = 2 ^ g.length := by rw [nats_len, hTl]
    obtain ⟨v, hv⟩ : ∃ v, T[set]? = some v := ⟨T[set]'(by omega), by simp [hTl, hsn]⟩
    have hnv : (nats T)[set]? = some (.int .i64 (v : Int)) := by unfold nats; rw [List.getElem?_map, hv]; rfl
    have hsz : (set : Int) < ((2 ^ g.length : Nat) : Int) := by omega
    have hgd : T.getD set 0 = v := by rw [List.getD_eq_getElem?_getD, hv]; rfl
    unfold tabO at hL
    generalize hP : 2 ^ g.length = P at *
    refine Ct.by_ hmix [] Try.func40 rfl ?_
    simp only [run0, run1, run2, run3, run4, run5, run6, run7, run8, run9, run10, run11, run12, run13, run14, run15, run16, run17, run18, run19, run20, run21, run22, reduceCtorEq, Nat.reduceEqDiff, Nat.reduceAdd, Nat.reduceSub, Nat.reduceLeDiff, indexAddrA, indexRefA, appendA, strA, Nat.reduceMul, Nat.zero_mul, Nat.reduceMod, Int.reduceEq, Int.reduceLT, Int.reduceLE, Nat.reduceLT, Nat.lt_irrefl, Nat.reduceBEq, tys0, tys1, tys2, tys3, tys4, tys5, tys6, tys7, tys8, tys9, tys10, Try.ntmps40, Try.results40]
    refine RunL.callp rfl rfl ok_f55 cm (by simp only [pureL, pureB, hpb, Bool.and_self]) rfl ?_
    simp only [run0, run1, run2, run3, run4, run5, run6, run7, run8, run9, run10, run11, run12, run13, run14, run15, run16, run17, run18, run19, run20, run21, run22, reduceCtorEq, Nat.reduceEqDiff, Nat.reduceAdd, Nat.reduceSub, Nat.reduceLeDiff, indexAddrA, indexRefA, appendA, strA, Nat.reduceMul, Nat.zero_mul, Nat.reduceMod, Int.reduceEq, Int.reduceLT, Int.reduceLE, Nat.reduceLT, Nat.lt_irrefl, Nat.reduceBEq, tys0, tys1, tys2, tys3, tys4, tys5, tys6, tys7, tys8, tys9, tys10, Try.ntmps40, Try.results40, hL, hN, hnv, hsz, Int.toNat_natCast, Int.natCast_nonneg, List.mapIdx_cons, List.mapIdx_nil, viewC]
    by_cases h0 : 0 < v
    · have hvv := hT.ok set v hv h0
      have hg1 : gT g (f + 1) T set = T := by rw [gT, hgd, if_pos h0]
      have c1 : decide (0 < (v : Int)) = true := by simp; omega
      have hw3 : IntKind.i64.wrap ((v : Int) - 1) = (vB g set : Int) := by rw [s64_id (by omega) (by omega)]; omega
      rw [hg1]
      simp only [run0, run1, run2, run3, run4, run5, run6, run7, run8, run9, run10, run11, run12, run13, run14, run15, run16, run17, run18, run19, run20, run21, run22, reduceCtorEq, Nat.reduceEqDiff, Nat.reduceAdd, Nat.reduceSub, Nat.reduceLeDiff, indexAddrA, indexRefA, appendA, strA, Nat.reduceMul, Nat.zero_mul, Nat.reduceMod, Int.reduceEq, Int.reduceLT, Int.reduceLE, Nat.reduceLT, Nat.lt_irrefl, Nat.reduceBEq, tys0, tys1, tys2, tys3, tys4, tys5, tys6, tys7, tys8, tys9, tys10, Try.ntmps40, Try.results40, c1, hL, hN, hnv, hsz, hw3, Int.toNat_natCast, Int.natCast_nonneg, List.mapIdx_cons, List.mapIdx_nil, viewC]
      exact Fin.own (by unfold tabO; rw [set_eqG hL]) rfl
    have c1 : decide (0 < (v : Int)) = false := by simp; omega
    have hg1 : gT g (f + 1) T set = ((List.range g.length).foldl (fun T i => if set.testBit i then gT g f T (cutS g set i) else T) T).set set (vB g set + 1) := by rw [gT, hgd, if_neg h0]
    have hF : ∀ n, TabOk g ((List.range n).foldl (fun T i => if set.testBit i then gT g f T (cutS g set i) else T) T) := fun n => fold_tab (fun m i hm => by
      split
      · exact gT_ok f m _ hm
      · exact hm) _ _ hT
    rw [hg1]
    simp only [run0, run1, run2, run3, run4, run5, run6, run7, run8, run9, run10, run11, run12, run13, run14, run15, run16, run17, run18, run19, run20, run21, run22, reduceCtorEq, Nat.reduceEqDiff, Nat.reduceAdd, Nat.reduceSub, Nat.reduceLeDiff, indexAddrA, indexRefA, appendA, strA, Nat.reduceMul, Nat.zero_mul, Nat.reduceMod, Int.reduceEq, Int.reduceLT, Int.reduceLE, Nat.reduceLT, Nat.lt_irrefl, Nat.reduceBEq, tys0, tys1, tys2, tys3, tys4, tys5, tys6, tys7, tys8, tys9, tys10, Try.ntmps40, Try.results40, c1, List.length_map]
    refine AWp.nil 8 3 1 rfl ?_
    refine AWp.loop_inv (ι := GpS) (fun q => ⟨[.sl false (g.map twE), .sl false (bools (bl g.length set.testBit)), .ref id [] gen P, .junk, .junk, .junk, .junk, .int .i64 set, .ref L.length [] (vals g set q.n).length (vals g set q.n).length, .junk, .junk, .junk, .junk, .junk, .junk, .junk, .junk, .junk, .junk, .junk, .junk, .junk, .junk, .int .i64 g.length, .int .i64 q.n, .junk, .junk, .junk, .junk, .junk, .junk, .junk, .junk, .junk, .junk, .junk, .junk, .junk, .junk, .junk, .junk, .junk, .junk, .junk, .junk, .junk, .junk, .junk, .junk, .junk, .junk, .junk, .junk], L.set id (tabO gen q.T) ++ [.vec 3 1 (vals g set q.n).length (nats (vals g set q.n))]⟩)
      (fun q => q.n ≤ g.length ∧ q.T = (List.range q.n).foldl (fun T i => if set.testBit i then gT g f T (cutS g set i) else T) T) (fun q => g.length - q.n) ⟨0, T⟩ ⟨Nat.zero_le _, rfl⟩
      ⟨by simp only [Int.natCast_zero]; repeat constructor, by unfold tabO; rw [set_eqG hL]; rfl⟩ ?_
    rintro ⟨n, T1⟩ ⟨hn, hT1⟩
    refine W.sound hmix (E := []) ?_
    simp only at hn hT1
    have hT1k : TabOk g T1 := by rw [hT1]; exact hF n
    have hN1 : (nats T1).length = P := by rw [nats_len, hT1k.len, hP]
    have hgA : ∀ (M : List AObj) (o : AObj), M.length = L.length → (M ++ [o])[L.length]? = some o := fun M o hM => by rw [List.getElem?_append_right (by omega), hM, Nat.sub_self]; rfl
    have hsA : ∀ (M : List AObj) (o o' : AObj), M.length = L.length → (M ++ [o]).set L.length o' = M ++ [o'] := fun M o o' hM => by rw [List.set_append_right _ _ (by omega), hM, Nat.sub_self]; rfl
    have hgT : ∀ (o X : AObj), (L.set id X ++ [o])[id]? = some X := fun o X => by rw [List.getElem?_append_left (by simpa using hml), List.getElem?_set_self hml]
    have hsT : ∀ (o X Y : AObj), (L.set id X ++ [o]).set id Y = L.set id Y ++ [o] := fun o X Y => by rw [List.set_append_left _ _ (by simpa using hml), List.set_set]
    have hla : ∀ X : AObj, (L.set id X).length = L.length := fun X => by simp
    by_cases hnl : n < g.length
    case neg =>
      obtain rfl : n = g.length := by omega
      have e1 : ¬ ((g.length : Int) < (g.length : Int)) := by omega
      obtain ⟨q1, q2⟩ := vals_mex hs
      have hvn := vals_len g set g.length
      have cmx := grMex_ok (vals g set g.length) (vB g set) (by omega) (by omega) q1 q2
      have hvw : Vw (L.set id (tabO gen T1) ++ [.vec 3 1 (vals g set g.length).length (nats (vals g set g.length))]) (.ref L.length [] (vals g set g.length).length (vals g set g.length).length) (.sl false (nats (vals g set g.length))) := Vw_nats (hgA _ _ (hla _)) rfl rfl
      have hn0 := nats_noOwn T1
      have hst2 : (nats T1).set set (.int .i64 ((vB g set + 1 : Nat) : Int)) = nats (T1.set set (vB g set + 1)) := by simp [nats, List.map_set]
      have hN2 : (nats (T1.set set (vB g set + 1))).length = P := by rw [nats_len, List.length_set, hT1k.len, hP]
      have hg2 : (nats (T1.set set (vB g set + 1)))[set]? = some (.int .i64 ((vB g set + 1 : Nat) : Int)) := by
        unfold nats; rw [List.getElem?_map, List.getElem?_set_self (by rw [hT1k.len, hP]; exact hsn)]; rfl
      obtain ⟨v1, hv1⟩ : ∃ v, T1[set]? = some v := ⟨T1[set]'(by rw [hT1k.len, hP]; exact hsn), by simp [hT1k.len, hP, hsn]⟩
      have hnv1 : (nats T1)[set]? = some (.int .i64 (v1 : Int)) := by unfold nats; rw [List.getElem?_map, hv1]; rfl
      simp only [run0, run1, run2, run3, run4, run5, run6, run7, run8, run9, run10, run11, run12, run13, run14, run15, run16, run17, run18, run19, run20, run21, run22, reduceCtorEq, Nat.reduceEqDiff, Nat.reduceAdd, Nat.reduceSub, Nat.reduceLeDiff, indexAddrA, indexRefA, appendA, strA, Nat.reduceMul, Nat.zero_mul, Nat.reduceMod, Int.reduceEq, Int.reduceLT, Int.reduceLE, Nat.reduceLT, Nat.lt_irrefl, Nat.reduceBEq, tys0, tys1, tys2, tys3, tys4, tys5, tys6, tys7, tys8, tys9, tys10, Try.ntmps40, Try.results40, e1]
      refine RunL.lendV rfl rfl ok_f56 rfl cmx (.cons hvw .nil) rfl rfl ?_
      unfold tabO
      simp only [run0, run1, run2, run3, run4, run5, run6, run7, run8, run9, run10, run11, run12, run13, run14, run15, run16, run17, run18, run19, run20, run21, run22, reduceCtorEq, Nat.reduceEqDiff, Nat.reduceAdd, Nat.reduceSub, Nat.reduceLeDiff, indexAddrA, indexRefA, appendA, strA, Nat.reduceMul, Nat.zero_mul, Nat.reduceMod, Int.reduceEq, Int.reduceLT, Int.reduceLE, Nat.reduceLT, Nat.lt_irrefl, Nat.reduceBEq, tys0, tys1, tys2, tys3, tys4, tys5, tys6, tys7, tys8, tys9, tys10, Try.ntmps40, Try.results40, hw1, hgT, hsT, hN1, hnv1, hsz, hn0, hst2, hN2, hg2, hw2, Int.toNat_natCast, Int.natCast_nonneg, setE, List.mapIdx_cons, List.mapIdx_nil, viewC]
      rw [← hT1]
      refine Fin.trim (by simp) ?_ rfl rfl
      refine List.all_eq_true.2 fun o ho => ?_
      rcases List.mem_or_eq_of_mem_set ho with ho | rfl
      · exact List.all_eq_true.1 hfl o ho
      · exact nats_flat _ _ _ _
    have e1 : (n : Int) < (g.length : Int) := by omega
    have e3 := bl_get (p := set.testBit) hnl
    have e5 : IntKind.i64.wrap ((n : Int) + 1) = ((n + 1 : Nat) : Int) := by rw [s64_id (by omega) (by omega)]; simp
    cases c2 : set.testBit n
    · rw [c2] at e3
      have hvs : vals g set (n + 1) = vals g set n := by simp [vals, c2]
      simp only [run0, run1, run2, run3, run4, run5, run6, run7, run8, run9, run10, run11, run12, run13, run14, run15, run16, run17, run18, run19, run20, run21, run22, reduceCtorEq, Nat.reduceEqDiff, Nat.reduceAdd, Nat.reduceSub, Nat.reduceLeDiff, indexAddrA, indexRefA, appendA, strA, Nat.reduceMul, Nat.zero_mul, Nat.reduceMod, Int.reduceEq, Int.reduceLT, Int.reduceLE, Nat.reduceLT, Nat.lt_irrefl, Nat.reduceBEq, tys0, tys1, tys2, tys3, tys4, tys5, tys6, tys7, tys8, tys9, tys10, Try.ntmps40, Try.results40, e1, e3, e5, Int.toNat_natCast, Int.natCast_nonneg]
      exact ⟨⟨n + 1, T1⟩, ⟨by simp only; omega, by simp only [List.range_succ, List.foldl_append, List.foldl_cons, List.foldl_nil, ← hT1, c2]; rfl⟩, by simp only; omega, by rw [hvs]; repeat constructor, by rw [hvs]⟩
    · rw [c2] at e3
      have hvs : vals g set (n + 1) = vals g set n ++ [vB g (cutS g set n)] := by simp [vals, c2]
      have cs := cutS_ok hg set n
      have hcf : szB g (cutS g set n) < f := by have := szB_cut hst c2 hnl; omega
      have cc := grCut_ok g hg set n hst hnl
      have cp := grPlay_ok g hg gen f (cutS g set n) T1 cs hcf hT1k (L.set id (tabO gen T1) ++ [.vec 3 1 (vals g set n).length (nats (vals g set n))]) id (hgT _ _) (by
        refine List.all_eq_true.2 fun o ho => ?_
        rcases List.mem_append.1 ho with ho | ho
        · rcases List.mem_or_eq_of_mem_set ho with ho | rfl
          · exact List.all_eq_true.1 hfl o ho
          · exact nats_flat _ _ _ _
        · simp only [List.mem_cons, List.not_mem_nil, or_false] at ho
          subst ho; exact nats_flat _ _ _ _)
      rw [hsT, hP] at cp
      have hvn := vals_len g set n
      have f3 : (vals g set n).length + 1 ≤ 137438953472 := by omega
      have f4 := nats_noOwn (vals g set n)
      have f5 := nats_len (vals g set n)
      simp only [run0, run1, run2, run3, run4, run5, run6, run7, run8, run9, run10, run11, run12, run13, run14, run15, run16, run17, run18, run19, run20, run21, run22, reduceCtorEq, Nat.reduceEqDiff, Nat.reduceAdd, Nat.reduceSub, Nat.reduceLeDiff, indexAddrA, indexRefA, appendA, strA, Nat.reduceMul, Nat.zero_mul, Nat.reduceMod, Int.reduceEq, Int.reduceLT, Int.reduceLE, Nat.reduceLT, Nat.lt_irrefl, Nat.reduceBEq, tys0, tys1, tys2, tys3, tys4, tys5, tys6, tys7, tys8, tys9, tys10, Try.ntmps40, Try.results40, e1, e3, Int.toNat_natCast, Int.natCast_nonneg]
      refine RunL.callp rfl rfl ok_f41 cc (by simp only [pureL, pureB, hpu, hpb, Bool.and_self]) rfl ?_
      simp only [run0, run1, run2, run3, run4, run5, run6, run7, run8, run9, run10, run11, run12, run13, run14, run15, run16, run17, run18, run19, run20, run21, run22, reduceCtorEq, Nat.reduceEqDiff, Nat.reduceAdd, Nat.reduceSub, Nat.reduceLeDiff, indexAddrA, indexRefA, appendA, strA, Nat.reduceMul, Nat.zero_mul, Nat.reduceMod, Int.reduceEq, Int.reduceLT, Int.reduceLE, Nat.reduceLT, Nat.lt_irrefl, Nat.reduceBEq, tys0, tys1, tys2, tys3, tys4, tys5, tys6, tys7, tys8, tys9, tys10, Try.ntmps40, Try.results40]
      refine RunL.call rfl rfl rfl ok_f40 rfl (.inl rfl) cp ?_
      simp only [run0, run1, run2, run3, run4, run5, run6, run7, run8, run9, run10, run11, run12, run13, run14, run15, run16, run17, run18, run19, run20, run21, run22, reduceCtorEq, Nat.reduceEqDiff, Nat.reduceAdd, Nat.reduceSub, Nat.reduceLeDiff, indexAddrA, indexRefA, appendA, strA, Nat.reduceMul, Nat.zero_mul, Nat.reduceMod, Int.reduceEq, Int.reduceLT, Int.reduceLE, Nat.reduceLT, Nat.lt_irrefl, Nat.reduceBEq, tys0, tys1, tys2, tys3, tys4, tys5, tys6, tys7, tys8, tys9, tys10, Try.ntmps40, Try.results40, f3, f4, f5, e5, hgA, hsA, hla]
      exact ⟨⟨n + 1, gT g f T1 (cutS g set n)⟩, ⟨by simp only; omega, by simp only [List.range_succ, List.foldl_append, List.foldl_cons, List.foldl_nil, ← hT1, c2]; rfl⟩, by simp only; omega, by rw [hvs]; simp only [List.length_append, List.length_cons, List.length_nil, Nat.zero_add]; repeat constructor, by rw [hvs]; simp [nats]⟩

end Go.Proofs.Ytobdpkkmkbafbaa
/-
  Green pictures by the reference: the value of a picture.
-/
namespace Go.Proofs.Ytobdpkkmkbafbaa
open Go K
set_option linter.unusedSimpArgs false
set_option linter.unusedVariables false
set_option maxHeartbeats 3200000
set_option maxRecDepth 8000

theorem bl_all (n : Nat) : bl n (fun _ => true) = bl n (2 ^ n - 1).testBit := by
  unfold bl
  refine List.map_congr_left fun i hi => ?_
  rw [Nat.testBit_two_pow_sub_one]
  simp at hi
  simp [hi]
theorem bl_allM (g : GTw) : bl g.length (fun _ => true) = bl g.length (allM g).testBit := bl_all _
theorem TabOk.zero (g : GTw) : TabOk g (List.replicate (2 ^ g.length) 0) := by
  refine ⟨by simp, fun s v hv h0 => ?_⟩
  have := List.mem_of_getElem? hv
  have := (List.mem_replicate.1 this).2
  omega
theorem grValue_ok (g : GTw) (hg : Pic g) : Ct Try.prog 36 [.sl false (g.map twE)] [] (.int .i64 (vB g (gSet g) : Nat)) [] := by
  have hgl := hg.1
  have hpu := twE_pure g
  have ca := grAll_ok g hg
  rw [bl_allM] at ca
  have cg := grGround_ok g hg (allM g).testBit
  have hgs : gnd g (allM g).testBit = gSet g := rfl
  rw [hgs] at cg
  have hb1 := bools_pure (bl g.length (allM g).testBit)
  have hb2 := bools_pure (bl g.length (gSet g).testBit)
  have hp2 : 2 ^ g.length ≤ 2 ^ 14 := Nat.pow_le_pow_right (by omega) hgl
  have hsh := shl_i64 (a := g.length) (by omega)
  have hrep : nats (List.replicate (2 ^ g.length) 0) = List.replicate (2 ^ g.length) (.int .i64 0) := by simp [nats]
  have cp := grPlay_ok g hg 0 (szB g (gSet g) + 1) (gSet g) (List.replicate (2 ^ g.length) 0) (grd_set hg _) (by omega) (TabOk.zero g) [tabO 0 (List.replicate (2 ^ g.length) 0)] 0 rfl (by simp only [List.all_cons, List.all_nil, tabO, nats_flat, Bool.and_self])
  unfold tabO at cp
  rw [hrep] at cp
  generalize hP : 2 ^ g.length = P at *
  have m1 : (0 : Int) ≤ (P : Int) := by omega
  have m2 : (P : Int) ≤ 137438953472 := by omega
  refine Ct.by_ hmix [] Try.func36 rfl ?_
  simp only [run0, run1, run2, run3, run4, run5, run6, run7, run8, run9, run10, run11, run12, run13, run14, run15, run16, run17, run18, run19, run20, run21, run22, reduceCtorEq, Nat.reduceEqDiff, Nat.reduceAdd, Nat.reduceSub, Nat.reduceLeDiff, indexAddrA, indexRefA, appendA, strA, Nat.reduceMul, Nat.zero_mul, Nat.reduceMod, Int.reduceEq, Int.reduceLT, Int.reduceLE, Nat.reduceLT, Nat.lt_irrefl, Nat.reduceBEq, tys0, tys1, tys2, tys3, tys4, tys5, tys6, tys7, tys8, tys9, tys10, Try.ntmps36, Try.results36]
  refine RunL.callp rfl rfl ok_f39 ca (by simp only [pureL, pureB, hpu, Bool.and_self]) rfl ?_
  simp only [run0, run1, run2, run3, run4, run5, run6, run7, run8, run9, run10, run11, run12, run13, run14, run15, run16, run17, run18, run19, run20, run21, run22, reduceCtorEq, Nat.reduceEqDiff, Nat.reduceAdd, Nat.reduceSub, Nat.reduceLeDiff, indexAddrA, indexRefA, appendA, strA, Nat.reduceMul, Nat.zero_mul, Nat.reduceMod, Int.reduceEq, Int.reduceLT, Int.reduceLE, Nat.reduceLT, Nat.lt_irrefl, Nat.reduceBEq, tys0, tys1, tys2, tys3, tys4, tys5, tys6, tys7, tys8, tys9, tys10, Try.ntmps36, Try.results36]
  refine RunL.callp rfl rfl ok_f38 cg (by simp only [pureL, pureB, hpu, hb1, Bool.and_self]) rfl ?_
  simp only [run0, run1, run2, run3, run4, run5, run6, run7, run8, run9, run10, run11, run12, run13, run14, run15, run16, run17, run18, run19, run20, run21, run22, reduceCtorEq, Nat.reduceEqDiff, Nat.reduceAdd, Nat.reduceSub, Nat.reduceLeDiff, indexAddrA, indexRefA, appendA, strA, Nat.reduceMul, Nat.zero_mul, Nat.reduceMod, Int.reduceEq, Int.reduceLT, Int.reduceLE, Nat.reduceLT, Nat.lt_irrefl, Nat.reduceBEq, tys0, tys1, tys2, tys3, tys4, tys5, tys6, tys7, tys8, tys9, tys10, Try.ntmps36, Try.results36, List.length_map, hsh, m1, m2, Int.le_refl, Int.toNat_natCast, Int.natCast_nonneg]
  refine RunL.call rfl rfl rfl ok_f40 rfl (.inl rfl) cp ?_
  simp only [run0, run1, run2, run3, run4, run5, run6, run7, run8, run9, run10, run11, run12, run13, run14, run15, run16, run17, run18, run19, run20, run21, run22, reduceCtorEq, Nat.reduceEqDiff, Nat.reduceAdd, Nat.reduceSub, Nat.reduceLeDiff, indexAddrA, indexRefA, appendA, strA, Nat.reduceMul, Nat.zero_mul, Nat.reduceMod, Int.reduceEq, Int.reduceLT, Int.reduceLE, Nat.reduceLT, Nat.lt_irrefl, Nat.reduceBEq, tys0, tys1, tys2, tys3, tys4, tys5, tys6, tys7, tys8, tys9, tys10, Try.ntmps36, Try.results36]
  exact Fin.eq rfl rfl
theorem specPlay_ok (g : List TwZ) (lg : g.length ≤ 1048576) : Ct Try.prog 14 [.sl false (g.map twI)] [] (.tup [.int .i64 (valG g : Nat), .bool (picB g)]) [] := by
  have pg := twI_pure g
  have ci := grGood_ok g lg
  refine Ct.by_ hmix [] Try.func14 rfl ?_
  simp only [run0, run1, run2, run3, run4, run5, run6, run7, run8, run9, run10, run11, run12, run13, run14, run15, run16, run17, run18, run19, run20, run21, run22, reduceCtorEq, Nat.reduceEqDiff, Nat.reduceAdd, Nat.reduceSub, Nat.reduceLeDiff, indexAddrA, indexRefA, appendA, strA, Nat.reduceMul, Nat.zero_mul, Nat.reduceMod, Int.reduceEq, Int.reduceLT, Int.reduceLE, Nat.reduceLT, Nat.lt_irrefl, Nat.reduceBEq, tys0, tys1, tys2, tys3, tys4, tys5, tys6, tys7, tys8, tys9, tys10, Try.ntmps14, Try.results14]
  refine RunL.callp rfl rfl ok_f27 ci (by simp only [pureL, pureB, pg, Bool.and_self]) rfl ?_
  cases hp : picB g
  · have hv : valG g = 0 := by simp [valG, hp]
    rw [hv]
    simp only [run0, run1, run2, run3, run4, run5, run6, run7, run8, run9, run10, run11, run12, run13, run14, run15, run16, run17, run18, run19, run20, run21, run22, reduceCtorEq, Nat.reduceEqDiff, Nat.reduceAdd, Nat.reduceSub, Nat.reduceLeDiff, indexAddrA, indexRefA, appendA, strA, Nat.reduceMul, Nat.zero_mul, Nat.reduceMod, Int.reduceEq, Int.reduceLT, Int.reduceLE, Nat.reduceLT, Nat.lt_irrefl, Nat.reduceBEq, tys0, tys1, tys2, tys3, tys4, tys5, tys6, tys7, tys8, tys9, tys10, Try.ntmps14, Try.results14]
    exact Fin.eq rfl rfl
  · obtain ⟨P, hm⟩ := picB_nat hp
    have hv : valG g = vB (natG g) (gSet (natG g)) := by simp [valG, hp]
    have cv := grValue_ok (natG g) P
    rw [hm] at cv
    rw [hv]
    simp only [run0, run1, run2, run3, run4, run5, run6, run7, run8, run9, run10, run11, run12, run13, run14, run15, run16, run17, run18, run19, run20, run21, run22, reduceCtorEq, Nat.reduceEqDiff, Nat.reduceAdd, Nat.reduceSub, Nat.reduceLeDiff, indexAddrA, indexRefA, appendA, strA, Nat.reduceMul, Nat.zero_mul, Nat.reduceMod, Int.reduceEq, Int.reduceLT, Int.reduceLE, Nat.reduceLT, Nat.lt_irrefl, Nat.reduceBEq, tys0, tys1, tys2, tys3, tys4, tys5, tys6, tys7, tys8, tys9, tys10, Try.ntmps14, Try.results14]
    refine RunL.callp rfl rfl ok_f36 cv (by simp only [pureL, pureB, pg, Bool.and_self]) rfl ?_
    simp only [run0, run1, run2, run3, run4, run5, run6, run7, run8, run9, run10, run11, run12, run13, run14, run15, run16, run17, run18, run19, run20, run21, run22, reduceCtorEq, Nat.reduceEqDiff, Nat.reduceAdd, Nat.reduceSub, Nat.reduceLeDiff, indexAddrA, indexRefA, appendA, strA, Nat.reduceMul, Nat.zero_mul, Nat.reduceMod, Int.reduceEq, Int.reduceLT, Int.reduceLE, Nat.reduceLT, Nat.lt_irrefl, Nat.reduceBEq, tys0, tys1, tys2, tys3, tys4, tys5, tys6, tys7, tys8, tys9, tys10, Try.ntmps14, Try.results14]
    exact Fin.eq rfl rfl

end Go.Proofs.Ytobdpkkmkbafbaa
/-
  Green pictures: the program's winning twig, walked.
-/
namespace Go.Proofs.Ytobdpkkmkbafbaa
open Go K
set_option linter.unusedSimpArgs false
set_option linter.unusedVariables false
set_option maxHeartbeats 1600000
set_option maxRecDepth 8000

noncomputable def wM (G : GTw) (set n : Nat) : MemG := (List.range n).foldl (fun m i => if set.testBit i then gM G 16 m (cutS G set i) else m) []
theorem wM_ok {G : GTw} (P : Pic G) (set n : Nat) : MemGOk G (wM G set n) := fold_mem (fun m i hm => by
  split
  · exact gM_ok P 16 m _ (cutS_ok P set i).lt hm
  · exact hm) _ _ (MemGOk.nil G)
theorem wM_succ (G : GTw) (set n : Nat) : wM G set (n + 1) = if set.testBit n then gM G 16 (wM G set n) (cutS G set n) else wM G set n := by
  simp only [wM, List.range_succ, List.foldl_append, List.foldl_cons, List.foldl_nil]
theorem winI_next {G : GTw} {set f i : Nat} (h : ¬ (set.testBit i = true ∧ vB G (cutS G set i) = 0)) : winI G set (f + 1) i = winI G set f (i + 1) := by
  rw [winI, if_neg]
  simpa using h
theorem implWin_ok (g : List TwZ) (lg : g.length ≤ 1048576) : Ct Try.prog 19 [.sl false (g.map twI)] [] (winV g) [] := by
  have pg := twI_pure g
  have ci := isGreen_ok g lg
  cases hp : picB g
  · rw [hp] at ci
    have hv : winT g = none := by simp [winT, hp]
    unfold winV
    rw [hv]
    refine Ct.by_ hmix [] Try.func19 rfl ?_
    simp only [run0, run1, run2, run3, run4, run5, run6, run7, run8, run9, run10, run11, run12, run13, run14, run15, run16, run17, run18, run19, run20, run21, run22, reduceCtorEq, Nat.reduceEqDiff, Nat.reduceAdd, Nat.reduceSub, Nat.reduceLeDiff, indexAddrA, indexRefA, appendA, strA, Nat.reduceMul, Nat.zero_mul, Nat.reduceMod, Int.reduceEq, Int.reduceLT, Int.reduceLE, Nat.reduceLT, Nat.lt_irrefl, Nat.reduceBEq, tys0, tys1, tys2, tys3, tys4, tys5, tys6, tys7, tys8, tys9, tys10, Try.ntmps19, Try.results19]
    refine RunL.callp rfl rfl ok_f24 ci (by simp only [pureL, pureB, pg, Bool.and_self]) rfl ?_
    simp only [run0, run1, run2, run3, run4, run5, run6, run7, run8, run9, run10, run11, run12, run13, run14, run15, run16, run17, run18, run19, run20, run21, run22, reduceCtorEq, Nat.reduceEqDiff, Nat.reduceAdd, Nat.reduceSub, Nat.reduceLeDiff, indexAddrA, indexRefA, appendA, strA, Nat.reduceMul, Nat.zero_mul, Nat.reduceMod, Int.reduceEq, Int.reduceLT, Int.reduceLE, Nat.reduceLT, Nat.lt_irrefl, Nat.reduceBEq, tys0, tys1, tys2, tys3, tys4, tys5, tys6, tys7, tys8, tys9, tys10, Try.ntmps19, Try.results19]
    exact Fin.eq rfl rfl
  rw [hp] at ci
  obtain ⟨P, hm⟩ := picB_nat hp
  have hv : winT g = winI (natG g) (gSet (natG g)) (natG g).length 0 := by rw [winT, if_pos hp, natG_len]
  unfold winV
  rw [hv]
  rw [← hm] at ci pg ⊢
  generalize natG g = G at *
  have hgl := P.1
  have ca := all_ok G P
  have cg := grounded_ok G (allM G) P (allM_lt P)
  have hst : gSet G < 2 ^ 14 := gRun_lt P
  have e1 : (gRun G (allM G).testBit (G.length + 1) (1, 0)).2 = gSet G := rfl
  rw [e1] at cg
  generalize gSet G = set at *
  refine Ct.by_ hmix [] Try.func19 rfl ?_
  simp only [run0, run1, run2, run3, run4, run5, run6, run7, run8, run9, run10, run11, run12, run13, run14, run15, run16, run17, run18, run19, run20, run21, run22, reduceCtorEq, Nat.reduceEqDiff, Nat.reduceAdd, Nat.reduceSub, Nat.reduceLeDiff, indexAddrA, indexRefA, appendA, strA, Nat.reduceMul, Nat.zero_mul, Nat.reduceMod, Int.reduceEq, Int.reduceLT, Int.reduceLE, Nat.reduceLT, Nat.lt_irrefl, Nat.reduceBEq, tys0, tys1, tys2, tys3, tys4, tys5, tys6, tys7, tys8, tys9, tys10, Try.ntmps19, Try.results19]
  refine RunL.callp rfl rfl ok_f24 ci (by simp only [pureL, pureB, pg, Bool.and_self]) rfl ?_
  simp only [run0, run1, run2, run3, run4, run5, run6, run7, run8, run9, run10, run11, run12, run13, run14, run15, run16, run17, run18, run19, run20, run21, run22, reduceCtorEq, Nat.reduceEqDiff, Nat.reduceAdd, Nat.reduceSub, Nat.reduceLeDiff, indexAddrA, indexRefA, appendA, strA, Nat.reduceMul, Nat.zero_mul, Nat.reduceMod, Int.reduceEq, Int.reduceLT, Int.reduceLE, Nat.reduceLT, Nat.lt_irrefl, Nat.reduceBEq, tys0, tys1, tys2, tys3, tys4, tys5, tys6, tys7, tys8, tys9, tys10, Try.ntmps19, Try.results19]
  refine RunL.callp rfl rfl ok_f32 ca (by simp only [pureL, pureB, pg, Bool.and_self]) rfl ?_
  simp only [run0, run1, run2, run3, run4, run5, run6, run7, run8, run9, run10, run11, run12, run13, run14, run15, run16, run17, run18, run19, run20, run21, run22, reduceCtorEq, Nat.reduceEqDiff, Nat.reduceAdd, Nat.reduceSub, Nat.reduceLeDiff, indexAddrA, indexRefA, appendA, strA, Nat.reduceMul, Nat.zero_mul, Nat.reduceMod, Int.reduceEq, Int.reduceLT, Int.reduceLE, Nat.reduceLT, Nat.lt_irrefl, Nat.reduceBEq, tys0, tys1, tys2, tys3, tys4, tys5, tys6, tys7, tys8, tys9, tys10, Try.ntmps19, Try.results19]
  refine RunL.callp rfl rfl ok_f31 cg (by simp only [pureL, pureB, pg, Bool.and_self]) rfl ?_
  simp only [run0, run1, run2, run3, run4, run5, run6, run7, run8, run9, run10, run11, run12, run13, run14, run15, run16, run17, run18, run19, run20, run21, run22, reduceCtorEq, Nat.reduceEqDiff, Nat.reduceAdd, Nat.reduceSub, Nat.reduceLeDiff, indexAddrA, indexRefA, appendA, strA, Nat.reduceMul, Nat.zero_mul, Nat.reduceMod, Int.reduceEq, Int.reduceLT, Int.reduceLE, Nat.reduceLT, Nat.lt_irrefl, Nat.reduceBEq, tys0, tys1, tys2, tys3, tys4, tys5, tys6, tys7, tys8, tys9, tys10, Try.ntmps19, Try.results19]
  refine RunL.newMap 52 3 rfl rfl rfl ?_
  simp only [run0, run1, run2, run3, run4, run5, run6, run7, run8, run9, run10, run11, run12, run13, run14, run15, run16, run17, run18, run19, run20, run21, run22, reduceCtorEq, Nat.reduceEqDiff, Nat.reduceAdd, Nat.reduceSub, Nat.reduceLeDiff, indexAddrA, indexRefA, appendA, strA, Nat.reduceMul, Nat.zero_mul, Nat.reduceMod, Int.reduceEq, Int.reduceLT, Int.reduceLE, Nat.reduceLT, Nat.lt_irrefl, Nat.reduceBEq, tys0, tys1, tys2, tys3, tys4, tys5, tys6, tys7, tys8, tys9, tys10, Try.ntmps19, Try.results19, List.length_map]
  refine AWp.loop_inv (ι := Nat) (fun n => ⟨[.sl false (G.map twE), .junk, .junk, .junk, .int .u64 set, .map 0, .junk, .junk, .junk, .junk, .junk, .junk, .junk, .junk, .junk, .junk, .int .i64 G.length, .int .i64 n, .junk, .junk, .junk, .junk, .junk, .junk, .junk, .junk, .junk, .junk, .junk, .junk, .junk, .junk, .junk, .junk, .junk, .junk, .junk, .junk, .junk], [memG (wM G set n)]⟩)
    (fun n => n ≤ G.length ∧ winI G set (G.length - n) n = winI G set G.length 0) (fun n => G.length - n) 0 ⟨Nat.zero_le _, rfl⟩ ⟨by simp only [Int.natCast_zero]; repeat constructor, rfl⟩ ?_
  rintro n ⟨hn, hW⟩
  refine W.sound hmix (E := []) ?_
  by_cases hnl : n < G.length
  case neg =>
    obtain rfl : n = G.length := by omega
    rw [Nat.sub_self] at hW
    rw [← hW]
    simp only [run0, run1, run2, run3, run4, run5, run6, run7, run8, run9, run10, run11, run12, run13, run14, run15, run16, run17, run18, run19, run20, run21, run22, reduceCtorEq, Nat.reduceEqDiff, Nat.reduceAdd, Nat.reduceSub, Nat.reduceLeDiff, indexAddrA, indexRefA, appendA, strA, Nat.reduceMul, Nat.zero_mul, Nat.reduceMod, Int.reduceEq, Int.reduceLT, Int.reduceLE, Nat.reduceLT, Nat.lt_irrefl, Nat.reduceBEq, tys0, tys1, tys2, tys3, tys4, tys5, tys6, tys7, tys8, tys9, tys10, Try.ntmps19, Try.results19, Int.lt_irrefl]
    exact Fin.eq rfl rfl
  have f1 : (n : Int) < (G.length : Int) := by omega
  have e5 : IntKind.i64.wrap ((n : Int) + 1) = ((n + 1 : Nat) : Int) := by rw [s64_id (by omega) (by omega)]; simp
  have b1 := bit_of set n (by omega)
  have hsd := shl_one (a := n) (by omega)
  have z1 : ((1 : Int) == 1) = true := rfl
  have z0 : ((0 : Int) == 1) = false := rfl
  have hAN := bits_andNot (a := set) (b := 1 <<< n) (by omega)
  have hanl : andNot set (1 <<< n) < 2 ^ 14 := by
    refine Nat.lt_pow_two_of_testBit _ fun i hi => ?_
    rw [andNot_bit (by omega), Nat.testBit_lt_two_pow (Nat.lt_of_lt_of_le hst (Nat.pow_le_pow_right (by omega) hi))]; rfl
  obtain ⟨r, hr⟩ : ∃ r, G.length - n = r + 1 := ⟨G.length - n - 1, by omega⟩
  have hr2 : G.length - (n + 1) = r := by omega
  rw [hr] at hW
  cases c1 : set.testBit n
  · rw [c1] at b1
    have hwm : wM G set (n + 1) = wM G set n := by rw [wM_succ, c1]; rfl
    simp only [run0, run1, run2, run3, run4, run5, run6, run7, run8, run9, run10, run11, run12, run13, run14, run15, run16, run17, run18, run19, run20, run21, run22, reduceCtorEq, Nat.reduceEqDiff, Nat.reduceAdd, Nat.reduceSub, Nat.reduceLeDiff, indexAddrA, indexRefA, appendA, strA, Nat.reduceMul, Nat.zero_mul, Nat.reduceMod, Int.reduceEq, Int.reduceLT, Int.reduceLE, Nat.reduceLT, Nat.lt_irrefl, Nat.reduceBEq, tys0, tys1, tys2, tys3, tys4, tys5, tys6, tys7, tys8, tys9, tys10, Try.ntmps19, Try.results19, f1, e5, b1, Int.toNat_natCast, Int.natCast_nonneg, Bool.toNat_false, Int.natCast_zero, z0]
    exact ⟨n + 1, ⟨by omega, by rw [hr2, ← hW, winI_next (by simp [c1])]⟩, by omega, by repeat constructor, by rw [hwm]⟩
  rw [c1] at b1
  have cs := cutS_ok P set n
  have hwm : wM G set (n + 1) = gM G 16 (wM G set n) (cutS G set n) := by rw [wM_succ, c1]; rfl
  have cv := grundy_ok G P 16 (cutS G set n) (wM G set n) cs (by have := cnt_len G.length (cutS G set n).testBit; unfold szB; omega) (wM_ok P set n) [memG (wM G set n)] 0 rfl rfl
  have hz0 : ((0 : Int) == 0) = true := rfl
  by_cases hv0 : vB G (cutS G set n) = 0
  · rw [hv0] at cv
    have hw2 : winI G set (r + 1) n = some n := by rw [winI, if_pos (by simp [c1, hv0])]
    rw [← hW, hw2]
    simp only [run0, run1, run2, run3, run4, run5, run6, run7, run8, run9, run10, run11, run12, run13, run14, run15, run16, run17, run18, run19, run20, run21, run22, reduceCtorEq, Nat.reduceEqDiff, Nat.reduceAdd, Nat.reduceSub, Nat.reduceLeDiff, indexAddrA, indexRefA, appendA, strA, Nat.reduceMul, Nat.zero_mul, Nat.reduceMod, Int.reduceEq, Int.reduceLT, Int.reduceLE, Nat.reduceLT, Nat.lt_irrefl, Nat.reduceBEq, tys0, tys1, tys2, tys3, tys4, tys5, tys6, tys7, tys8, tys9, tys10, Try.ntmps19, Try.results19, f1, b1, hsd, hAN, Int.toNat_natCast, Int.natCast_nonneg, Bool.toNat_true, Int.natCast_one, z1]
    refine RunL.callp rfl rfl ok_f31 (grounded_ok G (andNot set (1 <<< n)) P hanl) (by simp only [pureL, pureB, pg, Bool.and_self]) rfl ?_
    simp only [run0, run1, run2, run3, run4, run5, run6, run7, run8, run9, run10, run11, run12, run13, run14, run15, run16, run17, run18, run19, run20, run21, run22, reduceCtorEq, Nat.reduceEqDiff, Nat.reduceAdd, Nat.reduceSub, Nat.reduceLeDiff, indexAddrA, indexRefA, appendA, strA, Nat.reduceMul, Nat.zero_mul, Nat.reduceMod, Int.reduceEq, Int.reduceLT, Int.reduceLE, Nat.reduceLT, Nat.lt_irrefl, Nat.reduceBEq, tys0, tys1, tys2, tys3, tys4, tys5, tys6, tys7, tys8, tys9, tys10, Try.ntmps19, Try.results19]
    refine RunL.call rfl rfl rfl ok_f35 rfl (.inl rfl) cv ?_
    simp only [run0, run1, run2, run3, run4, run5, run6, run7, run8, run9, run10, run11, run12, run13, run14, run15, run16, run17, run18, run19, run20, run21, run22, reduceCtorEq, Nat.reduceEqDiff, Nat.reduceAdd, Nat.reduceSub, Nat.reduceLeDiff, indexAddrA, indexRefA, appendA, strA, Nat.reduceMul, Nat.zero_mul, Nat.reduceMod, Int.reduceEq, Int.reduceLT, Int.reduceLE, Nat.reduceLT, Nat.lt_irrefl, Nat.reduceBEq, tys0, tys1, tys2, tys3, tys4, tys5, tys6, tys7, tys8, tys9, tys10, Try.ntmps19, Try.results19, Int.natCast_zero, hz0]
    exact Fin.eq rfl rfl
  · have hv1 : ((vB G (cutS G set n) : Int) == 0) = false := by simp; omega
    simp only [run0, run1, run2, run3, run4, run5, run6, run7, run8, run9, run10, run11, run12, run13, run14, run15, run16, run17, run18, run19, run20, run21, run22, reduceCtorEq, Nat.reduceEqDiff, Nat.reduceAdd, Nat.reduceSub, Nat.reduceLeDiff, indexAddrA, indexRefA, appendA, strA, Nat.reduceMul, Nat.zero_mul, Nat.reduceMod, Int.reduceEq, Int.reduceLT, Int.reduceLE, Nat.reduceLT, Nat.lt_irrefl, Nat.reduceBEq, tys0, tys1, tys2, tys3, tys4, tys5, tys6, tys7, tys8, tys9, tys10, Try.ntmps19, Try.results19, f1, b1, hsd, hAN, Int.toNat_natCast, Int.natCast_nonneg, Bool.toNat_true, Int.natCast_one, z1]
    refine RunL.callp rfl rfl ok_f31 (grounded_ok G (andNot set (1 <<< n)) P hanl) (by simp only [pureL, pureB, pg, Bool.and_self]) rfl ?_
    simp only [run0, run1, run2, run3, run4, run5, run6, run7, run8, run9, run10, run11, run12, run13, run14, run15, run16, run17, run18, run19, run20, run21, run22, reduceCtorEq, Nat.reduceEqDiff, Nat.reduceAdd, Nat.reduceSub, Nat.reduceLeDiff, indexAddrA, indexRefA, appendA, strA, Nat.reduceMul, Nat.zero_mul, Nat.reduceMod, Int.reduceEq, Int.reduceLT, Int.reduceLE, Nat.reduceLT, Nat.lt_irrefl, Nat.reduceBEq, tys0, tys1, tys2, tys3, tys4, tys5, tys6, tys7, tys8, tys9, tys10, Try.ntmps19, Try.results19]
    refine RunL.call rfl rfl rfl ok_f35 rfl (.inl rfl) cv ?_
    simp only [run0, run1, run2, run3, run4, run5, run6, run7, run8, run9, run10, run11, run12, run13, run14, run15, run16, run17, run18, run19, run20, run21, run22, reduceCtorEq, Nat.reduceEqDiff, Nat.reduceAdd, Nat.reduceSub, Nat.reduceLeDiff, indexAddrA, indexRefA, appendA, strA, Nat.reduceMul, Nat.zero_mul, Nat.reduceMod, Int.reduceEq, Int.reduceLT, Int.reduceLE, Nat.reduceLT, Nat.lt_irrefl, Nat.reduceBEq, tys0, tys1, tys2, tys3, tys4, tys5, tys6, tys7, tys8, tys9, tys10, Try.ntmps19, Try.results19, hv1, e5]
    exact ⟨n + 1, ⟨by omega, by rw [hr2, ← hW, winI_next (by simp [hv0])]⟩, by omega, by repeat constructor, by first | (rw [hwm]; done) | (rw [hwm]; rfl)⟩

end Go.Proofs.Ytobdpkkmkbafbaa
/-
  Green pictures: the reference's winning twig, walked.
-/
namespace Go.Proofs.Ytobdpkkmkbafbaa
open Go K
set_option linter.unusedSimpArgs false
set_option linter.unusedVariables false
set_option maxHeartbeats 1600000
set_option maxRecDepth 8000

noncomputable def wT (G : GTw) (set n : Nat) : List Nat := (List.range n).foldl (fun T i => if set.testBit i then gT G 16 T (cutS G set i) else T) (List.replicate (2 ^ G.length) 0)
theorem wT_ok (G : GTw) (set n : Nat) : TabOk G (wT G set n) := fold_tab (fun m i hm => by
  split
  · exact gT_ok 16 m _ hm
  · exact hm) _ _ (TabOk.zero G)
theorem wT_succ (G : GTw) (set n : Nat) : wT G set (n + 1) = if set.testBit n then gT G 16 (wT G set n) (cutS G set n) else wT G set n := by
  simp only [wT, List.range_succ, List.foldl_append, List.foldl_cons, List.foldl_nil]
theorem specWin_ok (g : List TwZ) (lg : g.length ≤ 1048576) : Ct Try.prog 20 [.sl false (g.map twI)] [] (winV g) [] := by
  have pg := twI_pure g
  have ci := grGood_ok g lg
  cases hp : picB g
  · rw [hp] at ci
    have hv : winT g = none := by simp [winT, hp]
    unfold winV
    rw [hv]
    refine Ct.by_ hmix [] Try.func20 rfl ?_
    simp only [run0, run1, run2, run3, run4, run5, run6, run7, run8, run9, run10, run11, run12, run13, run14, run15, run16, run17, run18, run19, run20, run21, run22, reduceCtorEq, Nat.reduceEqDiff, Nat.reduceAdd, Nat.reduceSub, Nat.reduceLeDiff, indexAddrA, indexRefA, appendA, strA, Nat.reduceMul, Nat.zero_mul, Nat.reduceMod, Int.reduceEq, Int.reduceLT, Int.reduceLE, Nat.reduceLT, Nat.lt_irrefl, Nat.reduceBEq, tys0, tys1, tys2, tys3, tys4, tys5, tys6, tys7, tys8, tys9, tys10, Try.ntmps20, Try.results20]
    refine RunL.callp rfl rfl ok_f27 ci (by simp only [pureL, pureB, pg, Bool.and_self]) rfl ?_
    simp only [run0, run1, run2, run3, run4, run5, run6, run7, run8, run9, run10, run11, run12, run13, run14, run15, run16, run17, run18, run19, run20, run21, run22, reduceCtorEq, Nat.reduceEqDiff, Nat.reduceAdd, Nat.reduceSub, Nat.reduceLeDiff, indexAddrA, indexRefA, appendA, strA, Nat.reduceMul, Nat.zero_mul, Nat.reduceMod, Int.reduceEq, Int.reduceLT, Int.reduceLE, Nat.reduceLT, Nat.lt_irrefl, Nat.reduceBEq, tys0, tys1, tys2, tys3, tys4, tys5, tys6, tys7, tys8, tys9, tys10, Try.ntmps20, Try.results20]
    exact Fin.eq rfl rfl
  rw [hp] at ci
  obtain ⟨P, hm⟩ := picB_nat hp
  have hv : winT g = winI (natG g) (gSet (natG g)) (natG g).length 0 := by rw [winT, if_pos hp, natG_len]
  unfold winV
  rw [hv]
  rw [← hm] at ci pg ⊢
  generalize natG g = G at *
  have hgl := P.1
  have ca := grAll_ok G P
  rw [bl_allM] at ca
  have cg := grGround_ok G P (allM G).testBit
  have hgs : gnd G (allM G).testBit = gSet G := rfl
  rw [hgs] at cg
  have hst : gSet G < 2 ^ 14 := gRun_lt P
  have hb1 := bools_pure (bl G.length (allM G).testBit)
  generalize gSet G = set at *
  have hb2 := bools_pure (bl G.length set.testBit)
  have hp2 : 2 ^ G.length ≤ 2 ^ 14 := Nat.pow_le_pow_right (by omega) hgl
  have hsh := shl_i64 (a := G.length) (by omega)
  have hrep : nats (List.replicate (2 ^ G.length) 0) = List.replicate (2 ^ G.length) (.int .i64 0) := by simp [nats]
  have hw0 : wT G set 0 = List.replicate (2 ^ G.length) 0 := rfl
  have cpl := fun n => grPlay_ok G P 0 16 (cutS G set n) (wT G set n) (cutS_ok P set n) (by have := cnt_len G.length (cutS G set n).testBit; unfold szB; omega) (wT_ok G set n) [tabO 0 (wT G set n)] 0 rfl (by simp only [List.all_cons, List.all_nil, tabO, nats_flat, Bool.and_self])
  unfold tabO at cpl
  generalize hPP : 2 ^ G.length = Q at *
  have m1 : (0 : Int) ≤ (Q : Int) := by omega
  have m2 : (Q : Int) ≤ 137438953472 := by omega
  refine Ct.by_ hmix [] Try.func20 rfl ?_
  simp only [run0, run1, run2, run3, run4, run5, run6, run7, run8, run9, run10, run11, run12, run13, run14, run15, run16, run17, run18, run19, run20, run21, run22, reduceCtorEq, Nat.reduceEqDiff, Nat.reduceAdd, Nat.reduceSub, Nat.reduceLeDiff, indexAddrA, indexRefA, appendA, strA, Nat.reduceMul, Nat.zero_mul, Nat.reduceMod, Int.reduceEq, Int.reduceLT, Int.reduceLE, Nat.reduceLT, Nat.lt_irrefl, Nat.reduceBEq, tys0, tys1, tys2, tys3, tys4, tys5, tys6, tys7, tys8, tys9, tys10, Try.ntmps20, Try.results20]
  refine RunL.callp rfl rfl ok_f27 ci (by simp only [pureL, pureB, pg, Bool.and_self]) rfl ?_
  simp only [run0, run1, run2, run3, run4, run5, run6, run7, run8, run9, run10, run11, run12, run13, run14, run15, run16, run17, run18, run19, run20, run21, run22, reduceCtorEq, Nat.reduceEqDiff, Nat.reduceAdd, Nat.reduceSub, Nat.reduceLeDiff, indexAddrA, indexRefA, appendA, strA, Nat.reduceMul, Nat.zero_mul, Nat.reduceMod, Int.reduceEq, Int.reduceLT, Int.reduceLE, Nat.reduceLT, Nat.lt_irrefl, Nat.reduceBEq, tys0, tys1, tys2, tys3, tys4, tys5, tys6, tys7, tys8, tys9, tys10, Try.ntmps20, Try.results20]
  refine RunL.callp rfl rfl ok_f39 ca (by simp only [pureL, pureB, pg, Bool.and_self]) rfl ?_
  simp only [run0, run1, run2, run3, run4, run5, run6, run7, run8, run9, run10, run11, run12, run13, run14, run15, run16, run17, run18, run19, run20, run21, run22, reduceCtorEq, Nat.reduceEqDiff, Nat.reduceAdd, Nat.reduceSub, Nat.reduceLeDiff, indexAddrA, indexRefA, appendA, strA, Nat.reduceMul, Nat.zero_mul, Nat.reduceMod, Int.reduceEq, Int.reduceLT, Int.reduceLE, Nat.reduceLT, Nat.lt_irrefl, Nat.reduceBEq, tys0, tys1, tys2, tys3, tys4, tys5, tys6, tys7, tys8, tys9, tys10, Try.ntmps20, Try.results20]
  refine RunL.callp rfl rfl ok_f38 cg (by simp only [pureL, pureB, pg, hb1, Bool.and_self]) rfl ?_
  simp only [run0, run1, run2, run3, run4, run5, run6, run7, run8, run9, run10, run11, run12, run13, run14, run15, run16, run17, run18, run19, run20, run21, run22, reduceCtorEq, Nat.reduceEqDiff, Nat.reduceAdd, Nat.reduceSub, Nat.reduceLeDiff, indexAddrA, indexRefA, appendA, strA, Nat.reduceMul, Nat.zero_mul, Nat.reduceMod, Int.reduceEq, Int.reduceLT, Int.reduceLE, Nat.reduceLT, Nat.lt_irrefl, Nat.reduceBEq, tys0, tys1, tys2, tys3, tys4, tys5, tys6, tys7, tys8, tys9, tys10, Try.ntmps20, Try.results20, List.length_map, hsh, m1, m2, Int.le_refl, Int.toNat_natCast, Int.natCast_nonneg]
  refine AWp.loop_inv (ι := Nat) (fun n => ⟨[.sl false (G.map twE), .junk, .junk, .junk, .sl false (bools (bl G.length set.testBit)), .ref 0 [] 0 Q, .junk, .junk, .junk, .junk, .junk, .junk, .junk, .junk, .junk, .junk, .junk, .junk, .junk, .int .i64 G.length, .int .i64 n, .junk, .junk, .junk, .junk, .junk, .junk, .junk, .junk, .junk, .junk, .junk, .junk, .junk, .junk, .junk, .junk, .junk, .junk], [.vec 3 1 0 (nats (wT G set n))]⟩)
    (fun n => n ≤ G.length ∧ winI G set (G.length - n) n = winI G set G.length 0) (fun n => G.length - n) 0 ⟨Nat.zero_le _, rfl⟩ ⟨by simp only [Int.natCast_zero]; repeat constructor, by rw [hw0, hrep]⟩ ?_
  rintro n ⟨hn, hW⟩
  refine W.sound hmix (E := []) ?_
  by_cases hnl : n < G.length
  case neg =>
    obtain rfl : n = G.length := by omega
    rw [Nat.sub_self] at hW
    rw [← hW]
    simp only [run0, run1, run2, run3, run4, run5, run6, run7, run8, run9, run10, run11, run12, run13, run14, run15, run16, run17, run18, run19, run20, run21, run22, reduceCtorEq, Nat.reduceEqDiff, Nat.reduceAdd, Nat.reduceSub, Nat.reduceLeDiff, indexAddrA, indexRefA, appendA, strA, Nat.reduceMul, Nat.zero_mul, Nat.reduceMod, Int.reduceEq, Int.reduceLT, Int.reduceLE, Nat.reduceLT, Nat.lt_irrefl, Nat.reduceBEq, tys0, tys1, tys2, tys3, tys4, tys5, tys6, tys7, tys8, tys9, tys10, Try.ntmps20, Try.results20, Int.lt_irrefl]
    exact Fin.eq rfl rfl
  have f1 : (n : Int) < (G.length : Int) := by omega
  have e5 : IntKind.i64.wrap ((n : Int) + 1) = ((n + 1 : Nat) : Int) := by rw [s64_id (by omega) (by omega)]; simp
  have e3 := bl_get (p := set.testBit) hnl
  obtain ⟨r, hr⟩ : ∃ r, G.length - n = r + 1 := ⟨G.length - n - 1, by omega⟩
  have hr2 : G.length - (n + 1) = r := by omega
  rw [hr] at hW
  cases c1 : set.testBit n
  · rw [c1] at e3
    have hwm : wT G set (n + 1) = wT G set n := by rw [wT_succ, c1]; rfl
    simp only [run0, run1, run2, run3, run4, run5, run6, run7, run8, run9, run10, run11, run12, run13, run14, run15, run16, run17, run18, run19, run20, run21, run22, reduceCtorEq, Nat.reduceEqDiff, Nat.reduceAdd, Nat.reduceSub, Nat.reduceLeDiff, indexAddrA, indexRefA, appendA, strA, Nat.reduceMul, Nat.zero_mul, Nat.reduceMod, Int.reduceEq, Int.reduceLT, Int.reduceLE, Nat.reduceLT, Nat.lt_irrefl, Nat.reduceBEq, tys0, tys1, tys2, tys3, tys4, tys5, tys6, tys7, tys8, tys9, tys10, Try.ntmps20, Try.results20, f1, e5, e3, Int.toNat_natCast, Int.natCast_nonneg]
    exact ⟨n + 1, ⟨by omega, by rw [hr2, ← hW, winI_next (by simp [c1])]⟩, by omega, by repeat constructor, by rw [hwm]⟩
  rw [c1] at e3
  have hwm : wT G set (n + 1) = gT G 16 (wT G set n) (cutS G set n) := by rw [wT_succ, c1]; rfl
  have cc := grCut_ok G P set n hst hnl
  have cv := cpl n
  have hz0 : ((0 : Int) == 0) = true := rfl
  by_cases hv0 : vB G (cutS G set n) = 0
  · rw [hv0] at cv
    have hw2 : winI G set (r + 1) n = some n := by rw [winI, if_pos (by simp [c1, hv0])]
    rw [← hW, hw2]
    simp only [run0, run1, run2, run3, run4, run5, run6, run7, run8, run9, run10, run11, run12, run13, run14, run15, run16, run17, run18, run19, run20, run21, run22, reduceCtorEq, Nat.reduceEqDiff, Nat.reduceAdd, Nat.reduceSub, Nat.reduceLeDiff, indexAddrA, indexRefA, appendA, strA, Nat.reduceMul, Nat.zero_mul, Nat.reduceMod, Int.reduceEq, Int.reduceLT, Int.reduceLE, Nat.reduceLT, Nat.lt_irrefl, Nat.reduceBEq, tys0, tys1, tys2, tys3, tys4, tys5, tys6, tys7, tys8, tys9, tys10, Try.ntmps20, Try.results20, f1, e3, Int.toNat_natCast, Int.natCast_nonneg]
    refine RunL.callp rfl rfl ok_f41 cc (by simp only [pureL, pureB, pg, hb2, Bool.and_self]) rfl ?_
    simp only [run0, run1, run2, run3, run4, run5, run6, run7, run8, run9, run10, run11, run12, run13, run14, run15, run16, run17, run18, run19, run20, run21, run22, reduceCtorEq, Nat.reduceEqDiff, Nat.reduceAdd, Nat.reduceSub, Nat.reduceLeDiff, indexAddrA, indexRefA, appendA, strA, Nat.reduceMul, Nat.zero_mul, Nat.reduceMod, Int.reduceEq, Int.reduceLT, Int.reduceLE, Nat.reduceLT, Nat.lt_irrefl, Nat.reduceBEq, tys0, tys1, tys2, tys3, tys4, tys5, tys6, tys7, tys8, tys9, tys10, Try.ntmps20, Try.results20]
    refine RunL.call rfl rfl rfl ok_f40 rfl (.inl rfl) cv ?_
    simp only [run0, run1, run2, run3, run4, run5, run6, run7, run8, run9, run10, run11, run12, run13, run14, run15, run16, run17, run18, run19, run20, run21, run22, reduceCtorEq, Nat.reduceEqDiff, Nat.reduceAdd, Nat.reduceSub, Nat.reduceLeDiff, indexAddrA, indexRefA, appendA, strA, Nat.reduceMul, Nat.zero_mul, Nat.reduceMod, Int.reduceEq, Int.reduceLT, Int.reduceLE, Nat.reduceLT, Nat.lt_irrefl, Nat.reduceBEq, tys0, tys1, tys2, tys3, tys4, tys5, tys6, tys7, tys8, tys9, tys10, Try.ntmps20, Try.results20, Int.natCast_zero, hz0]
    exact Fin.eq rfl rfl
  · have hv1 : ((vB G (cutS G set n) : Int) == 0) = false := by simp; omega
    simp only [run0, run1, run2, run3, run4, run5, run6, run7, run8, run9, run10, run11, run12, run13, run14, run15, run16, run17, run18, run19, run20, run21, run22, reduceCtorEq, Nat.reduceEqDiff, Nat.reduceAdd, Nat.reduceSub, Nat.reduceLeDiff, indexAddrA, indexRefA, appendA, strA, Nat.reduceMul, Nat.zero_mul, Nat.reduceMod, Int.reduceEq, Int.reduceLT, Int.reduceLE, Nat.reduceLT, Nat.lt_irrefl, Nat.reduceBEq, tys0, tys1, tys2, tys3, tys4, tys5, tys6, tys7, tys8, tys9, tys10, Try.ntmps20, Try.results20, f1, e3, Int.toNat_natCast, Int.natCast_nonneg]
    refine RunL.callp rfl rfl ok_f41 cc (by simp only [pureL, pureB, pg, hb2, Bool.and_self]) rfl ?_
    simp only [run0, run1, run2, run3, run4, run5, run6, run7, run8, run9, run10, run11, run12, run13, run14, run15, run16, run17, run18, run19, run20, run21, run22, reduceCtorEq, Nat.reduceEqDiff, Nat.reduceAdd, Nat.reduceSub, Nat.reduceLeDiff, indexAddrA, indexRefA, appendA, strA, Nat.reduceMul, Nat.zero_mul, Nat.reduceMod, Int.reduceEq, Int.reduceLT, Int.reduceLE, Nat.reduceLT, Nat.lt_irrefl, Nat.reduceBEq, tys0, tys1, tys2, tys3, tys4, tys5, tys6, tys7, tys8, tys9, tys10, Try.ntmps20, Try.results20]
    refine RunL.call rfl rfl rfl ok_f40 rfl (.inl rfl) cv ?_
    simp only [run0, run1, run2, run3, run4, run5, run6, run7, run8, run9, run10, run11, run12, run13, run14, run15, run16, run17, run18, run19, run20, run21, run22, reduceCtorEq, Nat.reduceEqDiff, Nat.reduceAdd, Nat.reduceSub, Nat.reduceLeDiff, indexAddrA, indexRefA, appendA, strA, Nat.reduceMul, Nat.zero_mul, Nat.reduceMod, Int.reduceEq, Int.reduceLT, Int.reduceLE, Nat.reduceLT, Nat.lt_irrefl, Nat.reduceBEq, tys0, tys1, tys2, tys3, tys4, tys5, tys6, tys7, tys8, tys9, tys10, Try.ntmps20, Try.results20, hv1, e5]
    exact ⟨n + 1, ⟨by omega, by rw [hr2, ← hW, winI_next (by simp [hv0])]⟩, by omega, by repeat constructor, by first | (rw [hwm]; done) | (rw [hwm]; rfl)⟩

end Go.Proofs.Ytobdpkkmkbafbaa
/-
  Green pictures: cuts and winning cuts, walked.
-/
namespace Go.Proofs.Ytobdpkkmkbafbaa
open Go K
set_option linter.unusedSimpArgs false
set_option linter.unusedVariables false
set_option maxHeartbeats 1600000
set_option maxRecDepth 8000

theorem cutTwig_ok (g : List TwZ) (hp : picB g = true) (i : Nat) (hi : i < g.length) : Ct Try.prog 21 [.sl false (g.map twI), .int .i64 i] []
    (.tup [.sl false ((if (gSet (natG g)).testBit i then cutT g i else []).map twI), .bool ((gSet (natG g)).testBit i)]) [] := by
  have pg := twI_pure g
  obtain ⟨P, hm⟩ := picB_nat hp
  have hl14 : g.length ≤ 14 := by have := P.1; rwa [natG_len] at this
  have ci := isGreen_ok g (by omega)
  rw [hp] at ci
  have w1 : IntKind.i64.wrap ((g.length : Int) - 1) = (g.length : Int) - 1 := s64_id (by omega) (by omega)
  have ck := inK_ok (i : Int) 0 ((g.length : Int) - 1)
  have hk : inK (i : Int) 0 ((g.length : Int) - 1) = true := by simp [inK]; omega
  rw [hk] at ck
  have ca := all_ok (natG g) P
  have cg := grounded_ok (natG g) (allM (natG g)) P (allM_lt P)
  have hal := allM_lt P
  have hAN := bits_andNot (a := allM (natG g)) (b := 1 <<< i) (by omega)
  have hsd := shl_one (a := i) (by omega)
  have hanl : andNot (allM (natG g)) (1 <<< i) < 2 ^ 14 := by
    refine Nat.lt_pow_two_of_testBit _ fun j hj => ?_
    rw [andNot_bit (by omega), Nat.testBit_lt_two_pow (Nat.lt_of_lt_of_le hal (Nat.pow_le_pow_right (by omega) hj))]; rfl
  have cg2 := grounded_ok (natG g) (andNot (allM (natG g)) (1 <<< i)) P hanl
  have cc := chosen_ok g hl14 (cutS (natG g) (allM (natG g)) i) (cutS_ok P _ i).lt
  have hgs : gSet (natG g) < 2 ^ 14 := gRun_lt P
  have b1 := bit_of (gSet (natG g)) i (by omega)
  rw [hm] at ca cg cg2
  have e1 : (gRun (natG g) (allM (natG g)).testBit ((natG g).length + 1) (1, 0)).2 = gSet (natG g) := rfl
  have e2 : (gRun (natG g) (andNot (allM (natG g)) (1 <<< i)).testBit ((natG g).length + 1) (1, 0)).2 = cutS (natG g) (allM (natG g)) i := rfl
  have e3 : keptT (cutS (natG g) (allM (natG g)) i).testBit 0 g = cutT g i := rfl
  rw [e1] at cg
  rw [e2] at cg2
  rw [e3] at cc
  have pk := twI_pure (cutT g i)
  have z2 : ((1 : Int) == 0) = false := rfl
  have z3 : ((0 : Int) == 0) = true := rfl
  generalize allM (natG g) = A at *
  generalize gSet (natG g) = S at *
  generalize cutS (natG g) A i = C at *
  generalize cutT g i = K at *
  cases hb : S.testBit i
  · rw [hb] at b1
    refine Ct.by_ hmix [] Try.func21 rfl ?_
    simp only [run0, run1, run2, run3, run4, run5, run6, run7, run8, run9, run10, run11, run12, run13, run14, run15, run16, run17, run18, run19, run20, run21, run22, reduceCtorEq, Nat.reduceEqDiff, Nat.reduceAdd, Nat.reduceSub, Nat.reduceLeDiff, indexAddrA, indexRefA, appendA, strA, Nat.reduceMul, Nat.zero_mul, Nat.reduceMod, Int.reduceEq, Int.reduceLT, Int.reduceLE, Nat.reduceLT, Nat.lt_irrefl, Nat.reduceBEq, tys0, tys1, tys2, tys3, tys4, tys5, tys6, tys7, tys8, tys9, tys10, Try.ntmps21, Try.results21]
    refine RunL.callp rfl rfl ok_f24 ci (by simp only [pureL, pureB, pg, Bool.and_self]) rfl ?_
    simp only [run0, run1, run2, run3, run4, run5, run6, run7, run8, run9, run10, run11, run12, run13, run14, run15, run16, run17, run18, run19, run20, run21, run22, reduceCtorEq, Nat.reduceEqDiff, Nat.reduceAdd, Nat.reduceSub, Nat.reduceLeDiff, indexAddrA, indexRefA, appendA, strA, Nat.reduceMul, Nat.zero_mul, Nat.reduceMod, Int.reduceEq, Int.reduceLT, Int.reduceLE, Nat.reduceLT, Nat.lt_irrefl, Nat.reduceBEq, tys0, tys1, tys2, tys3, tys4, tys5, tys6, tys7, tys8, tys9, tys10, Try.ntmps21, Try.results21, List.length_map, w1]
    refine RunL.callp rfl rfl ok_f42 ck rfl rfl ?_
    simp only [run0, run1, run2, run3, run4, run5, run6, run7, run8, run9, run10, run11, run12, run13, run14, run15, run16, run17, run18, run19, run20, run21, run22, reduceCtorEq, Nat.reduceEqDiff, Nat.reduceAdd, Nat.reduceSub, Nat.reduceLeDiff, indexAddrA, indexRefA, appendA, strA, Nat.reduceMul, Nat.zero_mul, Nat.reduceMod, Int.reduceEq, Int.reduceLT, Int.reduceLE, Nat.reduceLT, Nat.lt_irrefl, Nat.reduceBEq, tys0, tys1, tys2, tys3, tys4, tys5, tys6, tys7, tys8, tys9, tys10, Try.ntmps21, Try.results21]
    refine RunL.callp rfl rfl ok_f32 ca (by simp only [pureL, pureB, pg, Bool.and_self]) rfl ?_
    simp only [run0, run1, run2, run3, run4, run5, run6, run7, run8, run9, run10, run11, run12, run13, run14, run15, run16, run17, run18, run19, run20, run21, run22, reduceCtorEq, Nat.reduceEqDiff, Nat.reduceAdd, Nat.reduceSub, Nat.reduceLeDiff, indexAddrA, indexRefA, appendA, strA, Nat.reduceMul, Nat.zero_mul, Nat.reduceMod, Int.reduceEq, Int.reduceLT, Int.reduceLE, Nat.reduceLT, Nat.lt_irrefl, Nat.reduceBEq, tys0, tys1, tys2, tys3, tys4, tys5, tys6, tys7, tys8, tys9, tys10, Try.ntmps21, Try.results21]
    refine RunL.callp rfl rfl ok_f31 cg (by simp only [pureL, pureB, pg, Bool.and_self]) rfl ?_
    simp only [run0, run1, run2, run3, run4, run5, run6, run7, run8, run9, run10, run11, run12, run13, run14, run15, run16, run17, run18, run19, run20, run21, run22, reduceCtorEq, Nat.reduceEqDiff, Nat.reduceAdd, Nat.reduceSub, Nat.reduceLeDiff, indexAddrA, indexRefA, appendA, strA, Nat.reduceMul, Nat.zero_mul, Nat.reduceMod, Int.reduceEq, Int.reduceLT, Int.reduceLE, Nat.reduceLT, Nat.lt_irrefl, Nat.reduceBEq, tys0, tys1, tys2, tys3, tys4, tys5, tys6, tys7, tys8, tys9, tys10, Try.ntmps21, Try.results21, b1, Int.toNat_natCast, Int.natCast_nonneg, Bool.toNat_false, Int.natCast_zero, z3]
    exact Fin.value (.tup (.cons (Vw.nil false) (.cons (.pur (.bool _)) .nil)))
  · rw [hb] at b1
    rw [if_pos rfl]
    refine Ct.by_ hmix [] Try.func21 rfl ?_
    simp only [run0, run1, run2, run3, run4, run5, run6, run7, run8, run9, run10, run11, run12, run13, run14, run15, run16, run17, run18, run19, run20, run21, run22, reduceCtorEq, Nat.reduceEqDiff, Nat.reduceAdd, Nat.reduceSub, Nat.reduceLeDiff, indexAddrA, indexRefA, appendA, strA, Nat.reduceMul, Nat.zero_mul, Nat.reduceMod, Int.reduceEq, Int.reduceLT, Int.reduceLE, Nat.reduceLT, Nat.lt_irrefl, Nat.reduceBEq, tys0, tys1, tys2, tys3, tys4, tys5, tys6, tys7, tys8, tys9, tys10, Try.ntmps21, Try.results21]
    refine RunL.callp rfl rfl ok_f24 ci (by simp only [pureL, pureB, pg, Bool.and_self]) rfl ?_
    simp only [run0, run1, run2, run3, run4, run5, run6, run7, run8, run9, run10, run11, run12, run13, run14, run15, run16, run17, run18, run19, run20, run21, run22, reduceCtorEq, Nat.reduceEqDiff, Nat.reduceAdd, Nat.reduceSub, Nat.reduceLeDiff, indexAddrA, indexRefA, appendA, strA, Nat.reduceMul, Nat.zero_mul, Nat.reduceMod, Int.reduceEq, Int.reduceLT, Int.reduceLE, Nat.reduceLT, Nat.lt_irrefl, Nat.reduceBEq, tys0, tys1, tys2, tys3, tys4, tys5, tys6, tys7, tys8, tys9, tys10, Try.ntmps21, Try.results21, List.length_map, w1]
    refine RunL.callp rfl rfl ok_f42 ck rfl rfl ?_
    simp only [run0, run1, run2, run3, run4, run5, run6, run7, run8, run9, run10, run11, run12, run13, run14, run15, run16, run17, run18, run19, run20, run21, run22, reduceCtorEq, Nat.reduceEqDiff, Nat.reduceAdd, Nat.reduceSub, Nat.reduceLeDiff, indexAddrA, indexRefA, appendA, strA, Nat.reduceMul, Nat.zero_mul, Nat.reduceMod, Int.reduceEq, Int.reduceLT, Int.reduceLE, Nat.reduceLT, Nat.lt_irrefl, Nat.reduceBEq, tys0, tys1, tys2, tys3, tys4, tys5, tys6, tys7, tys8, tys9, tys10, Try.ntmps21, Try.results21]
    refine RunL.callp rfl rfl ok_f32 ca (by simp only [pureL, pureB, pg, Bool.and_self]) rfl ?_
    simp only [run0, run1, run2, run3, run4, run5, run6, run7, run8, run9, run10, run11, run12, run13, run14, run15, run16, run17, run18, run19, run20, run21, run22, reduceCtorEq, Nat.reduceEqDiff, Nat.reduceAdd, Nat.reduceSub, Nat.reduceLeDiff, indexAddrA, indexRefA, appendA, strA, Nat.reduceMul, Nat.zero_mul, Nat.reduceMod, Int.reduceEq, Int.reduceLT, Int.reduceLE, Nat.reduceLT, Nat.lt_irrefl, Nat.reduceBEq, tys0, tys1, tys2, tys3, tys4, tys5, tys6, tys7, tys8, tys9, tys10, Try.ntmps21, Try.results21]
    refine RunL.callp rfl rfl ok_f31 cg (by simp only [pureL, pureB, pg, Bool.and_self]) rfl ?_
    simp only [run0, run1, run2, run3, run4, run5, run6, run7, run8, run9, run10, run11, run12, run13, run14, run15, run16, run17, run18, run19, run20, run21, run22, reduceCtorEq, Nat.reduceEqDiff, Nat.reduceAdd, Nat.reduceSub, Nat.reduceLeDiff, indexAddrA, indexRefA, appendA, strA, Nat.reduceMul, Nat.zero_mul, Nat.reduceMod, Int.reduceEq, Int.reduceLT, Int.reduceLE, Nat.reduceLT, Nat.lt_irrefl, Nat.reduceBEq, tys0, tys1, tys2, tys3, tys4, tys5, tys6, tys7, tys8, tys9, tys10, Try.ntmps21, Try.results21, b1, Int.toNat_natCast, Int.natCast_nonneg, Bool.toNat_true, Int.natCast_one, z2]
    refine ⟨by kernel_rfl, ?_⟩
    try simp only [run0, run1, run2, run3, run4, run5, run6, run7, run8, run9, run10, run11, run12, run13, run14, run15, run16, run17, run18, run19, run20, run21, run22, reduceCtorEq, Nat.reduceEqDiff, Nat.reduceAdd, Nat.reduceSub, Nat.reduceLeDiff, indexAddrA, indexRefA, appendA, strA, Nat.reduceMul, Nat.zero_mul, Nat.reduceMod, Int.reduceEq, Int.reduceLT, Int.reduceLE, Nat.reduceLT, Nat.lt_irrefl, Nat.reduceBEq, tys0, tys1, tys2, tys3, tys4, tys5, tys6, tys7, tys8, tys9, tys10, Try.ntmps21, Try.results21]
    refine RunL.callp rfl rfl ok_f32 ca (by simp only [pureL, pureB, pg, Bool.and_self]) rfl ?_
    simp only [run0, run1, run2, run3, run4, run5, run6, run7, run8, run9, run10, run11, run12, run13, run14, run15, run16, run17, run18, run19, run20, run21, run22, reduceCtorEq, Nat.reduceEqDiff, Nat.reduceAdd, Nat.reduceSub, Nat.reduceLeDiff, indexAddrA, indexRefA, appendA, strA, Nat.reduceMul, Nat.zero_mul, Nat.reduceMod, Int.reduceEq, Int.reduceLT, Int.reduceLE, Nat.reduceLT, Nat.lt_irrefl, Nat.reduceBEq, tys0, tys1, tys2, tys3, tys4, tys5, tys6, tys7, tys8, tys9, tys10, Try.ntmps21, Try.results21, hsd, hAN, Int.toNat_natCast, Int.natCast_nonneg]
    refine RunL.callp rfl rfl ok_f31 cg2 (by simp only [pureL, pureB, pg, Bool.and_self]) rfl ?_
    simp only [run0, run1, run2, run3, run4, run5, run6, run7, run8, run9, run10, run11, run12, run13, run14, run15, run16, run17, run18, run19, run20, run21, run22, reduceCtorEq, Nat.reduceEqDiff, Nat.reduceAdd, Nat.reduceSub, Nat.reduceLeDiff, indexAddrA, indexRefA, appendA, strA, Nat.reduceMul, Nat.zero_mul, Nat.reduceMod, Int.reduceEq, Int.reduceLT, Int.reduceLE, Nat.reduceLT, Nat.lt_irrefl, Nat.reduceBEq, tys0, tys1, tys2, tys3, tys4, tys5, tys6, tys7, tys8, tys9, tys10, Try.ntmps21, Try.results21]
    refine RunL.callp rfl rfl ok_f37 cc (by simp only [pureL, pureB, pg, Bool.and_self]) rfl ?_
    simp only [run0, run1, run2, run3, run4, run5, run6, run7, run8, run9, run10, run11, run12, run13, run14, run15, run16, run17, run18, run19, run20, run21, run22, reduceCtorEq, Nat.reduceEqDiff, Nat.reduceAdd, Nat.reduceSub, Nat.reduceLeDiff, indexAddrA, indexRefA, appendA, strA, Nat.reduceMul, Nat.zero_mul, Nat.reduceMod, Int.reduceEq, Int.reduceLT, Int.reduceLE, Nat.reduceLT, Nat.lt_irrefl, Nat.reduceBEq, tys0, tys1, tys2, tys3, tys4, tys5, tys6, tys7, tys8, tys9, tys10, Try.ntmps21, Try.results21]
    exact Fin.eq rfl (by simp only [pureB, pureL, pk, Bool.and_self])

end Go.Proofs.Ytobdpkkmkbafbaa
/-
  Bytes handed in to the laws of draws.
-/
namespace Go.Proofs.Ytobdpkkmkbafbaa
open Go K
set_option linter.unusedSimpArgs false
set_option linter.unusedVariables false
set_option maxHeartbeats 1600000
set_option maxRecDepth 8000

theorem maxLen_eq : maxLen = 9223372036854775807 := by decide
theorem bytes_list : ∀ es : List AV, (∀ x ∈ es, IsOf Try.prog 5 x) → ∃ l : List Int, es = bytesV l ∧ ∀ b ∈ l, 0 ≤ b ∧ b ≤ 255
  | [], _ => ⟨[], rfl, by simp⟩
  | x :: es, hes => by
    obtain ⟨l, rfl, h2⟩ := bytes_list es fun y hy => hes y (List.mem_cons_of_mem _ hy)
    obtain ⟨_, h⟩ := (hes x (List.mem_cons_self ..)).one ty_a5
    obtain ⟨i, e, hw⟩ := h.int Try.underlying5
    simp only [List.cons.injEq, and_true] at e
    subst e
    refine ⟨i :: l, rfl, fun b hb => ?_⟩
    rcases List.mem_cons.1 hb with rfl | hb
    · simp only [Lit.wf, Bool.and_eq_true, decide_eq_true_eq] at hw
      exact hw
    · exact h2 b hb
theorem laws_isBytes {x : AV} (h : IsOf Try.prog 22 x) : ∃ l : List Int, x = .sl false (bytesV l) ∧ (∀ b ∈ l, 0 ≤ b ∧ b ≤ 255) ∧ l.length ≤ maxLen := by
  obtain ⟨_, h⟩ := h.one ty_a22
  obtain ⟨es, e0, hel, hes⟩ := h.slice Try.underlying22
  simp only [List.cons.injEq, and_true] at e0
  subst e0
  obtain ⟨l, rfl, h2⟩ := bytes_list es hes
  exact ⟨l, rfl, h2, by simpa [bytesV] using hel⟩

theorem bytes_pure : ∀ l : List Int, pureL (bytesV l) = true
  | [] => rfl
  | x :: r => by
    have := bytes_pure r
    simp only [bytesV, List.map_cons, pureL, pureB, Bool.true_and] at this ⊢
    exact this
theorem big_ok (l m : List Int) (hl : l.length ≤ maxLen) (hm : m.length ≤ maxLen) : Ct Try.prog 6 [.sl false (bytesV l), .sl false (bytesV m)] [] (.bool (decide ((1048576 : Int) < l.length) || decide (1048576 - (l.length : Int) < m.length))) [] := by
  rw [maxLen_eq] at hl hm
  have e1 : (bytesV l).length = l.length := by simp [bytesV]
  have e2 : (bytesV m).length = m.length := by simp [bytesV]
  have e3 : IntKind.i64.wrap (1048576 - (l.length : Int)) = 1048576 - (l.length : Int) := i64Z (by omega) (by omega)
  refine Ct.by_ hmix [] Try.func6 rfl ?_
  by_cases h : (1048576 : Int) < l.length
  · simp only [run0, run1, run2, run3, run4, run5, run6, run7, run8, run9, run10, run11, run12, run13, run14, run15, run16, run17, run18, run19, run20, run21, run22, reduceCtorEq, Nat.reduceEqDiff, Nat.reduceAdd, Nat.reduceSub, Nat.reduceLeDiff, indexAddrA, indexRefA, appendA, strA, Nat.reduceMul, Nat.zero_mul, Nat.reduceMod, Int.reduceEq, Int.reduceLT, Int.reduceLE, Nat.reduceLT, Nat.lt_irrefl, Nat.reduceBEq, tys0, tys1, tys2, tys3, tys4, tys5, tys6, tys7, tys8, tys9, tys10, Try.ntmps6, Try.results6, e1, e2, h]
    exact Fin.eq (by simp) rfl
  · simp only [run0, run1, run2, run3, run4, run5, run6, run7, run8, run9, run10, run11, run12, run13, run14, run15, run16, run17, run18, run19, run20, run21, run22, reduceCtorEq, Nat.reduceEqDiff, Nat.reduceAdd, Nat.reduceSub, Nat.reduceLeDiff, indexAddrA, indexRefA, appendA, strA, Nat.reduceMul, Nat.zero_mul, Nat.reduceMod, Int.reduceEq, Int.reduceLT, Int.reduceLE, Nat.reduceLT, Nat.lt_irrefl, Nat.reduceBEq, tys0, tys1, tys2, tys3, tys4, tys5, tys6, tys7, tys8, tys9, tys10, Try.ntmps6, Try.results6, e1, e2, h, e3]
    exact Fin.eq (by simp) rfl

end Go.Proofs.Ytobdpkkmkbafbaa
/-
  Winning cuts: the law.
-/
namespace Go.Proofs.Ytobdpkkmkbafbaa
open Go K
set_option linter.unusedSimpArgs false
set_option linter.unusedVariables false
set_option maxHeartbeats 3200000
set_option maxRecDepth 8000

theorem qHas_ok (l : List Nat) (x : Nat) (hl : l.length ≤ 1048576) : Ct Try.prog 22 [.sl false (nats l), .int .i64 x] [] (.bool (l.contains x)) [] := by
  refine Ct.by_ hmix [] Try.func22 rfl ?_
  simp only [run0, run1, run2, run3, run4, run5, run6, run7, run8, run9, run10, run11, run12, run13, run14, run15, run16, run17, run18, run19, run20, run21, run22, reduceCtorEq, Nat.reduceEqDiff, Nat.reduceAdd, Nat.reduceSub, Nat.reduceLeDiff, indexAddrA, indexRefA, appendA, strA, Nat.reduceMul, Nat.zero_mul, Nat.reduceMod, Int.reduceEq, Int.reduceLT, Int.reduceLE, Nat.reduceLT, Nat.lt_irrefl, Nat.reduceBEq, tys0, tys1, tys2, tys3, tys4, tys5, tys6, tys7, tys8, tys9, tys10, Try.ntmps22, Try.results22, nats_len]
  refine AWp.loop_inv (ι := List Nat × List Nat) (fun p => ⟨[.junk, .int .i64 x, .junk, .junk, .bool false, .junk, .junk, .sl false (nats l), .int .i64 l.length, .int .i64 p.1.length, .junk, .junk, .junk, .junk, .junk, .junk, .junk], []⟩)
    (fun p => l = p.1 ++ p.2 ∧ l.contains x = p.2.contains x) (fun p => p.2.length) ([], l) ⟨rfl, rfl⟩ ⟨by simp only [List.length_nil, Int.natCast_zero]; repeat constructor, rfl⟩ ?_
  rintro ⟨d, r⟩ ⟨ha, h4⟩
  refine W.sound hmix (E := []) ?_
  simp only at ha h4
  have hda : d.length + r.length = l.length := by rw [ha, List.length_append]
  cases r with
  | nil =>
    have e1 : ¬ ((d.length : Int) < (l.length : Int)) := by simp at hda; omega
    simp only [run0, run1, run2, run3, run4, run5, run6, run7, run8, run9, run10, run11, run12, run13, run14, run15, run16, run17, run18, run19, run20, run21, run22, reduceCtorEq, Nat.reduceEqDiff, Nat.reduceAdd, Nat.reduceSub, Nat.reduceLeDiff, indexAddrA, indexRefA, appendA, strA, Nat.reduceMul, Nat.zero_mul, Nat.reduceMod, Int.reduceEq, Int.reduceLT, Int.reduceLE, Nat.reduceLT, Nat.lt_irrefl, Nat.reduceBEq, tys0, tys1, tys2, tys3, tys4, tys5, tys6, tys7, tys8, tys9, tys10, Try.ntmps22, Try.results22, e1]
    exact Fin.eq (by rw [h4]; rfl) rfl
  | cons t r =>
    simp only [List.length_cons] at hda
    have e1 : (d.length : Int) < (l.length : Int) := by omega
    have e2 : (nats l)[d.length]? = some (.int .i64 t) := by rw [ha]; simp [nats]
    have e5 : IntKind.i64.wrap ((d.length : Int) + 1) = ((d ++ [t]).length : Int) := by rw [s64_id (by omega) (by omega)]; simp
    by_cases h : t = x
    · subst h
      simp only [run0, run1, run2, run3, run4, run5, run6, run7, run8, run9, run10, run11, run12, run13, run14, run15, run16, run17, run18, run19, run20, run21, run22, reduceCtorEq, Nat.reduceEqDiff, Nat.reduceAdd, Nat.reduceSub, Nat.reduceLeDiff, indexAddrA, indexRefA, appendA, strA, Nat.reduceMul, Nat.zero_mul, Nat.reduceMod, Int.reduceEq, Int.reduceLT, Int.reduceLE, Nat.reduceLT, Nat.lt_irrefl, Nat.reduceBEq, tys0, tys1, tys2, tys3, tys4, tys5, tys6, tys7, tys8, tys9, tys10, Try.ntmps22, Try.results22, e1, e2, Int.toNat_natCast, Int.natCast_nonneg, beq_self_eq_true]
      exact Fin.eq (by rw [h4]; simp) rfl
    · have e3 : ((t : Int) == (x : Int)) = false := by simp; omega
      simp only [run0, run1, run2, run3, run4, run5, run6, run7, run8, run9, run10, run11, run12, run13, run14, run15, run16, run17, run18, run19, run20, run21, run22, reduceCtorEq, Nat.reduceEqDiff, Nat.reduceAdd, Nat.reduceSub, Nat.reduceLeDiff, indexAddrA, indexRefA, appendA, strA, Nat.reduceMul, Nat.zero_mul, Nat.reduceMod, Int.reduceEq, Int.reduceLT, Int.reduceLE, Nat.reduceLT, Nat.lt_irrefl, Nat.reduceBEq, tys0, tys1, tys2, tys3, tys4, tys5, tys6, tys7, tys8, tys9, tys10, Try.ntmps22, Try.results22, e1, e2, e3, e5, Int.toNat_natCast, Int.natCast_nonneg]
      exact ⟨(d ++ [t], r), ⟨by rw [ha]; simp, by rw [h4]; simp [h]; omega⟩, by simp, by simp only [List.length_append, List.length_cons, List.length_nil]; repeat constructor⟩
theorem FnWinningCuts_ok {a0 a1 : AV} (h0 : IsOf Try.prog 22 a0) (h1 : IsOf Try.prog 22 a1) : Ct Try.prog 5 [a0, a1] [] (.bool true) [] := by
  obtain ⟨l, rfl, hb, hl⟩ := laws_isBytes h0
  obtain ⟨k, rfl, _, hk⟩ := laws_isBytes h1
  have hbig := big_ok l k hl hk
  cases hB : (decide ((1048576 : Int) < l.length) || decide (1048576 - (l.length : Int) < k.length))
  case true =>
    rw [hB] at hbig
    refine Ct.by_ hmix [] Try.func5 rfl ?_
    simp only [run0, run1, run2, run3, run4, run5, run6, run7, run8, run9, run10, run11, run12, run13, run14, run15, run16, run17, run18, run19, run20, run21, run22, reduceCtorEq, Nat.reduceEqDiff, Nat.reduceAdd, Nat.reduceSub, Nat.reduceLeDiff, indexAddrA, indexRefA, appendA, strA, Nat.reduceMul, Nat.zero_mul, Nat.reduceMod, Int.reduceEq, Int.reduceLT, Int.reduceLE, Nat.reduceLT, Nat.lt_irrefl, Nat.reduceBEq, tys0, tys1, tys2, tys3, tys4, tys5, tys6, tys7, tys8, tys9, tys10, Try.ntmps5, Try.results5]
    refine RunL.callp rfl rfl ok_f6 hbig (by simp only [pureL, pureB, bytes_pure, Bool.and_self]) rfl ?_
    simp only [run0, run1, run2, run3, run4, run5, run6, run7, run8, run9, run10, run11, run12, run13, run14, run15, run16, run17, run18, run19, run20, run21, run22, reduceCtorEq, Nat.reduceEqDiff, Nat.reduceAdd, Nat.reduceSub, Nat.reduceLeDiff, indexAddrA, indexRefA, appendA, strA, Nat.reduceMul, Nat.zero_mul, Nat.reduceMod, Int.reduceEq, Int.reduceLT, Int.reduceLE, Nat.reduceLT, Nat.lt_irrefl, Nat.reduceBEq, tys0, tys1, tys2, tys3, tys4, tys5, tys6, tys7, tys8, tys9, tys10, Try.ntmps5, Try.results5]
    exact Fin.eq rfl rfl
  rw [hB] at hbig
  simp only [Bool.or_eq_false_iff, decide_eq_false_iff_not] at hB
  have hc : bytesOk l := ⟨by omega, hb⟩
  obtain ⟨g, hg, hdraw⟩ := drawWin_ok l hc
  have lg : g.length ≤ 1048576 := by omega
  have hs := specWin_ok g lg
  have hi := implWin_ok g lg
  have hfu := implFus_ok g lg
  have pg := twI_pure g
  unfold winV at hs hi
  cases hj : picB g
  · have hw : winT g = none := by simp [winT, hj]
    rw [hw] at hs hi
    rw [hj] at hfu
    simp only [Option.getD_none, Option.isSome_none] at hs hi
    generalize valG g = v at *
    refine Ct.by_ hmix [] Try.func5 rfl ?_
    simp only [run0, run1, run2, run3, run4, run5, run6, run7, run8, run9, run10, run11, run12, run13, run14, run15, run16, run17, run18, run19, run20, run21, run22, reduceCtorEq, Nat.reduceEqDiff, Nat.reduceAdd, Nat.reduceSub, Nat.reduceLeDiff, indexAddrA, indexRefA, appendA, strA, Nat.reduceMul, Nat.zero_mul, Nat.reduceMod, Int.reduceEq, Int.reduceLT, Int.reduceLE, Nat.reduceLT, Nat.lt_irrefl, Nat.reduceBEq, tys0, tys1, tys2, tys3, tys4, tys5, tys6, tys7, tys8, tys9, tys10, Try.ntmps5, Try.results5]
    refine RunL.callp rfl rfl ok_f6 hbig (by simp only [pureL, pureB, bytes_pure, Bool.and_self]) rfl ?_
    simp only [run0, run1, run2, run3, run4, run5, run6, run7, run8, run9, run10, run11, run12, run13, run14, run15, run16, run17, run18, run19, run20, run21, run22, reduceCtorEq, Nat.reduceEqDiff, Nat.reduceAdd, Nat.reduceSub, Nat.reduceLeDiff, indexAddrA, indexRefA, appendA, strA, Nat.reduceMul, Nat.zero_mul, Nat.reduceMod, Int.reduceEq, Int.reduceLT, Int.reduceLE, Nat.reduceLT, Nat.lt_irrefl, Nat.reduceBEq, tys0, tys1, tys2, tys3, tys4, tys5, tys6, tys7, tys8, tys9, tys10, Try.ntmps5, Try.results5]
    refine RunL.callp rfl rfl ok_f18 hdraw (by simp only [pureL, pureB, bytes_pure, Bool.and_self]) rfl ?_
    simp only [run0, run1, run2, run3, run4, run5, run6, run7, run8, run9, run10, run11, run12, run13, run14, run15, run16, run17, run18, run19, run20, run21, run22, reduceCtorEq, Nat.reduceEqDiff, Nat.reduceAdd, Nat.reduceSub, Nat.reduceLeDiff, indexAddrA, indexRefA, appendA, strA, Nat.reduceMul, Nat.zero_mul, Nat.reduceMod, Int.reduceEq, Int.reduceLT, Int.reduceLE, Nat.reduceLT, Nat.lt_irrefl, Nat.reduceBEq, tys0, tys1, tys2, tys3, tys4, tys5, tys6, tys7, tys8, tys9, tys10, Try.ntmps5, Try.results5]
    refine RunL.callp rfl rfl ok_f19 hi (by simp only [pureL, pureB, pg, Bool.and_self]) rfl ?_
    simp only [run0, run1, run2, run3, run4, run5, run6, run7, run8, run9, run10, run11, run12, run13, run14, run15, run16, run17, run18, run19, run20, run21, run22, reduceCtorEq, Nat.reduceEqDiff, Nat.reduceAdd, Nat.reduceSub, Nat.reduceLeDiff, indexAddrA, indexRefA, appendA, strA, Nat.reduceMul, Nat.zero_mul, Nat.reduceMod, Int.reduceEq, Int.reduceLT, Int.reduceLE, Nat.reduceLT, Nat.lt_irrefl, Nat.reduceBEq, tys0, tys1, tys2, tys3, tys4, tys5, tys6, tys7, tys8, tys9, tys10, Try.ntmps5, Try.results5]
    refine RunL.callp rfl rfl ok_f20 hs (by simp only [pureL, pureB, pg, Bool.and_self]) rfl ?_
    simp only [run0, run1, run2, run3, run4, run5, run6, run7, run8, run9, run10, run11, run12, run13, run14, run15, run16, run17, run18, run19, run20, run21, run22, reduceCtorEq, Nat.reduceEqDiff, Nat.reduceAdd, Nat.reduceSub, Nat.reduceLeDiff, indexAddrA, indexRefA, appendA, strA, Nat.reduceMul, Nat.zero_mul, Nat.reduceMod, Int.reduceEq, Int.reduceLT, Int.reduceLE, Nat.reduceLT, Nat.lt_irrefl, Nat.reduceBEq, tys0, tys1, tys2, tys3, tys4, tys5, tys6, tys7, tys8, tys9, tys10, Try.ntmps5, Try.results5, bne_self_eq_false]
    refine RunL.callp rfl rfl ok_f10 hfu (by simp only [pureL, pureB, pg, Bool.and_self]) rfl ?_
    simp only [run0, run1, run2, run3, run4, run5, run6, run7, run8, run9, run10, run11, run12, run13, run14, run15, run16, run17, run18, run19, run20, run21, run22, reduceCtorEq, Nat.reduceEqDiff, Nat.reduceAdd, Nat.reduceSub, Nat.reduceLeDiff, indexAddrA, indexRefA, appendA, strA, Nat.reduceMul, Nat.zero_mul, Nat.reduceMod, Int.reduceEq, Int.reduceLT, Int.reduceLE, Nat.reduceLT, Nat.lt_irrefl, Nat.reduceBEq, tys0, tys1, tys2, tys3, tys4, tys5, tys6, tys7, tys8, tys9, tys10, Try.ntmps5, Try.results5]
    exact Fin.eq rfl rfl
  rw [hj] at hfu
  have P := (picB_nat hj).1
  have S := grd_set P (allM (natG g)).testBit
  have hS : (gRun (natG g) (allM (natG g)).testBit ((natG g).length + 1) (1, 0)).2 = gSet (natG g) := rfl
  rw [hS] at S
  have hok := winI_ok S
  rw [natG_len] at hok
  have hwt : winT g = winI (natG g) (gSet (natG g)) g.length 0 := by rw [winT, if_pos hj]
  rw [← hwt] at hok
  have hval : valG g = vB (natG g) (gSet (natG g)) := by rw [valG, if_pos hj]
  have hcv := cutT_val hj
  have hcp := cutT_pic hj
  have hct := fun i hi => cutTwig_ok g hj i hi
  obtain ⟨q1, q2⟩ := vals_mex S
  rw [natG_len] at q1 q2
  rw [hval] at hfu
  have hvl := vB_le (natG g) (gSet (natG g))
  rw [natG_len] at hvl
  have hne : ∀ i, (gSet (natG g)).testBit i = true → vB (natG g) (cutS (natG g) (gSet (natG g)) i) ≠ vB (natG g) (gSet (natG g)) := fun i hi => by
    rw [vB_cut S.lt]; exact vS_ne (S.cn hi)
  have hwS : ∀ b, winT g = some b → vB (natG g) (cutS (natG g) (gSet (natG g)) b) = 0 ∧ ∀ j, j < b → (gSet (natG g)).testBit j = true → vB (natG g) (cutS (natG g) (gSet (natG g)) j) ≠ 0 := fun b hb => by
    rw [hwt] at hb
    obtain ⟨_, h2, h3⟩ := winI_some hb
    exact ⟨h2.2, fun j hj => h3 j (Nat.zero_le _) hj⟩
  have hwN : winT g = none → ∀ j, j < g.length → (gSet (natG g)).testBit j = true → vB (natG g) (cutS (natG g) (gSet (natG g)) j) ≠ 0 := fun hb => by
    rw [hwt] at hb
    exact fun j hj => winI_none hb j (Nat.zero_le _) (by omega)
  clear hwt hval
  have hcl : ∀ i, (cutT g i).length ≤ 1048576 := fun i => by
    have := hcp i
    simp only [picB, Bool.and_eq_true, decide_eq_true_eq] at this
    omega
  have hcf : ∀ i, Ct Try.prog 10 [.sl false ((cutT g i).map twI)] [] (.tup [.int .i64 ((vB (natG g) (cutS (natG g) (gSet (natG g)) i) : Nat) : Int), .bool true]) [] := fun i => by
    have := implFus_ok (cutT g i) (hcl i)
    rwa [hcp i, hcv i] at this
  have hbnd : ∀ i, vB (natG g) (cutS (natG g) (gSet (natG g)) i) ≤ 15 := fun i => by
    have := vB_le (natG g) (cutS (natG g) (gSet (natG g)) i)
    rw [natG_len] at this; omega
  have hvals : ∀ n, vals (natG g) (gSet (natG g)) (n + 1) = if (gSet (natG g)).testBit n then vals (natG g) (gSet (natG g)) n ++ [vB (natG g) (cutS (natG g) (gSet (natG g)) n)] else vals (natG g) (gSet (natG g)) n := fun n => rfl
  have hv0 : vals (natG g) (gSet (natG g)) 0 = [] := rfl
  have hvls : ∀ n, (vals (natG g) (gSet (natG g)) n).length ≤ n := vals_len _ _
  clear hcv hcp S hS P hcl
  generalize (gSet (natG g)).testBit = bt at *
  generalize hC : (fun i => vB (natG g) (cutS (natG g) (gSet (natG g)) i)) = C at *
  have hCi : ∀ i, vB (natG g) (cutS (natG g) (gSet (natG g)) i) = C i := fun i => by rw [← hC]
  simp only [hCi] at *
  generalize vals (natG g) (gSet (natG g)) = V at *
  generalize vB (natG g) (gSet (natG g)) = v at *
  generalize cutT g = KT at *
  have hbne : ((winT g).isSome != decide (0 < (v : Int))) = false := by
    rw [hok]; simp
  generalize hw : winT g = w at *
  have hg15 : g.length ≤ 15 := hg
  refine Ct.by_ hmix [] Try.func5 rfl ?_
  simp only [run0, run1, run2, run3, run4, run5, run6, run7, run8, run9, run10, run11, run12, run13, run14, run15, run16, run17, run18, run19, run20, run21, run22, reduceCtorEq, Nat.reduceEqDiff, Nat.reduceAdd, Nat.reduceSub, Nat.reduceLeDiff, indexAddrA, indexRefA, appendA, strA, Nat.reduceMul, Nat.zero_mul, Nat.reduceMod, Int.reduceEq, Int.reduceLT, Int.reduceLE, Nat.reduceLT, Nat.lt_irrefl, Nat.reduceBEq, tys0, tys1, tys2, tys3, tys4, tys5, tys6, tys7, tys8, tys9, tys10, Try.ntmps5, Try.results5]
  refine RunL.callp rfl rfl ok_f6 hbig (by simp only [pureL, pureB, bytes_pure, Bool.and_self]) rfl ?_
  simp only [run0, run1, run2, run3, run4, run5, run6, run7, run8, run9, run10, run11, run12, run13, run14, run15, run16, run17, run18, run19, run20, run21, run22, reduceCtorEq, Nat.reduceEqDiff, Nat.reduceAdd, Nat.reduceSub, Nat.reduceLeDiff, indexAddrA, indexRefA, appendA, strA, Nat.reduceMul, Nat.zero_mul, Nat.reduceMod, Int.reduceEq, Int.reduceLT, Int.reduceLE, Nat.reduceLT, Nat.lt_irrefl, Nat.reduceBEq, tys0, tys1, tys2, tys3, tys4, tys5, tys6, tys7, tys8, tys9, tys10, Try.ntmps5, Try.results5]
  refine RunL.callp rfl rfl ok_f18 hdraw (by simp only [pureL, pureB, bytes_pure, Bool.and_self]) rfl ?_
  simp only [run0, run1, run2, run3, run4, run5, run6, run7, run8, run9, run10, run11, run12, run13, run14, run15, run16, run17, run18, run19, run20, run21, run22, reduceCtorEq, Nat.reduceEqDiff, Nat.reduceAdd, Nat.reduceSub, Nat.reduceLeDiff, indexAddrA, indexRefA, appendA, strA, Nat.reduceMul, Nat.zero_mul, Nat.reduceMod, Int.reduceEq, Int.reduceLT, Int.reduceLE, Nat.reduceLT, Nat.lt_irrefl, Nat.reduceBEq, tys0, tys1, tys2, tys3, tys4, tys5, tys6, tys7, tys8, tys9, tys10, Try.ntmps5, Try.results5]
  refine RunL.callp rfl rfl ok_f19 hi (by simp only [pureL, pureB, pg, Bool.and_self]) rfl ?_
  simp only [run0, run1, run2, run3, run4, run5, run6, run7, run8, run9, run10, run11, run12, run13, run14, run15, run16, run17, run18, run19, run20, run21, run22, reduceCtorEq, Nat.reduceEqDiff, Nat.reduceAdd, Nat.reduceSub, Nat.reduceLeDiff, indexAddrA, indexRefA, appendA, strA, Nat.reduceMul, Nat.zero_mul, Nat.reduceMod, Int.reduceEq, Int.reduceLT, Int.reduceLE, Nat.reduceLT, Nat.lt_irrefl, Nat.reduceBEq, tys0, tys1, tys2, tys3, tys4, tys5, tys6, tys7, tys8, tys9, tys10, Try.ntmps5, Try.results5]
  refine RunL.callp rfl rfl ok_f20 hs (by simp only [pureL, pureB, pg, Bool.and_self]) rfl ?_
  simp only [run0, run1, run2, run3, run4, run5, run6, run7, run8, run9, run10, run11, run12, run13, run14, run15, run16, run17, run18, run19, run20, run21, run22, reduceCtorEq, Nat.reduceEqDiff, Nat.reduceAdd, Nat.reduceSub, Nat.reduceLeDiff, indexAddrA, indexRefA, appendA, strA, Nat.reduceMul, Nat.zero_mul, Nat.reduceMod, Int.reduceEq, Int.reduceLT, Int.reduceLE, Nat.reduceLT, Nat.lt_irrefl, Nat.reduceBEq, tys0, tys1, tys2, tys3, tys4, tys5, tys6, tys7, tys8, tys9, tys10, Try.ntmps5, Try.results5, bne_self_eq_false]
  refine RunL.callp rfl rfl ok_f10 hfu (by simp only [pureL, pureB, pg, Bool.and_self]) rfl ?_
  simp only [run0, run1, run2, run3, run4, run5, run6, run7, run8, run9, run10, run11, run12, run13, run14, run15, run16, run17, run18, run19, run20, run21, run22, reduceCtorEq, Nat.reduceEqDiff, Nat.reduceAdd, Nat.reduceSub, Nat.reduceLeDiff, indexAddrA, indexRefA, appendA, strA, Nat.reduceMul, Nat.zero_mul, Nat.reduceMod, Int.reduceEq, Int.reduceLT, Int.reduceLE, Nat.reduceLT, Nat.lt_irrefl, Nat.reduceBEq, tys0, tys1, tys2, tys3, tys4, tys5, tys6, tys7, tys8, tys9, tys10, Try.ntmps5, Try.results5, hbne, List.length_map]
  refine AWp.nil 12 3 1 rfl ?_
  refine AWp.loop_inv (ι := Nat) (fun n => ⟨[.junk, .junk, .junk, .junk, .junk, .sl false (g.map twI), .int .i64 ((w.getD 0 : Nat) : Int), .bool w.isSome, .junk, .junk, .int .i64 v, .junk, .ref 0 [] (V n).length (V n).length, .junk, .junk, .junk, .junk, .junk, .junk, .junk, .junk, .junk, .junk, .junk, .junk, .junk, .junk, .junk, .junk, .junk, .junk, .junk, .junk, .junk, .junk, .junk, .junk, .junk, .junk, .junk, .junk, .junk, .junk, .junk, .junk, .junk, .junk, .junk, .junk, .junk, .junk, .junk, .junk, .junk, .junk, .junk, .int .i64 g.length, .int .i64 n, .junk, .junk, .junk, .junk, .junk, .junk, .junk, .junk, .junk, .junk, .junk, .junk, .junk, .junk, .junk, .junk, .junk, .junk, .junk, .junk, .junk, .junk, .junk, .junk, .junk, .junk, .junk, .junk, .junk, .junk, .junk, .junk, .junk, .junk, .junk, .junk, .junk, .junk, .junk, .junk, .junk, .junk, .junk, .junk, .junk, .junk, .junk, .junk, .junk, .junk, .junk, .junk, .junk, .junk, .junk, .junk, .junk, .junk, .junk, .junk, .junk], [.vec 3 1 (V n).length (nats (V n))]⟩)
    (fun n => n ≤ g.length) (fun n => g.length - n) 0 (Nat.zero_le _) ⟨by rw [hv0]; simp only [Int.natCast_zero, List.length_nil]; repeat constructor, by rw [hv0]; rfl⟩ ?_
  intro n hn
  refine W.sound hmix (E := []) ?_
  by_cases hnl : n < g.length
  case neg =>
    obtain rfl : n = g.length := by omega
    have hvl2 := hvls g.length
    simp only [run0, run1, run2, run3, run4, run5, run6, run7, run8, run9, run10, run11, run12, run13, run14, run15, run16, run17, run18, run19, run20, run21, run22, reduceCtorEq, Nat.reduceEqDiff, Nat.reduceAdd, Nat.reduceSub, Nat.reduceLeDiff, indexAddrA, indexRefA, appendA, strA, Nat.reduceMul, Nat.zero_mul, Nat.reduceMod, Int.reduceEq, Int.reduceLT, Int.reduceLE, Nat.reduceLT, Nat.lt_irrefl, Nat.reduceBEq, tys0, tys1, tys2, tys3, tys4, tys5, tys6, tys7, tys8, tys9, tys10, Try.ntmps5, Try.results5, Int.lt_irrefl]
    refine AWp.loop_inv (ι := Nat) (fun m => ⟨[.junk, .junk, .junk, .junk, .junk, .junk, .junk, .junk, .junk, .junk, .int .i64 v, .junk, .ref 0 [] (V g.length).length (V g.length).length, .junk, .junk, .junk, .junk, .junk, .int .i64 m, .junk, .junk, .junk, .junk, .junk, .junk, .junk, .junk, .junk, .junk, .junk, .junk, .junk, .junk, .junk, .junk, .junk, .junk, .junk, .junk, .junk, .junk, .junk, .junk, .junk, .junk, .junk, .junk, .junk, .junk, .junk, .junk, .junk, .junk, .junk, .junk, .junk, .junk, .junk, .junk, .junk, .junk, .junk, .junk, .junk, .junk, .junk, .junk, .junk, .junk, .junk, .junk, .junk, .junk, .junk, .junk, .junk, .junk, .junk, .junk, .junk, .junk, .junk, .junk, .junk, .junk, .junk, .junk, .junk, .junk, .junk, .junk, .junk, .junk, .junk, .junk, .junk, .junk, .junk, .junk, .junk, .junk, .junk, .junk, .junk, .junk, .junk, .junk, .junk, .junk, .junk, .junk, .junk, .junk, .junk, .junk, .junk, .junk, .junk, .junk], [.vec 3 1 (V g.length).length (nats (V g.length))]⟩)
      (fun m => m ≤ v) (fun m => v - m) 0 (Nat.zero_le _) ⟨by simp only [Int.natCast_zero]; repeat constructor, rfl⟩ ?_
    intro m hm
    refine W.sound hmix (E := []) ?_
    by_cases hmv : m < v
    · have e1 : (m : Int) < (v : Int) := by omega
      have e5 : IntKind.i64.wrap ((m : Int) + 1) = ((m + 1 : Nat) : Int) := by rw [s64_id (by omega) (by omega)]; simp
      have hq := qHas_ok (V g.length) m (by omega)
      rw [List.contains_iff_mem.2 (q1 m hmv)] at hq
      simp only [run0, run1, run2, run3, run4, run5, run6, run7, run8, run9, run10, run11, run12, run13, run14, run15, run16, run17, run18, run19, run20, run21, run22, reduceCtorEq, Nat.reduceEqDiff, Nat.reduceAdd, Nat.reduceSub, Nat.reduceLeDiff, indexAddrA, indexRefA, appendA, strA, Nat.reduceMul, Nat.zero_mul, Nat.reduceMod, Int.reduceEq, Int.reduceLT, Int.reduceLE, Nat.reduceLT, Nat.lt_irrefl, Nat.reduceBEq, tys0, tys1, tys2, tys3, tys4, tys5, tys6, tys7, tys8, tys9, tys10, Try.ntmps5, Try.results5, e1]
      refine RunL.lendV rfl rfl ok_f22 rfl hq (.cons (Vw_nats rfl rfl rfl) (.cons (.pur (.int _ _)) .nil)) rfl rfl ?_
      simp only [run0, run1, run2, run3, run4, run5, run6, run7, run8, run9, run10, run11, run12, run13, run14, run15, run16, run17, run18, run19, run20, run21, run22, reduceCtorEq, Nat.reduceEqDiff, Nat.reduceAdd, Nat.reduceSub, Nat.reduceLeDiff, indexAddrA, indexRefA, appendA, strA, Nat.reduceMul, Nat.zero_mul, Nat.reduceMod, Int.reduceEq, Int.reduceLT, Int.reduceLE, Nat.reduceLT, Nat.lt_irrefl, Nat.reduceBEq, tys0, tys1, tys2, tys3, tys4, tys5, tys6, tys7, tys8, tys9, tys10, Try.ntmps5, Try.results5, e5]
      exact ⟨m + 1, by omega, by omega, by repeat constructor⟩
    · obtain rfl : m = v := by omega
      simp only [run0, run1, run2, run3, run4, run5, run6, run7, run8, run9, run10, run11, run12, run13, run14, run15, run16, run17, run18, run19, run20, run21, run22, reduceCtorEq, Nat.reduceEqDiff, Nat.reduceAdd, Nat.reduceSub, Nat.reduceLeDiff, indexAddrA, indexRefA, appendA, strA, Nat.reduceMul, Nat.zero_mul, Nat.reduceMod, Int.reduceEq, Int.reduceLT, Int.reduceLE, Nat.reduceLT, Nat.lt_irrefl, Nat.reduceBEq, tys0, tys1, tys2, tys3, tys4, tys5, tys6, tys7, tys8, tys9, tys10, Try.ntmps5, Try.results5, Int.lt_irrefl]
      exact Fin.eq rfl rfl
  have f1 : (n : Int) < (g.length : Int) := by omega
  have e5 : IntKind.i64.wrap ((n : Int) + 1) = ((n + 1 : Nat) : Int) := by rw [s64_id (by omega) (by omega)]; simp
  have hcn := hct n hnl
  have hVn := hvals n
  have hfn := hcf n
  have hvn := hvls n
  have hcb := hbnd n
  have pk := twI_pure (KT n)
  cases hb : bt n
  · rw [hb] at hcn hVn
    simp only [Bool.false_eq_true, if_false, List.map_nil] at hcn hVn
    simp only [run0, run1, run2, run3, run4, run5, run6, run7, run8, run9, run10, run11, run12, run13, run14, run15, run16, run17, run18, run19, run20, run21, run22, reduceCtorEq, Nat.reduceEqDiff, Nat.reduceAdd, Nat.reduceSub, Nat.reduceLeDiff, indexAddrA, indexRefA, appendA, strA, Nat.reduceMul, Nat.zero_mul, Nat.reduceMod, Int.reduceEq, Int.reduceLT, Int.reduceLE, Nat.reduceLT, Nat.lt_irrefl, Nat.reduceBEq, tys0, tys1, tys2, tys3, tys4, tys5, tys6, tys7, tys8, tys9, tys10, Try.ntmps5, Try.results5, f1]
    refine RunL.callp rfl rfl ok_f21 hcn (by simp only [pureL, pureB, pg, Bool.and_self]) rfl ?_
    simp only [run0, run1, run2, run3, run4, run5, run6, run7, run8, run9, run10, run11, run12, run13, run14, run15, run16, run17, run18, run19, run20, run21, run22, reduceCtorEq, Nat.reduceEqDiff, Nat.reduceAdd, Nat.reduceSub, Nat.reduceLeDiff, indexAddrA, indexRefA, appendA, strA, Nat.reduceMul, Nat.zero_mul, Nat.reduceMod, Int.reduceEq, Int.reduceLT, Int.reduceLE, Nat.reduceLT, Nat.lt_irrefl, Nat.reduceBEq, tys0, tys1, tys2, tys3, tys4, tys5, tys6, tys7, tys8, tys9, tys10, Try.ntmps5, Try.results5, e5]
    exact ⟨n + 1, by omega, by omega, by rw [hVn]; repeat constructor, by rw [hVn]⟩
  rw [hb] at hcn hVn
  simp only [if_true] at hcn hVn
  have hne2 := hne n hb
  have x1 : ((C n : Int) == (v : Int)) = false := by simp; omega
  have f3 : (V n).length + 1 ≤ 137438953472 := by omega
  have f4 := nats_noOwn (V n)
  have f5 := nats_len (V n)
  cases w with
  | none =>
    have hc0 := hwN rfl n hnl hb
    have x2 : ((C n : Int) == 0) = false := by simp; omega
    simp only [Option.getD_none, Option.isSome_none]
    simp only [run0, run1, run2, run3, run4, run5, run6, run7, run8, run9, run10, run11, run12, run13, run14, run15, run16, run17, run18, run19, run20, run21, run22, reduceCtorEq, Nat.reduceEqDiff, Nat.reduceAdd, Nat.reduceSub, Nat.reduceLeDiff, indexAddrA, indexRefA, appendA, strA, Nat.reduceMul, Nat.zero_mul, Nat.reduceMod, Int.reduceEq, Int.reduceLT, Int.reduceLE, Nat.reduceLT, Nat.lt_irrefl, Nat.reduceBEq, tys0, tys1, tys2, tys3, tys4, tys5, tys6, tys7, tys8, tys9, tys10, Try.ntmps5, Try.results5, f1]
    refine RunL.callp rfl rfl ok_f21 hcn (by simp only [pureL, pureB, pg, Bool.and_self]) rfl ?_
    simp only [run0, run1, run2, run3, run4, run5, run6, run7, run8, run9, run10, run11, run12, run13, run14, run15, run16, run17, run18, run19, run20, run21, run22, reduceCtorEq, Nat.reduceEqDiff, Nat.reduceAdd, Nat.reduceSub, Nat.reduceLeDiff, indexAddrA, indexRefA, appendA, strA, Nat.reduceMul, Nat.zero_mul, Nat.reduceMod, Int.reduceEq, Int.reduceLT, Int.reduceLE, Nat.reduceLT, Nat.lt_irrefl, Nat.reduceBEq, tys0, tys1, tys2, tys3, tys4, tys5, tys6, tys7, tys8, tys9, tys10, Try.ntmps5, Try.results5]
    refine RunL.callp rfl rfl ok_f10 hfn (by simp only [pureL, pureB, pk, Bool.and_self]) rfl ?_
    simp only [run0, run1, run2, run3, run4, run5, run6, run7, run8, run9, run10, run11, run12, run13, run14, run15, run16, run17, run18, run19, run20, run21, run22, reduceCtorEq, Nat.reduceEqDiff, Nat.reduceAdd, Nat.reduceSub, Nat.reduceLeDiff, indexAddrA, indexRefA, appendA, strA, Nat.reduceMul, Nat.zero_mul, Nat.reduceMod, Int.reduceEq, Int.reduceLT, Int.reduceLE, Nat.reduceLT, Nat.lt_irrefl, Nat.reduceBEq, tys0, tys1, tys2, tys3, tys4, tys5, tys6, tys7, tys8, tys9, tys10, Try.ntmps5, Try.results5, x1, x2, e5, f3, f4, f5]
    exact ⟨n + 1, by omega, by omega, by rw [hVn]; simp only [List.length_append, List.length_cons, List.length_nil, Nat.zero_add]; repeat constructor, by rw [hVn]; simp [nats]⟩
  | some b =>
    obtain ⟨hw1, hw2⟩ := hwS b rfl
    simp only [Option.getD_some, Option.isSome_some]
    by_cases hc0 : C n = 0
    · have x2 : ((C n : Int) == 0) = true := by simp [hc0]
      have x6 : ((C n : Int) != 0) = false := by simp [hc0]
      have hbn : b ≤ n := by
        rcases Nat.lt_or_ge n b with h | h
        · exact absurd hc0 (hw2 n h hb)
        · exact h
      have x3 : ¬ ((n : Int) < (b : Int)) := by omega
      by_cases hnb : n = b
      · have x4 : ((n : Int) == (b : Int)) = true := by simp [hnb]
        simp only [run0, run1, run2, run3, run4, run5, run6, run7, run8, run9, run10, run11, run12, run13, run14, run15, run16, run17, run18, run19, run20, run21, run22, reduceCtorEq, Nat.reduceEqDiff, Nat.reduceAdd, Nat.reduceSub, Nat.reduceLeDiff, indexAddrA, indexRefA, appendA, strA, Nat.reduceMul, Nat.zero_mul, Nat.reduceMod, Int.reduceEq, Int.reduceLT, Int.reduceLE, Nat.reduceLT, Nat.lt_irrefl, Nat.reduceBEq, tys0, tys1, tys2, tys3, tys4, tys5, tys6, tys7, tys8, tys9, tys10, Try.ntmps5, Try.results5, f1]
        refine RunL.callp rfl rfl ok_f21 hcn (by simp only [pureL, pureB, pg, Bool.and_self]) rfl ?_
        simp only [run0, run1, run2, run3, run4, run5, run6, run7, run8, run9, run10, run11, run12, run13, run14, run15, run16, run17, run18, run19, run20, run21, run22, reduceCtorEq, Nat.reduceEqDiff, Nat.reduceAdd, Nat.reduceSub, Nat.reduceLeDiff, indexAddrA, indexRefA, appendA, strA, Nat.reduceMul, Nat.zero_mul, Nat.reduceMod, Int.reduceEq, Int.reduceLT, Int.reduceLE, Nat.reduceLT, Nat.lt_irrefl, Nat.reduceBEq, tys0, tys1, tys2, tys3, tys4, tys5, tys6, tys7, tys8, tys9, tys10, Try.ntmps5, Try.results5]
        refine RunL.callp rfl rfl ok_f10 hfn (by simp only [pureL, pureB, pk, Bool.and_self]) rfl ?_
        simp only [run0, run1, run2, run3, run4, run5, run6, run7, run8, run9, run10, run11, run12, run13, run14, run15, run16, run17, run18, run19, run20, run21, run22, reduceCtorEq, Nat.reduceEqDiff, Nat.reduceAdd, Nat.reduceSub, Nat.reduceLeDiff, indexAddrA, indexRefA, appendA, strA, Nat.reduceMul, Nat.zero_mul, Nat.reduceMod, Int.reduceEq, Int.reduceLT, Int.reduceLE, Nat.reduceLT, Nat.lt_irrefl, Nat.reduceBEq, tys0, tys1, tys2, tys3, tys4, tys5, tys6, tys7, tys8, tys9, tys10, Try.ntmps5, Try.results5, x1, x2, x3, x4, x6, e5, f3, f4, f5]
        exact ⟨n + 1, by omega, by omega, by rw [hVn]; simp only [List.length_append, List.length_cons, List.length_nil, Nat.zero_add]; repeat constructor, by rw [hVn]; simp [nats]⟩
      · have x4 : ((n : Int) == (b : Int)) = false := by simp; omega
        simp only [run0, run1, run2, run3, run4, run5, run6, run7, run8, run9, run10, run11, run12, run13, run14, run15, run16, run17, run18, run19, run20, run21, run22, reduceCtorEq, Nat.reduceEqDiff, Nat.reduceAdd, Nat.reduceSub, Nat.reduceLeDiff, indexAddrA, indexRefA, appendA, strA, Nat.reduceMul, Nat.zero_mul, Nat.reduceMod, Int.reduceEq, Int.reduceLT, Int.reduceLE, Nat.reduceLT, Nat.lt_irrefl, Nat.reduceBEq, tys0, tys1, tys2, tys3, tys4, tys5, tys6, tys7, tys8, tys9, tys10, Try.ntmps5, Try.results5, f1]
        refine RunL.callp rfl rfl ok_f21 hcn (by simp only [pureL, pureB, pg, Bool.and_self]) rfl ?_
        simp only [run0, run1, run2, run3, run4, run5, run6, run7, run8, run9, run10, run11, run12, run13, run14, run15, run16, run17, run18, run19, run20, run21, run22, reduceCtorEq, Nat.reduceEqDiff, Nat.reduceAdd, Nat.reduceSub, Nat.reduceLeDiff, indexAddrA, indexRefA, appendA, strA, Nat.reduceMul, Nat.zero_mul, Nat.reduceMod, Int.reduceEq, Int.reduceLT, Int.reduceLE, Nat.reduceLT, Nat.lt_irrefl, Nat.reduceBEq, tys0, tys1, tys2, tys3, tys4, tys5, tys6, tys7, tys8, tys9, tys10, Try.ntmps5, Try.results5]
        refine RunL.callp rfl rfl ok_f10 hfn (by simp only [pureL, pureB, pk, Bool.and_self]) rfl ?_
        simp only [run0, run1, run2, run3, run4, run5, run6, run7, run8, run9, run10, run11, run12, run13, run14, run15, run16, run17, run18, run19, run20, run21, run22, reduceCtorEq, Nat.reduceEqDiff, Nat.reduceAdd, Nat.reduceSub, Nat.reduceLeDiff, indexAddrA, indexRefA, appendA, strA, Nat.reduceMul, Nat.zero_mul, Nat.reduceMod, Int.reduceEq, Int.reduceLT, Int.reduceLE, Nat.reduceLT, Nat.lt_irrefl, Nat.reduceBEq, tys0, tys1, tys2, tys3, tys4, tys5, tys6, tys7, tys8, tys9, tys10, Try.ntmps5, Try.results5, x1, x2, x3, x4, x6, e5, f3, f4, f5]
        exact ⟨n + 1, by omega, by omega, by rw [hVn]; simp only [List.length_append, List.length_cons, List.length_nil, Nat.zero_add]; repeat constructor, by rw [hVn]; simp [nats]⟩
    · have x2 : ((C n : Int) == 0) = false := by simp; omega
      have hnb : n ≠ b := fun e => hc0 (by rw [e]; exact hw1)
      have x4 : ((n : Int) == (b : Int)) = false := by simp; omega
      simp only [run0, run1, run2, run3, run4, run5, run6, run7, run8, run9, run10, run11, run12, run13, run14, run15, run16, run17, run18, run19, run20, run21, run22, reduceCtorEq, Nat.reduceEqDiff, Nat.reduceAdd, Nat.reduceSub, Nat.reduceLeDiff, indexAddrA, indexRefA, appendA, strA, Nat.reduceMul, Nat.zero_mul, Nat.reduceMod, Int.reduceEq, Int.reduceLT, Int.reduceLE, Nat.reduceLT, Nat.lt_irrefl, Nat.reduceBEq, tys0, tys1, tys2, tys3, tys4, tys5, tys6, tys7, tys8, tys9, tys10, Try.ntmps5, Try.results5, f1]
      refine RunL.callp rfl rfl ok_f21 hcn (by simp only [pureL, pureB, pg, Bool.and_self]) rfl ?_
      simp only [run0, run1, run2, run3, run4, run5, run6, run7, run8, run9, run10, run11, run12, run13, run14, run15, run16, run17, run18, run19, run20, run21, run22, reduceCtorEq, Nat.reduceEqDiff, Nat.reduceAdd, Nat.reduceSub, Nat.reduceLeDiff, indexAddrA, indexRefA, appendA, strA, Nat.reduceMul, Nat.zero_mul, Nat.reduceMod, Int.reduceEq, Int.reduceLT, Int.reduceLE, Nat.reduceLT, Nat.lt_irrefl, Nat.reduceBEq, tys0, tys1, tys2, tys3, tys4, tys5, tys6, tys7, tys8, tys9, tys10, Try.ntmps5, Try.results5]
      refine RunL.callp rfl rfl ok_f10 hfn (by simp only [pureL, pureB, pk, Bool.and_self]) rfl ?_
      simp only [run0, run1, run2, run3, run4, run5, run6, run7, run8, run9, run10, run11, run12, run13, run14, run15, run16, run17, run18, run19, run20, run21, run22, reduceCtorEq, Nat.reduceEqDiff, Nat.reduceAdd, Nat.reduceSub, Nat.reduceLeDiff, indexAddrA, indexRefA, appendA, strA, Nat.reduceMul, Nat.zero_mul, Nat.reduceMod, Int.reduceEq, Int.reduceLT, Int.reduceLE, Nat.reduceLT, Nat.lt_irrefl, Nat.reduceBEq, tys0, tys1, tys2, tys3, tys4, tys5, tys6, tys7, tys8, tys9, tys10, Try.ntmps5, Try.results5, x1, x2, x4, e5, f3, f4, f5]
      exact ⟨n + 1, by omega, by omega, by rw [hVn]; simp only [List.length_append, List.length_cons, List.length_nil, Nat.zero_add]; repeat constructor, by rw [hVn]; simp [nats]⟩

end Go.Proofs.Ytobdpkkmkbafbaa
