/-
  Texts joined in one: SP2, FR1, SP3, SP4, SP5, GD6, GL2.
-/
import Derived.Test.YtobdpkkmkbafbaaMFusionD
import Derived.Test.YtobdpkkmkbafbaaMFusionB
/-
  Green pictures by the reference: the knots that hang on one.
-/
namespace Go.Proofs.Ytobdpkkmkbafbaa
open Go K
set_option linter.unusedSimpArgs false
set_option linter.unusedVariables false
set_option maxHeartbeats 3200000
set_option maxRecDepth 8000

theorem nd_le : ∀ (n : Nat) (l : List Nat), l.Nodup → (∀ x ∈ l, x < n) → l.length ≤ n
  | 0, l, _, h => by
    cases l with
    | nil => simp
    | cons a l => exact absurd (h a (by simp)) (Nat.not_lt_zero _)
  | n + 1, l, hd, h => by
    by_cases hn : n ∈ l
    · have := nd_le n (l.erase n) (hd.erase n) fun x hx => by
        have h1 := (hd.mem_erase_iff).1 hx
        have := h x h1.2
        omega
      rw [List.length_erase_of_mem hn] at this
      omega
    · have := nd_le n l hd fun x hx => by
        have := h x hx
        have : x ≠ n := fun e => hn (e ▸ hx)
        omega
      omega
theorem rch_le {g : GTw} (hg : Pic g) {p : Nat → Bool} {k x : Nat} (hk : k ≤ 12) (h : Rch g p k x) : x ≤ 12 := by
  cases h with
  | refl => exact hk
  | fwd h1 _ _ => exact (hg.2 _ (List.mem_of_getElem? h1)).2
  | bwd h1 _ _ => exact (hg.2 _ (List.mem_of_getElem? h1)).1
def twB (t : Nat × Nat) : AObj := .box 30 [.int .i64 t.1, .int .i64 t.2]
structure KnS where
  k : Nat
  F : List Nat
  X : List AObj
structure KiS where
  d : GTw
  r : GTw
  F : List Nat
theorem nats_snoc (F : List Nat) (b : Nat) : nats F ++ [.int .i64 b] = nats (F ++ [b]) := by simp [nats]
theorem addK_t {F : List Nat} {c : Bool} {b : Nat} (hc : c = true) (h : F.contains b = false) : addK F c b = F ++ [b] := by subst hc; unfold addK; rw [h]; rfl
theorem addK_c {F : List Nat} {c : Bool} {b : Nat} (h : F.contains b = true) : addK F c b = F := by unfold addK; rw [h]; simp
theorem addK_f {F : List Nat} {c : Bool} {b : Nat} (hc : c = false) : addK F c b = F := by subst hc; rfl
theorem grKnots_ok (g : GTw) (hg : Pic g) (p : Nat → Bool) (s : Nat) (hs : s ≤ 12) : ∃ F : List Nat, F.length ≤ 13 ∧ (∀ x, x ∈ F ↔ Rch g p s x) ∧
    Ct Try.prog 53 [.sl false (g.map twE), .sl false (bools (bl g.length p)), .int .i64 s] [] (.sl false (nats F)) [] := by
  have hgl := hg.1
  have hpu := twE_pure g
  suffices h : ∃ r L', Ct Try.prog 53 [.sl false (g.map twE), .sl false (bools (bl g.length p)), .int .i64 s] [] r L' ∧ ∃ F : List Nat, F.length ≤ 13 ∧ (∀ x, x ∈ F ↔ Rch g p s x) ∧ r = .sl false (nats F) ∧ L' = [] by
    obtain ⟨r, L', h1, F, h2, h3, rfl, rfl⟩ := h
    exact ⟨F, h2, h3, h1⟩
  refine Ct.ex hmix [1000000 + 12] Try.func53 rfl ?_
  simp only [run0, run1, run2, run3, run4, run5, run6, run7, run8, run9, run10, run11, run12, run13, run14, run15, run16, run17, run18, run19, run20, run21, run22, reduceCtorEq, Nat.reduceEqDiff, Nat.reduceAdd, Nat.reduceSub, Nat.reduceLeDiff, indexAddrA, indexRefA, appendA, strA, Nat.reduceMul, Nat.zero_mul, Nat.reduceMod, Int.reduceEq, Int.reduceLT, Int.reduceLE, Nat.reduceLT, Nat.lt_irrefl, Nat.reduceBEq, tys0, tys1, tys2, tys3, tys4, tys5, tys6, tys7, tys8, tys9, tys10, Try.ntmps53, Try.results53]
  refine AWp.loop_exK (ι := KnS) (fun q => ⟨[.sl false (g.map twE), .sl false (bools (bl g.length p)), .junk, .junk, .junk, .junk, nilV, .ref 0 [] (q.F.length - 1) q.F.length, .int .i64 q.k, .junk, .junk, .junk, .junk, .junk, .junk, .junk, .junk, .junk, .junk, .junk, .junk, .junk, .junk, .junk, .junk, .junk, .junk, .junk, .junk, .junk, .junk, .junk, .junk, .junk, .junk, .junk, .junk, .junk, .junk, .junk, .junk, .junk, .junk, .junk, .junk, .junk, .junk, .junk, .junk, .junk, .junk, .junk, .junk, .junk, .junk, .junk, .junk, .junk, .junk, .junk, .junk, .junk, .junk, .junk, .junk, .junk, .junk, .junk, .junk, .junk, .junk], .vec 3 1 (q.F.length - 1) (nats q.F) :: q.X⟩)
    (fun q => q.k ≤ q.F.length ∧ BfI g p s q.F q.k) (fun q => 14 - q.k) ⟨0, [s], []⟩ ⟨Nat.zero_le _, BfI.start g p s⟩ ⟨by repeat constructor, rfl⟩ ?_
  rintro ⟨k, F, X⟩ ⟨hk, hI⟩
  simp only at hk hI
  have hFl : F.length ≤ 13 := nd_le 13 F hI.nd fun x hx => by have := rch_le hg hs (hI.sub x hx); omega
  have hF1 : 1 ≤ F.length := by
    cases F with
    | nil => have := hI.has; simp at this
    | cons a F => simp
  by_cases hlt : k < F.length
  case neg =>
    obtain rfl : k = F.length := by omega
    left
    refine ⟨.sl false (nats F), [], ?_, F, hFl, hI.done, rfl, rfl⟩
    refine W.sound hmix (E := []) ?_
    simp only [run0, run1, run2, run3, run4, run5, run6, run7, run8, run9, run10, run11, run12, run13, run14, run15, run16, run17, run18, run19, run20, run21, run22, reduceCtorEq, Nat.reduceEqDiff, Nat.reduceAdd, Nat.reduceSub, Nat.reduceLeDiff, indexAddrA, indexRefA, appendA, strA, Nat.reduceMul, Nat.zero_mul, Nat.reduceMod, Int.reduceEq, Int.reduceLT, Int.reduceLE, Nat.reduceLT, Nat.lt_irrefl, Nat.reduceBEq, tys0, tys1, tys2, tys3, tys4, tys5, tys6, tys7, tys8, tys9, tys10, Try.ntmps53, Try.results53, Int.lt_irrefl]
    exact Fin.value (Vw_nats rfl rfl rfl)
  right
  obtain ⟨x, hx⟩ : ∃ x, F[k]? = some x := ⟨F[k], by simp [hlt]⟩
  refine ⟨⟨k + 1, bPass p x 0 g F, X ++ g.map twB⟩, ⟨?_, hI.step hx⟩, by simp only; omega, ?_⟩
  · obtain ⟨Y, hY⟩ := bPass_pre p x g 0 F
    rw [hY]; simp; omega
  refine W.sound hmix (E := []) ?_
  have e0 : (k : Int) < (F.length : Int) := by omega
  simp only [run0, run1, run2, run3, run4, run5, run6, run7, run8, run9, run10, run11, run12, run13, run14, run15, run16, run17, run18, run19, run20, run21, run22, reduceCtorEq, Nat.reduceEqDiff, Nat.reduceAdd, Nat.reduceSub, Nat.reduceLeDiff, indexAddrA, indexRefA, appendA, strA, Nat.reduceMul, Nat.zero_mul, Nat.reduceMod, Int.reduceEq, Int.reduceLT, Int.reduceLE, Nat.reduceLT, Nat.lt_irrefl, Nat.reduceBEq, tys0, tys1, tys2, tys3, tys4, tys5, tys6, tys7, tys8, tys9, tys10, Try.ntmps53, Try.results53, e0, List.length_map]
  refine AWp.loop_inv (ι := KiS) (fun q => ⟨[.sl false (g.map twE), .sl false (bools (bl g.length p)), .junk, .junk, .junk, .junk, nilV, .ref 0 [] (q.F.length - 1) q.F.length, .int .i64 k, .junk, .junk, .junk, .junk, .junk, .junk, .junk, .junk, .junk, .junk, .sl false (g.map twE), .int .i64 g.length, .int .i64 q.d.length, .junk, .junk, .junk, .junk, .junk, .junk, .junk, .junk, .junk, .junk, .junk, .junk, .junk, .junk, .junk, .junk, .junk, .junk, .junk, .junk, .junk, .junk, .junk, .junk, .junk, .junk, .junk, .junk, .junk, .junk, .junk, .junk, .junk, .junk, .junk, .junk, .junk, .junk, .junk, .junk, .junk, .junk, .junk, .junk, .junk, .junk, .junk, .junk, .junk], .vec 3 1 (q.F.length - 1) (nats q.F) :: (X ++ q.d.map twB)⟩)
    (fun q => g = q.d ++ q.r ∧ bPass p x q.d.length q.r q.F = bPass p x 0 g F ∧ q.F[k]? = some x ∧ q.F.length ≤ 100 + 2 * q.d.length ∧ 1 ≤ q.F.length) (fun q => q.r.length) ⟨[], g, F⟩ ⟨rfl, rfl, hx, by simp only; omega, hF1⟩ ⟨by simp only [List.length_nil, Int.natCast_zero]; repeat constructor, by simp⟩ ?_
  rintro ⟨d, r, F1⟩ ⟨ha, hP, hx1, hf1, hf2⟩
  refine W.sound hmix (E := [54]) ?_
  simp only at ha hP hx1 hf1 hf2
  have hda : d.length + r.length = g.length := by rw [ha, List.length_append]
  cases r with
  | nil =>
    have e1 : ¬ ((d.length : Int) < (g.length : Int)) := by simp at hda; omega
    have e5 : IntKind.i64.wrap ((k : Int) + 1) = ((k + 1 : Nat) : Int) := by rw [s64_id (by omega) (by omega)]; simp
    rw [List.append_nil] at ha
    subst ha
    have hP : F1 = bPass p x 0 g F := hP
    subst hP
    simp only [run0, run1, run2, run3, run4, run5, run6, run7, run8, run9, run10, run11, run12, run13, run14, run15, run16, run17, run18, run19, run20, run21, run22, reduceCtorEq, Nat.reduceEqDiff, Nat.reduceAdd, Nat.reduceSub, Nat.reduceLeDiff, indexAddrA, indexRefA, appendA, strA, Nat.reduceMul, Nat.zero_mul, Nat.reduceMod, Int.reduceEq, Int.reduceLT, Int.reduceLE, Nat.reduceLT, Nat.lt_irrefl, Nat.reduceBEq, tys0, tys1, tys2, tys3, tys4, tys5, tys6, tys7, tys8, tys9, tys10, Try.ntmps53, Try.results53, e1, e5]
    first | exact ⟨by repeat constructor, rfl⟩ | repeat constructor
  | cons t r =>
    obtain ⟨a, b⟩ := t
    simp only [List.length_cons] at hda
    have e1 : (d.length : Int) < (g.length : Int) := by omega
    have e2 : (g.map twE)[d.length]? = some (.agg [.int .i64 (a : Int), .int .i64 (b : Int)]) := by rw [ha]; simp [twE]
    have e3 := bl_get (n := g.length) (i := d.length) (p := p) (by omega)
    have e5 : IntKind.i64.wrap ((d.length : Int) + 1) = ((d ++ [(a, b)]).length : Int) := by rw [s64_id (by omega) (by omega)]; simp
    have hk1 : (nats F1)[k]? = some (.int .i64 (x : Int)) := by simp [nats, hx1]
    have hkl : (k : Int) < (F1.length : Int) := by have := (List.getElem?_eq_some_iff.1 hx1).1; omega
    have hZ2 : X ++ (d ++ [(a, b)]).map twB = (X ++ d.map twB) ++ [twB (a, b)] := by simp
    generalize hZ : X ++ d.map twB = Z at *
    have hP : bPass p x (d.length + 1) r (bStep p x d.length (a, b) F1) = bPass p x 0 g F := hP
    cases hp : p d.length
    · have hb : bStep p x d.length (a, b) F1 = F1 := by simp [bStep, addK, hp]
      rw [hp] at e3
      rw [hb] at hP
      simp only [run0, run1, run2, run3, run4, run5, run6, run7, run8, run9, run10, run11, run12, run13, run14, run15, run16, run17, run18, run19, run20, run21, run22, reduceCtorEq, Nat.reduceEqDiff, Nat.reduceAdd, Nat.reduceSub, Nat.reduceLeDiff, indexAddrA, indexRefA, appendA, strA, Nat.reduceMul, Nat.zero_mul, Nat.reduceMod, Int.reduceEq, Int.reduceLT, Int.reduceLE, Nat.reduceLT, Nat.lt_irrefl, Nat.reduceBEq, tys0, tys1, tys2, tys3, tys4, tys5, tys6, tys7, tys8, tys9, tys10, Try.ntmps53, Try.results53, e1, e2, e3, e5, Int.toNat_natCast, Int.natCast_nonneg, List.getElem?_append_right, Nat.le_refl, Nat.sub_self]
      exact ⟨⟨d ++ [(a, b)], r, F1⟩, ⟨by rw [ha]; simp, by simpa using hP, hx1, by simp; omega, hf2⟩, by simp, by simp only [List.length_append, List.length_cons, List.length_nil, Nat.zero_add]; repeat constructor, by rw [hZ2]; rfl⟩
    rw [hp] at e3
    have hbS : bStep p x d.length (a, b) F1 = addK (addK F1 (a == x) b) (b == x) a := by simp [bStep, hp]
    rw [hbS] at hP
    simp only [run0, run1, run2, run3, run4, run5, run6, run7, run8, run9, run10, run11, run12, run13, run14, run15, run16, run17, run18, run19, run20, run21, run22, reduceCtorEq, Nat.reduceEqDiff, Nat.reduceAdd, Nat.reduceSub, Nat.reduceLeDiff, indexAddrA, indexRefA, appendA, strA, Nat.reduceMul, Nat.zero_mul, Nat.reduceMod, Int.reduceEq, Int.reduceLT, Int.reduceLE, Nat.reduceLT, Nat.lt_irrefl, Nat.reduceBEq, tys0, tys1, tys2, tys3, tys4, tys5, tys6, tys7, tys8, tys9, tys10, Try.ntmps53, Try.results53, e1, e2, e3, Int.toNat_natCast, Int.natCast_nonneg, List.getElem?_append_right, Nat.le_refl, Nat.sub_self]
    have hgen : F1.length - 1 + 1 = F1.length := by omega
    have hkl0 := (List.getElem?_eq_some_iff.1 hx1).1
    have g3 : F1.length + 1 ≤ 137438953472 := by omega
    have g4 := nats_noOwn F1
    have g5 : (nats F1).length = F1.length := by simp [nats]
    have hv1 : ∀ Y, Vw (.vec 3 1 (F1.length - 1) (nats F1) :: Y) (.ref 0 [] (F1.length - 1) F1.length) (.sl false (nats F1)) := fun Y => Vw_nats rfl rfl rfl
    refine ⟨by kernel_rfl, ?_⟩
    by_cases ca : a = x
    · have q1 : ((a : Int) == (x : Int)) = true := by simp [ca]
      simp only [run0, run1, run2, run3, run4, run5, run6, run7, run8, run9, run10, run11, run12, run13, run14, run15, run16, run17, run18, run19, run20, run21, run22, reduceCtorEq, Nat.reduceEqDiff, Nat.reduceAdd, Nat.reduceSub, Nat.reduceLeDiff, indexAddrA, indexRefA, appendA, strA, Nat.reduceMul, Nat.zero_mul, Nat.reduceMod, Int.reduceEq, Int.reduceLT, Int.reduceLE, Nat.reduceLT, Nat.lt_irrefl, Nat.reduceBEq, tys0, tys1, tys2, tys3, tys4, tys5, tys6, tys7, tys8, tys9, tys10, Try.ntmps53, Try.results53, hk1, hkl, q1, List.mapIdx_cons, List.mapIdx_nil, viewC, Int.toNat_natCast, Int.natCast_nonneg, List.getElem?_append_right, Nat.le_refl, Nat.sub_self]
      refine RunL.lendV rfl rfl ok_f54 rfl (hasN_ok F1 b (by omega)) (.cons (hv1 _) (.cons (.pur (.int _ _)) .nil)) rfl rfl ?_
      cases hc : F1.contains b
      · simp only [run0, run1, run2, run3, run4, run5, run6, run7, run8, run9, run10, run11, run12, run13, run14, run15, run16, run17, run18, run19, run20, run21, run22, reduceCtorEq, Nat.reduceEqDiff, Nat.reduceAdd, Nat.reduceSub, Nat.reduceLeDiff, indexAddrA, indexRefA, appendA, strA, Nat.reduceMul, Nat.zero_mul, Nat.reduceMod, Int.reduceEq, Int.reduceLT, Int.reduceLE, Nat.reduceLT, Nat.lt_irrefl, Nat.reduceBEq, tys0, tys1, tys2, tys3, tys4, tys5, tys6, tys7, tys8, tys9, tys10, Try.ntmps53, Try.results53, hgen, nats_snoc, g3, g4, g5, Int.toNat_natCast, Int.natCast_nonneg, List.getElem?_append_right, Nat.le_refl, Nat.sub_self]
        have a1 : addK F1 (a == x) b = F1 ++ [b] := addK_t (by simp [ca]) hc
        rw [a1] at hP
        have hx2 : (F1 ++ [b])[k]? = some x := by first | exact hx1 | (rw [List.getElem?_append_left (by omega)]; exact hx1)
        have hk2 : (nats (F1 ++ [b]))[k]? = some (.int .i64 (x : Int)) := by unfold nats; rw [List.getElem?_map, hx2]; rfl
        have hkl2 : (k : Int) < ((F1.length + 1 : Nat) : Int) := by omega
        have hv2 : ∀ Y, Vw (.vec 3 1 (F1.length) (nats (F1 ++ [b])) :: Y) (.ref 0 [] (F1.length) (F1.length + 1)) (.sl false (nats (F1 ++ [b]))) := fun Y => Vw_nats rfl rfl (by simp)
        have f3 : F1.length + 1 + 1 ≤ 137438953472 := by omega
        have f4 := nats_noOwn (F1 ++ [b])
        have f5 : (nats (F1 ++ [b])).length = F1.length + 1 := by simp [nats]
        refine ⟨by kernel_rfl, ?_⟩
        by_cases cb : b = x
        · have q2 : ((b : Int) == (x : Int)) = true := by simp [cb]
          simp only [run0, run1, run2, run3, run4, run5, run6, run7, run8, run9, run10, run11, run12, run13, run14, run15, run16, run17, run18, run19, run20, run21, run22, reduceCtorEq, Nat.reduceEqDiff, Nat.reduceAdd, Nat.reduceSub, Nat.reduceLeDiff, indexAddrA, indexRefA, appendA, strA, Nat.reduceMul, Nat.zero_mul, Nat.reduceMod, Int.reduceEq, Int.reduceLT, Int.reduceLE, Nat.reduceLT, Nat.lt_irrefl, Nat.reduceBEq, tys0, tys1, tys2, tys3, tys4, tys5, tys6, tys7, tys8, tys9, tys10, Try.ntmps53, Try.results53, hk2, hkl2, q2, List.mapIdx_cons, List.mapIdx_nil, viewC, e5, Int.toNat_natCast, Int.natCast_nonneg, List.getElem?_append_right, Nat.le_refl, Nat.sub_self, beq_self_eq_true]
          refine RunL.lendV rfl rfl ok_f54 rfl (hasN_ok (F1 ++ [b]) a (by simp; omega)) (.cons (hv2 _) (.cons (.pur (.int _ _)) .nil)) rfl rfl ?_
          cases hc2 : (F1 ++ [b]).contains a
          · have a2 : addK (F1 ++ [b]) (b == x) a = F1 ++ [b] ++ [a] := addK_t (by simp [cb]) hc2
            rw [a2] at hP
            simp only [run0, run1, run2, run3, run4, run5, run6, run7, run8, run9, run10, run11, run12, run13, run14, run15, run16, run17, run18, run19, run20, run21, run22, reduceCtorEq, Nat.reduceEqDiff, Nat.reduceAdd, Nat.reduceSub, Nat.reduceLeDiff, indexAddrA, indexRefA, appendA, strA, Nat.reduceMul, Nat.zero_mul, Nat.reduceMod, Int.reduceEq, Int.reduceLT, Int.reduceLE, Nat.reduceLT, Nat.lt_irrefl, Nat.reduceBEq, tys0, tys1, tys2, tys3, tys4, tys5, tys6, tys7, tys8, tys9, tys10, Try.ntmps53, Try.results53, hgen, nats_snoc, f3, f4, f5, e5, Int.toNat_natCast, Int.natCast_nonneg, List.getElem?_append_right, Nat.le_refl, Nat.sub_self, beq_self_eq_true]
            exact ⟨⟨d ++ [(a, b)], r, F1 ++ [b] ++ [a]⟩, ⟨by rw [ha]; simp, by simpa using hP, by rw [List.getElem?_append_left (by first | omega | (simp; omega))]; exact hx2, by simp; omega, by simp⟩, by simp, by (try simp only [List.length_append, List.length_cons, List.length_nil, Nat.zero_add, Nat.add_sub_cancel]); repeat constructor, by rw [hZ2]; simp [twB]⟩
          · have a2 : addK (F1 ++ [b]) (b == x) a = F1 ++ [b] := addK_c hc2
            rw [a2] at hP
            simp only [run0, run1, run2, run3, run4, run5, run6, run7, run8, run9, run10, run11, run12, run13, run14, run15, run16, run17, run18, run19, run20, run21, run22, reduceCtorEq, Nat.reduceEqDiff, Nat.reduceAdd, Nat.reduceSub, Nat.reduceLeDiff, indexAddrA, indexRefA, appendA, strA, Nat.reduceMul, Nat.zero_mul, Nat.reduceMod, Int.reduceEq, Int.reduceLT, Int.reduceLE, Nat.reduceLT, Nat.lt_irrefl, Nat.reduceBEq, tys0, tys1, tys2, tys3, tys4, tys5, tys6, tys7, tys8, tys9, tys10, Try.ntmps53, Try.results53, e5, Int.toNat_natCast, Int.natCast_nonneg, List.getElem?_append_right, Nat.le_refl, Nat.sub_self, beq_self_eq_true]
            exact ⟨⟨d ++ [(a, b)], r, F1 ++ [b]⟩, ⟨by rw [ha]; simp, by simpa using hP, hx2, by simp; omega, by simp; try omega⟩, by simp, by (try simp only [List.length_append, List.length_cons, List.length_nil, Nat.zero_add, Nat.add_sub_cancel]); repeat constructor, by rw [hZ2]; simp [twB]⟩
        · have q2 : ((b : Int) == (x : Int)) = false := by simp; omega
          have a2 : addK (F1 ++ [b]) (b == x) a = F1 ++ [b] := addK_f (by simp [cb])
          rw [a2] at hP
          simp only [run0, run1, run2, run3, run4, run5, run6, run7, run8, run9, run10, run11, run12, run13, run14, run15, run16, run17, run18, run19, run20, run21, run22, reduceCtorEq, Nat.reduceEqDiff, Nat.reduceAdd, Nat.reduceSub, Nat.reduceLeDiff, indexAddrA, indexRefA, appendA, strA, Nat.reduceMul, Nat.zero_mul, Nat.reduceMod, Int.reduceEq, Int.reduceLT, Int.reduceLE, Nat.reduceLT, Nat.lt_irrefl, Nat.reduceBEq, tys0, tys1, tys2, tys3, tys4, tys5, tys6, tys7, tys8, tys9, tys10, Try.ntmps53, Try.results53, hk2, hkl2, q2, List.mapIdx_cons, List.mapIdx_nil, viewC, e5, Int.toNat_natCast, Int.natCast_nonneg, List.getElem?_append_right, Nat.le_refl, Nat.sub_self, beq_self_eq_true]
          exact ⟨⟨d ++ [(a, b)], r, F1 ++ [b]⟩, ⟨by rw [ha]; simp, by simpa using hP, hx2, by simp; omega, by simp; try omega⟩, by simp, by (try simp only [List.length_append, List.length_cons, List.length_nil, Nat.zero_add, Nat.add_sub_cancel]); repeat constructor, by rw [hZ2]; simp [twB]⟩
      · simp only [run0, run1, run2, run3, run4, run5, run6, run7, run8, run9, run10, run11, run12, run13, run14, run15, run16, run17, run18, run19, run20, run21, run22, reduceCtorEq, Nat.reduceEqDiff, Nat.reduceAdd, Nat.reduceSub, Nat.reduceLeDiff, indexAddrA, indexRefA, appendA, strA, Nat.reduceMul, Nat.zero_mul, Nat.reduceMod, Int.reduceEq, Int.reduceLT, Int.reduceLE, Nat.reduceLT, Nat.lt_irrefl, Nat.reduceBEq, tys0, tys1, tys2, tys3, tys4, tys5, tys6, tys7, tys8, tys9, tys10, Try.ntmps53, Try.results53]
        have a1 : addK F1 (a == x) b = F1 := addK_c hc
        rw [a1] at hP
        have hx2 : (F1)[k]? = some x := by first | exact hx1 | (rw [List.getElem?_append_left (by omega)]; exact hx1)
        have hk2 : (nats (F1))[k]? = some (.int .i64 (x : Int)) := by unfold nats; rw [List.getElem?_map, hx2]; rfl
        have hkl2 : (k : Int) < ((F1.length : Nat) : Int) := by omega
        have hv2 : ∀ Y, Vw (.vec 3 1 (F1.length - 1) (nats (F1)) :: Y) (.ref 0 [] (F1.length - 1) (F1.length)) (.sl false (nats (F1))) := fun Y => Vw_nats rfl rfl (by simp)
        have f3 : F1.length + 1 ≤ 137438953472 := by omega
        have f4 := nats_noOwn (F1)
        have f5 : (nats (F1)).length = F1.length := by simp [nats]
        refine ⟨by kernel_rfl, ?_⟩
        by_cases cb : b = x
        · have q2 : ((b : Int) == (x : Int)) = true := by simp [cb]
          simp only [run0, run1, run2, run3, run4, run5, run6, run7, run8, run9, run10, run11, run12, run13, run14, run15, run16, run17, run18, run19, run20, run21, run22, reduceCtorEq, Nat.reduceEqDiff, Nat.reduceAdd, Nat.reduceSub, Nat.reduceLeDiff, indexAddrA, indexRefA, appendA, strA, Nat.reduceMul, Nat.zero_mul, Nat.reduceMod, Int.reduceEq, Int.reduceLT, Int.reduceLE, Nat.reduceLT, Nat.lt_irrefl, Nat.reduceBEq, tys0, tys1, tys2, tys3, tys4, tys5, tys6, tys7, tys8, tys9, tys10, Try.ntmps53, Try.results53, hk2, hkl2, q2, List.mapIdx_cons, List.mapIdx_nil, viewC, e5, Int.toNat_natCast, Int.natCast_nonneg, List.getElem?_append_right, Nat.le_refl, Nat.sub_self, beq_self_eq_true]
          refine RunL.lendV rfl rfl ok_f54 rfl (hasN_ok (F1) a (by omega)) (.cons (hv2 _) (.cons (.pur (.int _ _)) .nil)) rfl rfl ?_
          cases hc2 : (F1).contains a
          · have a2 : addK (F1) (b == x) a = F1 ++ [a] := addK_t (by simp [cb]) hc2
            rw [a2] at hP
            simp only [run0, run1, run2, run3, run4, run5, run6, run7, run8, run9, run10, run11, run12, run13, run14, run15, run16, run17, run18, run19, run20, run21, run22, reduceCtorEq, Nat.reduceEqDiff, Nat.reduceAdd, Nat.reduceSub, Nat.reduceLeDiff, indexAddrA, indexRefA, appendA, strA, Nat.reduceMul, Nat.zero_mul, Nat.reduceMod, Int.reduceEq, Int.reduceLT, Int.reduceLE, Nat.reduceLT, Nat.lt_irrefl, Nat.reduceBEq, tys0, tys1, tys2, tys3, tys4, tys5, tys6, tys7, tys8, tys9, tys10, Try.ntmps53, Try.results53, hgen, nats_snoc, f3, f4, f5, e5, Int.toNat_natCast, Int.natCast_nonneg, List.getElem?_append_right, Nat.le_refl, Nat.sub_self, beq_self_eq_true]
            exact ⟨⟨d ++ [(a, b)], r, F1 ++ [a]⟩, ⟨by rw [ha]; simp, by simpa using hP, by rw [List.getElem?_append_left (by first | omega | (simp; omega))]; exact hx2, by simp; omega, by simp⟩, by simp, by (try simp only [List.length_append, List.length_cons, List.length_nil, Nat.zero_add, Nat.add_sub_cancel]); repeat constructor, by rw [hZ2]; simp [twB]⟩
          · have a2 : addK (F1) (b == x) a = F1 := addK_c hc2
            rw [a2] at hP
            simp only [run0, run1, run2, run3, run4, run5, run6, run7, run8, run9, run10, run11, run12, run13, run14, run15, run16, run17, run18, run19, run20, run21, run22, reduceCtorEq, Nat.reduceEqDiff, Nat.reduceAdd, Nat.reduceSub, Nat.reduceLeDiff, indexAddrA, indexRefA, appendA, strA, Nat.reduceMul, Nat.zero_mul, Nat.reduceMod, Int.reduceEq, Int.reduceLT, Int.reduceLE, Nat.reduceLT, Nat.lt_irrefl, Nat.reduceBEq, tys0, tys1, tys2, tys3, tys4, tys5, tys6, tys7, tys8, tys9, tys10, Try.ntmps53, Try.results53, e5, Int.toNat_natCast, Int.natCast_nonneg, List.getElem?_append_right, Nat.le_refl, Nat.sub_self, beq_self_eq_true]
            exact ⟨⟨d ++ [(a, b)], r, F1⟩, ⟨by rw [ha]; simp, by simpa using hP, hx2, by simp; omega, by simp; try omega⟩, by simp, by (try simp only [List.length_append, List.length_cons, List.length_nil, Nat.zero_add, Nat.add_sub_cancel]); repeat constructor, by rw [hZ2]; simp [twB]⟩
        · have q2 : ((b : Int) == (x : Int)) = false := by simp; omega
          have a2 : addK (F1) (b == x) a = F1 := addK_f (by simp [cb])
          rw [a2] at hP
          simp only [run0, run1, run2, run3, run4, run5, run6, run7, run8, run9, run10, run11, run12, run13, run14, run15, run16, run17, run18, run19, run20, run21, run22, reduceCtorEq, Nat.reduceEqDiff, Nat.reduceAdd, Nat.reduceSub, Nat.reduceLeDiff, indexAddrA, indexRefA, appendA, strA, Nat.reduceMul, Nat.zero_mul, Nat.reduceMod, Int.reduceEq, Int.reduceLT, Int.reduceLE, Nat.reduceLT, Nat.lt_irrefl, Nat.reduceBEq, tys0, tys1, tys2, tys3, tys4, tys5, tys6, tys7, tys8, tys9, tys10, Try.ntmps53, Try.results53, hk2, hkl2, q2, List.mapIdx_cons, List.mapIdx_nil, viewC, e5, Int.toNat_natCast, Int.natCast_nonneg, List.getElem?_append_right, Nat.le_refl, Nat.sub_self, beq_self_eq_true]
          exact ⟨⟨d ++ [(a, b)], r, F1⟩, ⟨by rw [ha]; simp, by simpa using hP, hx2, by simp; omega, by simp; try omega⟩, by simp, by (try simp only [List.length_append, List.length_cons, List.length_nil, Nat.zero_add, Nat.add_sub_cancel]); repeat constructor, by rw [hZ2]; simp [twB]⟩
    · have q1 : ((a : Int) == (x : Int)) = false := by simp; omega
      simp only [run0, run1, run2, run3, run4, run5, run6, run7, run8, run9, run10, run11, run12, run13, run14, run15, run16, run17, run18, run19, run20, run21, run22, reduceCtorEq, Nat.reduceEqDiff, Nat.reduceAdd, Nat.reduceSub, Nat.reduceLeDiff, indexAddrA, indexRefA, appendA, strA, Nat.reduceMul, Nat.zero_mul, Nat.reduceMod, Int.reduceEq, Int.reduceLT, Int.reduceLE, Nat.reduceLT, Nat.lt_irrefl, Nat.reduceBEq, tys0, tys1, tys2, tys3, tys4, tys5, tys6, tys7, tys8, tys9, tys10, Try.ntmps53, Try.results53, hk1, hkl, q1, List.mapIdx_cons, List.mapIdx_nil, viewC, Int.toNat_natCast, Int.natCast_nonneg, List.getElem?_append_right, Nat.le_refl, Nat.sub_self]
      have a1 : addK F1 (a == x) b = F1 := addK_f (by simp [ca])
      rw [a1] at hP
      have hx2 : (F1)[k]? = some x := by first | exact hx1 | (rw [List.getElem?_append_left (by omega)]; exact hx1)
      have hk2 : (nats (F1))[k]? = some (.int .i64 (x : Int)) := by unfold nats; rw [List.getElem?_map, hx2]; rfl
      have hkl2 : (k : Int) < ((F1.length : Nat) : Int) := by omega
      have hv2 : ∀ Y, Vw (.vec 3 1 (F1.length - 1) (nats (F1)) :: Y) (.ref 0 [] (F1.length - 1) (F1.length)) (.sl false (nats (F1))) := fun Y => Vw_nats rfl rfl (by simp)
      have f3 : F1.length + 1 ≤ 137438953472 := by omega
      have f4 := nats_noOwn (F1)
      have f5 : (nats (F1)).length = F1.length := by simp [nats]
      refine ⟨by kernel_rfl, ?_⟩
      by_cases cb : b = x
      · have q2 : ((b : Int) == (x : Int)) = true := by simp [cb]
        simp only [run0, run1, run2, run3, run4, run5, run6, run7, run8, run9, run10, run11, run12, run13, run14, run15, run16, run17, run18, run19, run20, run21, run22, reduceCtorEq, Nat.reduceEqDiff, Nat.reduceAdd, Nat.reduceSub, Nat.reduceLeDiff, indexAddrA, indexRefA, appendA, strA, Nat.reduceMul, Nat.zero_mul, Nat.reduceMod, Int.reduceEq, Int.reduceLT, Int.reduceLE, Nat.reduceLT, Nat.lt_irrefl, Nat.reduceBEq, tys0, tys1, tys2, tys3, tys4, tys5, tys6, tys7, tys8, tys9, tys10, Try.ntmps53, Try.results53, hk2, hkl2, q2, List.mapIdx_cons, List.mapIdx_nil, viewC, e5, Int.toNat_natCast, Int.natCast_nonneg, List.getElem?_append_right, Nat.le_refl, Nat.sub_self, beq_self_eq_true]
        refine RunL.lendV rfl rfl ok_f54 rfl (hasN_ok (F1) a (by omega)) (.cons (hv2 _) (.cons (.pur (.int _ _)) .nil)) rfl rfl ?_
        cases hc2 : (F1).contains a
        · have a2 : addK (F1) (b == x) a = F1 ++ [a] := addK_t (by simp [cb]) hc2
          rw [a2] at hP
          simp only [run0, run1, run2, run3, run4, run5, run6, run7, run8, run9, run10, run11, run12, run13, run14, run15, run16, run17, run18, run19, run20, run21, run22, reduceCtorEq, Nat.reduceEqDiff, Nat.reduceAdd, Nat.reduceSub, Nat.reduceLeDiff, indexAddrA, indexRefA, appendA, strA, Nat.reduceMul, Nat.zero_mul, Nat.reduceMod, Int.reduceEq, Int.reduceLT, Int.reduceLE, Nat.reduceLT, Nat.lt_irrefl, Nat.reduceBEq, tys0, tys1, tys2, tys3, tys4, tys5, tys6, tys7, tys8, tys9, tys10, Try.ntmps53, Try.results53, hgen, nats_snoc, f3, f4, f5, e5, Int.toNat_natCast, Int.natCast_nonneg, List.getElem?_append_right, Nat.le_refl, Nat.sub_self, beq_self_eq_true]
          exact ⟨⟨d ++ [(a, b)], r, F1 ++ [a]⟩, ⟨by rw [ha]; simp, by simpa using hP, by rw [List.getElem?_append_left (by first | omega | (simp; omega))]; exact hx2, by simp; omega, by simp⟩, by simp, by (try simp only [List.length_append, List.length_cons, List.length_nil, Nat.zero_add, Nat.add_sub_cancel]); repeat constructor, by rw [hZ2]; simp [twB]⟩
        · have a2 : addK (F1) (b == x) a = F1 := addK_c hc2
          rw [a2] at hP
          simp only [run0, run1, run2, run3, run4, run5, run6, run7, run8, run9, run10, run11, run12, run13, run14, run15, run16, run17, run18, run19, run20, run21, run22, reduceCtorEq, Nat.reduceEqDiff, Nat.reduceAdd, Nat.reduceSub, Nat.reduceLeDiff, indexAddrA, indexRefA, appendA, strA, Nat.reduceMul, Nat.zero_mul, Nat.reduceMod, Int.reduceEq, Int.reduceLT, Int.reduceLE, Nat.reduceLT, Nat.lt_irrefl, Nat.reduceBEq, tys0, tys1, tys2, tys3, tys4, tys5, tys6, tys7, tys8, tys9, tys10, Try.ntmps53, Try.results53, e5, Int.toNat_natCast, Int.natCast_nonneg, List.getElem?_append_right, Nat.le_refl, Nat.sub_self, beq_self_eq_true]
          exact ⟨⟨d ++ [(a, b)], r, F1⟩, ⟨by rw [ha]; simp, by simpa using hP, hx2, by simp; omega, by simp; try omega⟩, by simp, by (try simp only [List.length_append, List.length_cons, List.length_nil, Nat.zero_add, Nat.add_sub_cancel]); repeat constructor, by rw [hZ2]; simp [twB]⟩
      · have q2 : ((b : Int) == (x : Int)) = false := by simp; omega
        have a2 : addK (F1) (b == x) a = F1 := addK_f (by simp [cb])
        rw [a2] at hP
        simp only [run0, run1, run2, run3, run4, run5, run6, run7, run8, run9, run10, run11, run12, run13, run14, run15, run16, run17, run18, run19, run20, run21, run22, reduceCtorEq, Nat.reduceEqDiff, Nat.reduceAdd, Nat.reduceSub, Nat.reduceLeDiff, indexAddrA, indexRefA, appendA, strA, Nat.reduceMul, Nat.zero_mul, Nat.reduceMod, Int.reduceEq, Int.reduceLT, Int.reduceLE, Nat.reduceLT, Nat.lt_irrefl, Nat.reduceBEq, tys0, tys1, tys2, tys3, tys4, tys5, tys6, tys7, tys8, tys9, tys10, Try.ntmps53, Try.results53, hk2, hkl2, q2, List.mapIdx_cons, List.mapIdx_nil, viewC, e5, Int.toNat_natCast, Int.natCast_nonneg, List.getElem?_append_right, Nat.le_refl, Nat.sub_self, beq_self_eq_true]
        exact ⟨⟨d ++ [(a, b)], r, F1⟩, ⟨by rw [ha]; simp, by simpa using hP, hx2, by simp; omega, by simp; try omega⟩, by simp, by (try simp only [List.length_append, List.length_cons, List.length_nil, Nat.zero_add, Nat.add_sub_cancel]); repeat constructor, by rw [hZ2]; simp [twB]⟩

end Go.Proofs.Ytobdpkkmkbafbaa
/-
  Rows told as values, all at once (from the nimbers' texts).
-/
namespace Go.Proofs.Ytobdpkkmkbafbaa
open Go K
set_option linter.unusedSimpArgs false
set_option linter.unusedVariables false
set_option maxHeartbeats 1600000
set_option maxRecDepth 8000

theorem FrV.pur' {D : List Nat} {L : List AObj} {x : AV} (h : pureB x = true) : FrV D L x x := .pur (.of h)
theorem FrV_bools {D : List Nat} {L : List AObj} {id g n : Nat} {T : TypeId} {l : List Bool} {o : Bool} (hD : id ∈ D) (hL : L[id]? = some (.vec T 1 g (bools l))) (hn : n = l.length) : FrV D L (.ref id [] g n) (.sl o (bools l)) := by
  refine FrV.ref hD hL rfl (by simp [hn]) fun i e y he hy => ?_
  rw [he] at hy
  cases hy
  obtain ⟨z, _, rfl⟩ := List.mem_map.1 (List.mem_of_getElem? he)
  refine ⟨rfl, fun j c d hc hd => ?_⟩
  rw [hc] at hd
  cases hd
  cases j with
  | zero => simp [AV.cells] at hc; subst hc; exact FrV.pur' rfl
  | succ j => simp [AV.cells] at hc
/-- All rows that are owned. -/
def isVec : AObj → Bool
  | .vec _ _ _ _ => true
  | _ => false
def vecs (L : List AObj) : List Nat := (List.range L.length).filter fun i => match L[i]? with | some o => isVec o | none => false
theorem vecs_mem {L : List AObj} {i : Nat} : i ∈ vecs L ↔ ∃ T z g es, L[i]? = some (.vec T z g es) := by
  unfold vecs
  rw [List.mem_filter]
  constructor
  · rintro ⟨_, h⟩
    cases hL : L[i]? with
    | none => rw [hL] at h; cases h
    | some o =>
      rw [hL] at h
      cases o with
      | vec T z g es => exact ⟨_, _, _, _, rfl⟩
      | _ => cases h
  · rintro ⟨T, z, g, es, h⟩
    exact ⟨List.mem_range.2 (List.getElem?_eq_some_iff.1 h).1, by rw [h]; rfl⟩
/-- Rows and plain variables alone. -/
def plainO (o : AObj) : Prop := isVec o = true ∨ ∃ T cs, o = .box T cs ∧ ∀ x ∈ cs, Pur x
inductive FrL (D : List Nat) (L : List AObj) : List AV → List AV → Prop
  | nil : FrL D L [] []
  | drop {x : AV} {xs ys : List AV} (k : FrL D L xs ys) : FrL D L (x :: xs) (.junk :: ys)
  | cons {x y : AV} {xs ys : List AV} (h : FrV D L x y) (k : FrL D L xs ys) : FrL D L (x :: xs) (y :: ys)
theorem FrL.get {D : List Nat} {L : List AObj} {xs ys : List AV} (h : FrL D L xs ys) : ys.length = xs.length ∧ ∀ (i : Nat) y, ys[i]? = some y → y = .junk ∨ ∃ x, xs[i]? = some x ∧ FrV D L x y := by
  induction h with
  | nil => exact ⟨rfl, fun i y h => by simp at h⟩
  | drop k ih =>
    refine ⟨by simp [ih.1], fun i y hi => ?_⟩
    cases i with
    | zero => simp at hi; exact .inl hi.symm
    | succ i => simpa using ih.2 i y (by simpa using hi)
  | cons h k ih =>
    refine ⟨by simp [ih.1], fun i y hi => ?_⟩
    cases i with
    | zero => simp at hi; subst hi; exact .inr ⟨_, rfl, h⟩
    | succ i => simpa using ih.2 i y (by simpa using hi)
theorem AWp.freezeAll {P : Program} {c : Code} {Q : Exit → St → Prop} {s : St} {t' : List AV} (hT : FrL (vecs s.L) s.L s.t t') (hL : ∀ o ∈ s.L, plainO o) (h : AWp P c Q ⟨t', killS (vecs s.L) s.L⟩) : AWp P c Q s :=
  AWp.freeze (vecs s.L) hT.get.1 hT.get.2 (fun id hid => vecs_mem.1 hid) (fun id hid o ho => by
    rcases hL o (List.mem_of_getElem? ho) with hv | hb
    · cases o with
      | vec T z g es => exact absurd (vecs_mem.2 ⟨_, _, _, _, ho⟩) hid
      | _ => cases hv
    · exact .inr hb) h

end Go.Proofs.Ytobdpkkmkbafbaa
/-
  Green pictures by the reference: what is grounded, cuts, masks, the least number that lacks.
-/
namespace Go.Proofs.Ytobdpkkmkbafbaa
open Go K
set_option linter.unusedSimpArgs false
set_option linter.unusedVariables false
set_option maxHeartbeats 3200000
set_option maxRecDepth 8000

def gnd (g : GTw) (p : Nat → Bool) : Nat := (gRun g p (g.length + 1) (1, 0)).2
structure GgS where
  n : Nat
  X : List AObj
theorem grGround_ok (g : GTw) (hg : Pic g) (p : Nat → Bool) : Ct Try.prog 38 [.sl false (g.map twE), .sl false (bools (bl g.length p))] [] (.sl false (bools (bl g.length (gnd g p).testBit))) [] := by
  have hgl := hg.1
  have hpu := twE_pure g
  have hpb := bools_pure (bl g.length p)
  obtain ⟨F, hF1, hF, ck⟩ := grKnots_ok g hg p 0 (by omega)
  have hpn := nats_pure F
  have key : ∀ i a b, g[i]? = some (a, b) → (gnd g p).testBit i = (p i && F.contains a) := fun i a b h => by
    rw [Bool.eq_iff_iff, Bool.and_eq_true, List.contains_iff_mem, hF]
    unfold gnd
    rw [gRun_is]
    constructor
    · rintro ⟨a', b', h1, h2, h3⟩
      rw [h] at h1
      cases h1
      exact ⟨h2, h3⟩
    · rintro ⟨h2, h3⟩
      exact ⟨a, b, h, h2, h3⟩
  refine Ct.by_ hmix [] Try.func38 rfl ?_
  simp only [run0, run1, run2, run3, run4, run5, run6, run7, run8, run9, run10, run11, run12, run13, run14, run15, run16, run17, run18, run19, run20, run21, run22, reduceCtorEq, Nat.reduceEqDiff, Nat.reduceAdd, Nat.reduceSub, Nat.reduceLeDiff, indexAddrA, indexRefA, appendA, strA, Nat.reduceMul, Nat.zero_mul, Nat.reduceMod, Int.reduceEq, Int.reduceLT, Int.reduceLE, Nat.reduceLT, Nat.lt_irrefl, Nat.reduceBEq, tys0, tys1, tys2, tys3, tys4, tys5, tys6, tys7, tys8, tys9, tys10, Try.ntmps38, Try.results38]
  refine RunL.callp rfl rfl ok_f53 ck (by simp only [pureL, pureB, hpu, hpb, Bool.and_self]) rfl ?_
  simp only [run0, run1, run2, run3, run4, run5, run6, run7, run8, run9, run10, run11, run12, run13, run14, run15, run16, run17, run18, run19, run20, run21, run22, reduceCtorEq, Nat.reduceEqDiff, Nat.reduceAdd, Nat.reduceSub, Nat.reduceLeDiff, indexAddrA, indexRefA, appendA, strA, Nat.reduceMul, Nat.zero_mul, Nat.reduceMod, Int.reduceEq, Int.reduceLT, Int.reduceLE, Nat.reduceLT, Nat.lt_irrefl, Nat.reduceBEq, tys0, tys1, tys2, tys3, tys4, tys5, tys6, tys7, tys8, tys9, tys10, Try.ntmps38, Try.results38, List.length_map]
  refine AWp.nil 6 4 1 rfl ?_
  refine AWp.loop_inv (ι := GgS) (fun q => ⟨[.sl false (g.map twE), .sl false (bools (bl g.length p)), .junk, .junk, nilV, .sl false (nats F), .ref 0 [] q.n q.n, .junk, .junk, .junk, .junk, .junk, .sl false (g.map twE), .int .i64 g.length, .int .i64 q.n, .junk, .junk, .junk, .junk, .junk, .junk, .junk, .junk, .junk, .junk, .junk, .junk, .junk, .junk, .junk, .junk, .junk, .junk, .junk], .vec 4 1 q.n (bools (bl q.n (gnd g p).testBit)) :: q.X⟩)
    (fun q => q.n ≤ g.length) (fun q => g.length - q.n) ⟨0, []⟩ (Nat.zero_le _) ⟨by simp only [Int.natCast_zero]; repeat constructor, rfl⟩ ?_
  rintro ⟨n, X⟩ hn
  refine W.sound hmix (E := []) ?_
  simp only at hn
  by_cases h : n < g.length
  · obtain ⟨⟨a, b⟩, hab⟩ : ∃ t, g[n]? = some t := ⟨g[n], by simp [h]⟩
    have e1 : (n : Int) < (g.length : Int) := by omega
    have e2 : (g.map twE)[n]? = some (.agg [.int .i64 (a : Int), .int .i64 (b : Int)]) := by simp [hab, twE]
    have e3 := bl_get (p := p) h
    have e5 : IntKind.i64.wrap ((n : Int) + 1) = ((n + 1 : Nat) : Int) := by rw [s64_id (by omega) (by omega)]; simp
    have f3 : n + 1 ≤ 137438953472 := by omega
    have f4 := bools_noOwn (bl n (gnd g p).testBit)
    have f5 := bls_len n (gnd g p).testBit
    have hk := key n a b hab
    have hc := hasN_ok F a (by omega)
    cases hp : p n
    · rw [hp] at e3 hk
      rw [Bool.false_and] at hk
      simp only [run0, run1, run2, run3, run4, run5, run6, run7, run8, run9, run10, run11, run12, run13, run14, run15, run16, run17, run18, run19, run20, run21, run22, reduceCtorEq, Nat.reduceEqDiff, Nat.reduceAdd, Nat.reduceSub, Nat.reduceLeDiff, indexAddrA, indexRefA, appendA, strA, Nat.reduceMul, Nat.zero_mul, Nat.reduceMod, Int.reduceEq, Int.reduceLT, Int.reduceLE, Nat.reduceLT, Nat.lt_irrefl, Nat.reduceBEq, tys0, tys1, tys2, tys3, tys4, tys5, tys6, tys7, tys8, tys9, tys10, Try.ntmps38, Try.results38, e1, e2, e3, e5, f3, f4, f5, Int.toNat_natCast, Int.natCast_nonneg, List.getElem?_append_right, Nat.le_refl, Nat.sub_self]
      exact ⟨⟨n + 1, _⟩, by simp only; omega, by simp only; omega, by repeat constructor, by rw [bl_succ, hk]⟩
    · rw [hp] at e3 hk
      rw [Bool.true_and] at hk
      simp only [run0, run1, run2, run3, run4, run5, run6, run7, run8, run9, run10, run11, run12, run13, run14, run15, run16, run17, run18, run19, run20, run21, run22, reduceCtorEq, Nat.reduceEqDiff, Nat.reduceAdd, Nat.reduceSub, Nat.reduceLeDiff, indexAddrA, indexRefA, appendA, strA, Nat.reduceMul, Nat.zero_mul, Nat.reduceMod, Int.reduceEq, Int.reduceLT, Int.reduceLE, Nat.reduceLT, Nat.lt_irrefl, Nat.reduceBEq, tys0, tys1, tys2, tys3, tys4, tys5, tys6, tys7, tys8, tys9, tys10, Try.ntmps38, Try.results38, e1, e2, e3, Int.toNat_natCast, Int.natCast_nonneg, List.getElem?_append_right, Nat.le_refl, Nat.sub_self]
      refine RunL.callp rfl rfl ok_f54 hc (by simp only [pureL, pureB, hpn, Bool.and_self]) rfl ?_
      simp only [run0, run1, run2, run3, run4, run5, run6, run7, run8, run9, run10, run11, run12, run13, run14, run15, run16, run17, run18, run19, run20, run21, run22, reduceCtorEq, Nat.reduceEqDiff, Nat.reduceAdd, Nat.reduceSub, Nat.reduceLeDiff, indexAddrA, indexRefA, appendA, strA, Nat.reduceMul, Nat.zero_mul, Nat.reduceMod, Int.reduceEq, Int.reduceLT, Int.reduceLE, Nat.reduceLT, Nat.lt_irrefl, Nat.reduceBEq, tys0, tys1, tys2, tys3, tys4, tys5, tys6, tys7, tys8, tys9, tys10, Try.ntmps38, Try.results38, e5, f3, f4, f5]
      exact ⟨⟨n + 1, _⟩, by simp only; omega, by simp only; omega, by repeat constructor, by rw [bl_succ, hk]⟩
  · obtain rfl : n = g.length := by omega
    simp only [run0, run1, run2, run3, run4, run5, run6, run7, run8, run9, run10, run11, run12, run13, run14, run15, run16, run17, run18, run19, run20, run21, run22, reduceCtorEq, Nat.reduceEqDiff, Nat.reduceAdd, Nat.reduceSub, Nat.reduceLeDiff, indexAddrA, indexRefA, appendA, strA, Nat.reduceMul, Nat.zero_mul, Nat.reduceMod, Int.reduceEq, Int.reduceLT, Int.reduceLE, Nat.reduceLT, Nat.lt_irrefl, Nat.reduceBEq, tys0, tys1, tys2, tys3, tys4, tys5, tys6, tys7, tys8, tys9, tys10, Try.ntmps38, Try.results38, Int.lt_irrefl]
    exact Fin.value (Vw_bools rfl rfl (bl_len _ _).symm)
theorem bl_but {n set i : Nat} (hs : set < 2 ^ 14) (hi : i < n) : (bools (bl n set.testBit)).set i (.bool false) = bools (bl n (andNot set (1 <<< i)).testBit) := by
  apply List.ext_getElem?
  intro j
  by_cases hj : j < n
  · rw [bl_get hj, andNot_one hs]
    by_cases e : i = j
    · subst e
      rw [List.getElem?_set_self (by rw [bls_len]; exact hi)]
      simp [butK]
    · rw [List.getElem?_set_ne e, bl_get hj]
      have e2 : (j != i) = true := by simp; omega
      simp [butK, e2]
  · rw [List.getElem?_eq_none (by rw [List.length_set, bls_len]; omega), List.getElem?_eq_none (by rw [bls_len]; omega)]
theorem grCut_ok (g : GTw) (hg : Pic g) (set i : Nat) (hs : set < 2 ^ 14) (hi : i < g.length) : Ct Try.prog 41 [.sl false (g.map twE), .sl false (bools (bl g.length set.testBit)), .int .i64 i] [] (.sl false (bools (bl g.length (cutS g set i).testBit))) [] := by
  have hgl := hg.1
  have f3 : g.length ≤ 137438953472 := by omega
  have f4 := bools_noOwn (bl g.length set.testBit)
  have f5 : ((bools (bl g.length set.testBit)).all fun z => z.cells.length == 1) = true := by
    refine List.all_eq_true.2 fun e he => ?_
    obtain ⟨y, _, rfl⟩ := List.mem_map.1 he
    rfl
  have f6 := bls_len g.length set.testBit
  have f7 : (i : Int) < (g.length : Int) := by omega
  have f8 := bl_get (p := set.testBit) hi
  have f9 := bl_but (n := g.length) hs hi
  have cg := grGround_ok g hg (andNot set (1 <<< i)).testBit
  have hpu := twE_pure g
  have hpb := bools_pure (bl g.length (andNot set (1 <<< i)).testBit)
  refine Ct.intro Try.func41 rfl ?_
  refine AWp.seq ?_
  refine W.sound hmix (E := []) ?_
  simp only [run0, run1, run2, run3, run4, run5, run6, run7, run8, run9, run10, run11, run12, run13, run14, run15, run16, run17, run18, run19, run20, run21, run22, reduceCtorEq, Nat.reduceEqDiff, Nat.reduceAdd, Nat.reduceSub, Nat.reduceLeDiff, indexAddrA, indexRefA, appendA, strA, Nat.reduceMul, Nat.zero_mul, Nat.reduceMod, Int.reduceEq, Int.reduceLT, Int.reduceLE, Nat.reduceLT, Nat.lt_irrefl, Nat.reduceBEq, tys0, tys1, tys2, tys3, tys4, tys5, tys6, tys7, tys8, tys9, tys10, Try.ntmps41, Try.results41]
  refine AWp.seq ?_
  refine W.sound hmix (E := []) ?_
  simp only [run0, run1, run2, run3, run4, run5, run6, run7, run8, run9, run10, run11, run12, run13, run14, run15, run16, run17, run18, run19, run20, run21, run22, reduceCtorEq, Nat.reduceEqDiff, Nat.reduceAdd, Nat.reduceSub, Nat.reduceLeDiff, indexAddrA, indexRefA, appendA, strA, Nat.reduceMul, Nat.zero_mul, Nat.reduceMod, Int.reduceEq, Int.reduceLT, Int.reduceLE, Nat.reduceLT, Nat.lt_irrefl, Nat.reduceBEq, tys0, tys1, tys2, tys3, tys4, tys5, tys6, tys7, tys8, tys9, tys10, Try.ntmps41, Try.results41, f3, f4, f5, f6, Nat.zero_add, List.nil_append]
  refine AWp.seq ?_
  refine W.sound hmix (E := []) ?_
  simp only [run0, run1, run2, run3, run4, run5, run6, run7, run8, run9, run10, run11, run12, run13, run14, run15, run16, run17, run18, run19, run20, run21, run22, reduceCtorEq, Nat.reduceEqDiff, Nat.reduceAdd, Nat.reduceSub, Nat.reduceLeDiff, indexAddrA, indexRefA, appendA, strA, Nat.reduceMul, Nat.zero_mul, Nat.reduceMod, Int.reduceEq, Int.reduceLT, Int.reduceLE, Nat.reduceLT, Nat.lt_irrefl, Nat.reduceBEq, tys0, tys1, tys2, tys3, tys4, tys5, tys6, tys7, tys8, tys9, tys10, Try.ntmps41, Try.results41, f3, f4, f5, f6, f7, f8, f9, Nat.zero_add, List.nil_append, Int.toNat_natCast, Int.natCast_nonneg, setE]
  refine AWp.freezeAll (t' := [.sl false (g.map twE), .junk, .junk, .junk, .junk, .junk, .junk, .sl false (bools (bl g.length (andNot set (1 <<< i)).testBit)), .junk, .junk, .junk, .junk, .junk, .junk, .junk, .junk, .junk]) ?_ ?_ ?_
  · repeat' first | exact FrL.nil | apply FrL.drop | apply FrL.cons
    · exact FrV.pur' (show pureB (.sl false (g.map twE)) = true by simp only [pureB, hpu])
    · exact FrV_bools (vecs_mem.2 ⟨_, _, _, _, rfl⟩) rfl (bl_len _ _).symm
  · intro o ho
    simp only [List.mem_cons, List.not_mem_nil, or_false] at ho
    subst ho
    exact .inl rfl
  refine W.sound hmix (E := []) ?_
  simp only [run0, run1, run2, run3, run4, run5, run6, run7, run8, run9, run10, run11, run12, run13, run14, run15, run16, run17, run18, run19, run20, run21, run22, reduceCtorEq, Nat.reduceEqDiff, Nat.reduceAdd, Nat.reduceSub, Nat.reduceLeDiff, indexAddrA, indexRefA, appendA, strA, Nat.reduceMul, Nat.zero_mul, Nat.reduceMod, Int.reduceEq, Int.reduceLT, Int.reduceLE, Nat.reduceLT, Nat.lt_irrefl, Nat.reduceBEq, tys0, tys1, tys2, tys3, tys4, tys5, tys6, tys7, tys8, tys9, tys10, Try.ntmps41, Try.results41]
  refine RunL.callp rfl rfl ok_f38 cg (by simp only [pureL, pureB, hpu, hpb, Bool.and_self]) rfl ?_
  simp only [run0, run1, run2, run3, run4, run5, run6, run7, run8, run9, run10, run11, run12, run13, run14, run15, run16, run17, run18, run19, run20, run21, run22, reduceCtorEq, Nat.reduceEqDiff, Nat.reduceAdd, Nat.reduceSub, Nat.reduceLeDiff, indexAddrA, indexRefA, appendA, strA, Nat.reduceMul, Nat.zero_mul, Nat.reduceMod, Int.reduceEq, Int.reduceLT, Int.reduceLE, Nat.reduceLT, Nat.lt_irrefl, Nat.reduceBEq, tys0, tys1, tys2, tys3, tys4, tys5, tys6, tys7, tys8, tys9, tys10, Try.ntmps41, Try.results41]
  exact Fin.eq rfl (by simp only [pureB, bools_pure])
theorem shl_i64 {a : Nat} (ha : a < 32) : IntKind.i64.wrap (1 * 2 ^ min a IntKind.i64.bits) = ((2 ^ a : Nat) : Int) := by
  have hp : 2 ^ a ≤ 2 ^ 31 := Nat.pow_le_pow_right (by omega) (by omega)
  have e : min a IntKind.i64.bits = a := Nat.min_eq_left (by show a ≤ 64; omega)
  rw [e, Int.one_mul]
  have : ((2 : Int) ^ a) = ((2 ^ a : Nat) : Int) := by simp
  rw [this]
  generalize 2 ^ a = B at *
  exact s64_id (by omega) (by omega)
theorem mod_bit (x k : Nat) : x % 2 ^ (k + 1) = x % 2 ^ k + (if x.testBit k then 2 ^ k else 0) := by
  rw [Nat.mod_pow_succ, Nat.testBit_eq_decide_div_mod_eq]
  rcases Nat.mod_two_eq_zero_or_one (x / 2 ^ k) with h | h <;> simp [h]
theorem grMask_ok (n set : Nat) (hn : n ≤ 14) (hs : set < 2 ^ n) : Ct Try.prog 55 [.sl false (bools (bl n set.testBit))] [] (.int .i64 set) [] := by
  have f6 := bls_len n set.testBit
  refine Ct.by_ hmix [] Try.func55 rfl ?_
  simp only [run0, run1, run2, run3, run4, run5, run6, run7, run8, run9, run10, run11, run12, run13, run14, run15, run16, run17, run18, run19, run20, run21, run22, reduceCtorEq, Nat.reduceEqDiff, Nat.reduceAdd, Nat.reduceSub, Nat.reduceLeDiff, indexAddrA, indexRefA, appendA, strA, Nat.reduceMul, Nat.zero_mul, Nat.reduceMod, Int.reduceEq, Int.reduceLT, Int.reduceLE, Nat.reduceLT, Nat.lt_irrefl, Nat.reduceBEq, tys0, tys1, tys2, tys3, tys4, tys5, tys6, tys7, tys8, tys9, tys10, Try.ntmps55, Try.results55, f6]
  refine AWp.loop_inv (ι := Nat) (fun k => ⟨[.sl false (bools (bl n set.testBit)), .junk, .junk, .int .i64 ((set % 2 ^ k : Nat) : Int), .junk, .junk, .sl false (bools (bl n set.testBit)), .int .i64 n, .int .i64 k, .junk, .junk, .junk, .junk, .junk, .junk, .junk, .junk, .junk, .junk, .junk], []⟩)
    (fun k => k ≤ n) (fun k => n - k) 0 (Nat.zero_le _) ⟨by simp only [Int.natCast_zero, Nat.pow_zero, Nat.mod_one]; repeat constructor, rfl⟩ ?_
  intro k hk
  refine W.sound hmix (E := []) ?_
  by_cases h : k < n
  · have e1 : (k : Int) < (n : Int) := by omega
    have e3 := bl_get (p := set.testBit) h
    have e5 : IntKind.i64.wrap ((k : Int) + 1) = ((k + 1 : Nat) : Int) := by rw [s64_id (by omega) (by omega)]; simp
    have hm := mod_bit set k
    have hsh := shl_i64 (a := k) (by omega)
    have hp1 : 2 ^ k ≤ 2 ^ 14 := Nat.pow_le_pow_right (by omega) (by omega)
    have hml : set % 2 ^ k < 2 ^ k := Nat.mod_lt _ (Nat.two_pow_pos k)
    cases hb : set.testBit k
    · rw [hb] at e3 hm
      have hm : set % 2 ^ (k + 1) = set % 2 ^ k := by simpa using hm
      simp only [run0, run1, run2, run3, run4, run5, run6, run7, run8, run9, run10, run11, run12, run13, run14, run15, run16, run17, run18, run19, run20, run21, run22, reduceCtorEq, Nat.reduceEqDiff, Nat.reduceAdd, Nat.reduceSub, Nat.reduceLeDiff, indexAddrA, indexRefA, appendA, strA, Nat.reduceMul, Nat.zero_mul, Nat.reduceMod, Int.reduceEq, Int.reduceLT, Int.reduceLE, Nat.reduceLT, Nat.lt_irrefl, Nat.reduceBEq, tys0, tys1, tys2, tys3, tys4, tys5, tys6, tys7, tys8, tys9, tys10, Try.ntmps55, Try.results55, e1, e3, e5, Int.toNat_natCast, Int.natCast_nonneg]
      exact ⟨k + 1, by omega, by omega, by rw [hm]; repeat constructor⟩
    · rw [hb] at e3 hm
      have hm : set % 2 ^ (k + 1) = set % 2 ^ k + 2 ^ k := by simpa using hm
      have hw : IntKind.i64.wrap (((set % 2 ^ k : Nat) : Int) + ((2 ^ k : Nat) : Int)) = ((set % 2 ^ k + 2 ^ k : Nat) : Int) := by
        rw [s64_id (by omega) (by omega)]; simp
      generalize set % 2 ^ k = A at *
      generalize hB : 2 ^ k = B at *
      simp only [run0, run1, run2, run3, run4, run5, run6, run7, run8, run9, run10, run11, run12, run13, run14, run15, run16, run17, run18, run19, run20, run21, run22, reduceCtorEq, Nat.reduceEqDiff, Nat.reduceAdd, Nat.reduceSub, Nat.reduceLeDiff, indexAddrA, indexRefA, appendA, strA, Nat.reduceMul, Nat.zero_mul, Nat.reduceMod, Int.reduceEq, Int.reduceLT, Int.reduceLE, Nat.reduceLT, Nat.lt_irrefl, Nat.reduceBEq, tys0, tys1, tys2, tys3, tys4, tys5, tys6, tys7, tys8, tys9, tys10, Try.ntmps55, Try.results55, e1, e3, e5, hsh, hw, Int.toNat_natCast, Int.natCast_nonneg]
      exact ⟨k + 1, by omega, by omega, by rw [hm]; repeat constructor⟩
  · obtain rfl : k = n := by omega
    rw [Nat.mod_eq_of_lt hs]
    simp only [run0, run1, run2, run3, run4, run5, run6, run7, run8, run9, run10, run11, run12, run13, run14, run15, run16, run17, run18, run19, run20, run21, run22, reduceCtorEq, Nat.reduceEqDiff, Nat.reduceAdd, Nat.reduceSub, Nat.reduceLeDiff, indexAddrA, indexRefA, appendA, strA, Nat.reduceMul, Nat.zero_mul, Nat.reduceMod, Int.reduceEq, Int.reduceLT, Int.reduceLE, Nat.reduceLT, Nat.lt_irrefl, Nat.reduceBEq, tys0, tys1, tys2, tys3, tys4, tys5, tys6, tys7, tys8, tys9, tys10, Try.ntmps55, Try.results55, Int.lt_irrefl]
    exact Fin.eq rfl rfl
theorem grMex_ok (l : List Nat) (m : Nat) (hl : l.length ≤ 1000) (hm : m ≤ 1000) (h1 : ∀ v, v < m → v ∈ l) (h2 : m ∉ l) : Ct Try.prog 56 [.sl false (nats l)] [] (.int .i64 m) [] := by
  have hpn := nats_pure l
  refine Ct.by_ hmix [] Try.func56 rfl ?_
  simp only [run0, run1, run2, run3, run4, run5, run6, run7, run8, run9, run10, run11, run12, run13, run14, run15, run16, run17, run18, run19, run20, run21, run22, reduceCtorEq, Nat.reduceEqDiff, Nat.reduceAdd, Nat.reduceSub, Nat.reduceLeDiff, indexAddrA, indexRefA, appendA, strA, Nat.reduceMul, Nat.zero_mul, Nat.reduceMod, Int.reduceEq, Int.reduceLT, Int.reduceLE, Nat.reduceLT, Nat.lt_irrefl, Nat.reduceBEq, tys0, tys1, tys2, tys3, tys4, tys5, tys6, tys7, tys8, tys9, tys10, Try.ntmps56, Try.results56]
  refine AWp.loop_inv (ι := Nat) (fun k => ⟨[.sl false (nats l), .junk, .junk, .int .i64 k, .junk, .junk, .junk, .junk, .junk, .junk], []⟩)
    (fun k => k ≤ m) (fun k => m - k) 0 (Nat.zero_le _) ⟨by simp only [Int.natCast_zero]; repeat constructor, rfl⟩ ?_
  intro k hk
  refine W.sound hmix (E := []) ?_
  have hc := hasN_ok l k (by omega)
  have e5 : IntKind.i64.wrap ((k : Int) + 1) = ((k + 1 : Nat) : Int) := by rw [s64_id (by omega) (by omega)]; simp
  by_cases h : k < m
  · have : l.contains k = true := List.contains_iff_mem.2 (h1 k h)
    rw [this] at hc
    simp only [run0, run1, run2, run3, run4, run5, run6, run7, run8, run9, run10, run11, run12, run13, run14, run15, run16, run17, run18, run19, run20, run21, run22, reduceCtorEq, Nat.reduceEqDiff, Nat.reduceAdd, Nat.reduceSub, Nat.reduceLeDiff, indexAddrA, indexRefA, appendA, strA, Nat.reduceMul, Nat.zero_mul, Nat.reduceMod, Int.reduceEq, Int.reduceLT, Int.reduceLE, Nat.reduceLT, Nat.lt_irrefl, Nat.reduceBEq, tys0, tys1, tys2, tys3, tys4, tys5, tys6, tys7, tys8, tys9, tys10, Try.ntmps56, Try.results56]
    refine RunL.callp rfl rfl ok_f54 hc (by simp only [pureL, pureB, hpn, Bool.and_self]) rfl ?_
    simp only [run0, run1, run2, run3, run4, run5, run6, run7, run8, run9, run10, run11, run12, run13, run14, run15, run16, run17, run18, run19, run20, run21, run22, reduceCtorEq, Nat.reduceEqDiff, Nat.reduceAdd, Nat.reduceSub, Nat.reduceLeDiff, indexAddrA, indexRefA, appendA, strA, Nat.reduceMul, Nat.zero_mul, Nat.reduceMod, Int.reduceEq, Int.reduceLT, Int.reduceLE, Nat.reduceLT, Nat.lt_irrefl, Nat.reduceBEq, tys0, tys1, tys2, tys3, tys4, tys5, tys6, tys7, tys8, tys9, tys10, Try.ntmps56, Try.results56, e5]
    exact ⟨k + 1, by omega, by omega, by repeat constructor⟩
  · obtain rfl : k = m := by omega
    have : l.contains k = false := by
      cases hq : l.contains k
      · rfl
      · exact absurd (List.contains_iff_mem.1 hq) h2
    rw [this] at hc
    simp only [run0, run1, run2, run3, run4, run5, run6, run7, run8, run9, run10, run11, run12, run13, run14, run15, run16, run17, run18, run19, run20, run21, run22, reduceCtorEq, Nat.reduceEqDiff, Nat.reduceAdd, Nat.reduceSub, Nat.reduceLeDiff, indexAddrA, indexRefA, appendA, strA, Nat.reduceMul, Nat.zero_mul, Nat.reduceMod, Int.reduceEq, Int.reduceLT, Int.reduceLE, Nat.reduceLT, Nat.lt_irrefl, Nat.reduceBEq, tys0, tys1, tys2, tys3, tys4, tys5, tys6, tys7, tys8, tys9, tys10, Try.ntmps56, Try.results56]
    refine RunL.callp rfl rfl ok_f54 hc (by simp only [pureL, pureB, hpn, Bool.and_self]) rfl ?_
    simp only [run0, run1, run2, run3, run4, run5, run6, run7, run8, run9, run10, run11, run12, run13, run14, run15, run16, run17, run18, run19, run20, run21, run22, reduceCtorEq, Nat.reduceEqDiff, Nat.reduceAdd, Nat.reduceSub, Nat.reduceLeDiff, indexAddrA, indexRefA, appendA, strA, Nat.reduceMul, Nat.zero_mul, Nat.reduceMod, Int.reduceEq, Int.reduceLT, Int.reduceLE, Nat.reduceLT, Nat.lt_irrefl, Nat.reduceBEq, tys0, tys1, tys2, tys3, tys4, tys5, tys6, tys7, tys8, tys9, tys10, Try.ntmps56, Try.results56]
    exact Fin.eq rfl rfl

end Go.Proofs.Ytobdpkkmkbafbaa
/-
  Green pictures by the reference: the value by play.
-/
namespace Go.Proofs.Ytobdpkkmkbafbaa
open Go K
set_option linter.unusedSimpArgs false
set_option linter.unusedVariables false
set_option maxHeartbeats 3200000
set_option maxRecDepth 8000

/-- The values that the cuts of the first twigs leave. -/
noncomputable def vals (g : GTw) (set : Nat) : Nat → List Nat
  | 0 => []
  | n + 1 => if set.testBit n then vals g set n ++ [vB g (cutS g set n)] else vals g set n
theorem vals_len (g : GTw) (set : Nat) : ∀ n, (vals g set n).length ≤ n
  | 0 => Nat.le_refl _
  | n + 1 => by
    have := vals_len g set n
    unfold vals; split
    · simp; omega
    · omega
theorem vals_mem {g : GTw} {set v : Nat} : ∀ {n : Nat}, v ∈ vals g set n ↔ ∃ i, i < n ∧ set.testBit i = true ∧ vB g (cutS g set i) = v
  | 0 => by simp [vals]
  | n + 1 => by
    have ih := vals_mem (g := g) (set := set) (v := v) (n := n)
    unfold vals
    by_cases h : set.testBit n = true
    · rw [if_pos h, List.mem_append, ih]
      constructor
      · rintro (⟨i, h1, h2, h3⟩ | h1)
        · exact ⟨i, by omega, h2, h3⟩
        · simp at h1; exact ⟨n, by omega, h, h1.symm⟩
      · rintro ⟨i, h1, h2, h3⟩
        rcases Nat.lt_succ_iff_lt_or_eq.1 h1 with h1 | rfl
        · exact .inl ⟨i, h1, h2, h3⟩
        · exact .inr (by simp [h3])
    · rw [if_neg h, ih]
      constructor
      · rintro ⟨i, h1, h2, h3⟩; exact ⟨i, by omega, h2, h3⟩
      · rintro ⟨i, h1, h2, h3⟩
        rcases Nat.lt_succ_iff_lt_or_eq.1 h1 with h1 | rfl
        · exact ⟨i, h1, h2, h3⟩
        · exact absurd h2 h
theorem vals_mex {g : GTw} {set : Nat} (hs : GSet g set) : (∀ v, v < vB g set → v ∈ vals g set g.length) ∧ vB g set ∉ vals g set g.length := by
  constructor
  · intro v hv
    obtain ⟨i, hc, hval⟩ := vS_lt hv
    obtain ⟨a, b, hT⟩ := hc
    exact vals_mem.2 ⟨i, hT.lt, hT.2.1, by rw [vB_cut hs.lt, hval]⟩
  · intro h
    obtain ⟨i, h1, h2, h3⟩ := vals_mem.1 h
    rw [vB_cut hs.lt] at h3
    exact absurd h3 (vS_ne (hs.cn h2))
/-- The reference's table of values (with 1 added). -/
noncomputable def gT (g : GTw) : Nat → List Nat → Nat → List Nat
  | 0, T, _ => T
  | f + 1, T, set => if 0 < T.getD set 0 then T else ((List.range g.length).foldl (fun T i => if set.testBit i then gT g f T (cutS g set i) else T) T).set set (vB g set + 1)
structure TabOk (g : GTw) (T : List Nat) : Prop where
  len : T.length = 2 ^ g.length
  ok : ∀ s v, T[s]? = some v → 0 < v → v = vB g s + 1
theorem TabOk.put {g : GTw} {T : List Nat} (h : TabOk g T) (s : Nat) : TabOk g (T.set s (vB g s + 1)) := by
  refine ⟨by rw [List.length_set, h.len], fun s2 v hv h0 => ?_⟩
  by_cases e : s = s2
  · subst e
    by_cases hl : s < T.length
    · rw [List.getElem?_set_self hl] at hv; cases hv; rfl
    · rw [List.getElem?_eq_none (by rw [List.length_set]; omega)] at hv; cases hv
  · rw [List.getElem?_set_ne e] at hv
    exact h.ok s2 v hv h0
theorem fold_tab {g : GTw} {F : List Nat → Nat → List Nat} (hF : ∀ m i, TabOk g m → TabOk g (F m i)) : ∀ (l : List Nat) (m : List Nat), TabOk g m → TabOk g (l.foldl F m)
  | [], m, h => h
  | i :: l, m, h => fold_tab hF l (F m i) (hF m i h)
theorem gT_ok {g : GTw} : ∀ (f : Nat) (T : List Nat) (set : Nat), TabOk g T → TabOk g (gT g f T set)
  | 0, T, set, h => h
  | f + 1, T, set, h => by
    unfold gT
    split
    · exact h
    · refine TabOk.put (fold_tab (fun m i hm => ?_) _ _ h) set
      split
      · exact gT_ok f m _ hm
      · exact hm
theorem GSet.ltn {g : GTw} {set : Nat} (h : GSet g set) : set < 2 ^ g.length := by
  refine Nat.lt_pow_two_of_testBit _ fun i hi => ?_
  cases hb : set.testBit i
  · rfl
  · obtain ⟨a, b, h1, _⟩ := h.grd i hb
    have := (List.getElem?_eq_some_iff.1 h1).1
    omega
def tabO (gen : Nat) (T : List Nat) : AObj := .vec 3 1 gen (nats T)
theorem nats_flat (T : TypeId) (z gen : Nat) (l : List Nat) : flatO (.vec T z gen (nats l)) = true := by
  have h : ((nats l).all fun e => e.cells.all pureB) = true := by
    refine List.all_eq_true.2 fun e he => ?_
    obtain ⟨n, _, rfl⟩ := List.mem_map.1 he
    rfl
  simp only [flatO, h, nats_noOwn, Bool.and_self]
structure GpS where
  n : Nat
  T : List Nat
theorem grPlay_ok (g : GTw) (hg : Pic g) (gen : Nat) : ∀ (f set : Nat) (T : List Nat), GSet g set → szB g set < f → TabOk g T → ∀ (L : List AObj) (id : Nat), L[id]? = some (tabO gen T) → L.all flatO = true →
    Ct Try.prog 40 [.sl false (g.map twE), .sl false (bools (bl g.length set.testBit)), .ref id [] gen (2 ^ g.length)] L (.int .i64 (vB g set : Nat)) (L.set id (tabO gen (gT g f T set)))
  | 0, set, T, _, h, _, _, _, _, _ => absurd h (Nat.not_lt_zero _)
  | f + 1, set, T, hs, hf, hT, L, id, hL, hfl => by
    have hgl := hg.1
    have hpu := twE_pure g
    have hpb := bools_pure (bl g.length set.testBit)
    have hml := (List.getElem?_eq_some_iff.1 hL).1
    have hst := hs.lt
    have hsn := hs.ltn
    have hp2 : 2 ^ g.length ≤ 2 ^ 14 := Nat.pow_le_pow_right (by omega) hgl
    have hvl := vB_le g set
    have hTl := hT.len
    have cm := grMask_ok g.length set hgl hsn
    have hw1 : IntKind.i64.wrap ((vB g set : Int) + 1) = ((vB g set + 1 : Nat) : Int) := by rw [s64_id (by omega) (by omega)]; simp
    have hw2 : IntKind.i64.wrap (((vB g set + 1 : Nat) : Int) - 1) = (vB g set : Int) := by rw [s64_id (by omega) (by omega)]; omega
    have hN : (nats T).length = 2 ^ g.length := by rw [nats_len, hTl]
    obtain ⟨v, hv⟩ : ∃ v, T[set]? = some v := ⟨T[set]'(by omega), by simp [hTl, hsn]⟩
    have hnv : (nats T)[set]? = some (.int .i64 (v : Int)) := by unfold nats; rw [List.getElem?_map, hv]; rfl
    have hsz : (set : Int) < ((2 ^ g.length : Nat) : Int) := by omega
    have hgd : T.getD set 0 = v := by rw [List.getD_eq_getElem?_getD, hv]; rfl
    unfold tabO at hL
    generalize hP : 2 ^ g.length = P at *
    refine Ct.by_ hmix [] Try.func40 rfl ?_
    simp only [run0, run1, run2, run3, run4, run5, run6, run7, run8, run9, run10, run11, run12, run13, run14, run15, run16, run17, run18, run19, run20, run21, run22, reduceCtorEq, Nat.reduceEqDiff, Nat.reduceAdd, Nat.reduceSub, Nat.reduceLeDiff, indexAddrA, indexRefA, appendA, strA, Nat.reduceMul, Nat.zero_mul, Nat.reduceMod, Int.reduceEq, Int.reduceLT, Int.reduceLE, Nat.reduceLT, Nat.lt_irrefl, Nat.reduceBEq, tys0, tys1, tys2, tys3, tys4, tys5, tys6, tys7, tys8, tys9, tys10, Try.ntmps40, Try.results40]
    refine RunL.callp rfl rfl ok_f55 cm (by simp only [pureL, pureB, hpb, Bool.and_self]) rfl ?_
    simp only [run0, run1, run2, run3, run4, run5, run6, run7, run8, run9, run10, run11, run12, run13, run14, run15, run16, run17, run18, run19, run20, run21, run22, reduceCtorEq, Nat.reduceEqDiff, Nat.reduceAdd, Nat.reduceSub, Nat.reduceLeDiff, indexAddrA, indexRefA, appendA, strA, Nat.reduceMul, Nat.zero_mul, Nat.reduceMod, Int.reduceEq, Int.reduceLT, Int.reduceLE, Nat.reduceLT, Nat.lt_irrefl, Nat.reduceBEq, tys0, tys1, tys2, tys3, tys4, tys5, tys6, tys7, tys8, tys9, tys10, Try.ntmps40, Try.results40, hL, hN, hnv, hsz, Int.toNat_natCast, Int.natCast_nonneg, List.mapIdx_cons, List.mapIdx_nil, viewC]
    by_cases h0 : 0 < v
    · have hvv := hT.ok set v hv h0
      have hg1 : gT g (f + 1) T set = T := by rw [gT, hgd, if_pos h0]
      have c1 : decide (0 < (v : Int)) = true := by simp; omega
      have hw3 : IntKind.i64.wrap ((v : Int) - 1) = (vB g set : Int) := by rw [s64_id (by omega) (by omega)]; omega
      rw [hg1]
      simp only [run0, run1, run2, run3, run4, run5, run6, run7, run8, run9, run10, run11, run12, run13, run14, run15, run16, run17, run18, run19, run20, run21, run22, reduceCtorEq, Nat.reduceEqDiff, Nat.reduceAdd, Nat.reduceSub, Nat.reduceLeDiff, indexAddrA, indexRefA, appendA, strA, Nat.reduceMul, Nat.zero_mul, Nat.reduceMod, Int.reduceEq, Int.reduceLT, Int.reduceLE, Nat.reduceLT, Nat.lt_irrefl, Nat.reduceBEq, tys0, tys1, tys2, tys3, tys4, tys5, tys6, tys7, tys8, tys9, tys10, Try.ntmps40, Try.results40, c1, hL, hN, hnv, hsz, hw3, Int.toNat_natCast, Int.natCast_nonneg, List.mapIdx_cons, List.mapIdx_nil, viewC]
      exact Fin.own (by unfold tabO; rw [set_eqG hL]) rfl
    have c1 : decide (0 < (v : Int)) = false := by simp; omega
    have hg1 : gT g (f + 1) T set = ((List.range g.length).foldl (fun T i => if set.testBit i then gT g f T (cutS g set i) else T) T).set set (vB g set + 1) := by rw [gT, hgd, if_neg h0]
    have hF : ∀ n, TabOk g ((List.range n).foldl (fun T i => if set.testBit i then gT g f T (cutS g set i) else T) T) := fun n => fold_tab (fun m i hm => by
      split
      · exact gT_ok f m _ hm
      · exact hm) _ _ hT
    rw [hg1]
    simp only [run0, run1, run2, run3, run4, run5, run6, run7, run8, run9, run10, run11, run12, run13, run14, run15, run16, run17, run18, run19, run20, run21, run22, reduceCtorEq, Nat.reduceEqDiff, Nat.reduceAdd, Nat.reduceSub, Nat.reduceLeDiff, indexAddrA, indexRefA, appendA, strA, Nat.reduceMul, Nat.zero_mul, Nat.reduceMod, Int.reduceEq, Int.reduceLT, Int.reduceLE, Nat.reduceLT, Nat.lt_irrefl, Nat.reduceBEq, tys0, tys1, tys2, tys3, tys4, tys5, tys6, tys7, tys8, tys9, tys10, Try.ntmps40, Try.results40, c1, List.length_map]
    refine AWp.nil 8 3 1 rfl ?_
    refine AWp.loop_inv (ι := GpS) (fun q => ⟨[.sl false (g.map twE), .sl false (bools (bl g.length set.testBit)), .ref id [] gen P, .junk, .junk, .junk, .junk, .int .i64 set, .ref L.length [] (vals g set q.n).length (vals g set q.n).length, .junk, .junk, .junk, .junk, .junk, .junk, .junk, .junk, .junk, .junk, .junk, .junk, .junk, .junk, .int .i64 g.length, .int .i64 q.n, .junk, .junk, .junk, .junk, .junk, .junk, .junk, .junk, .junk, .junk, .junk, .junk, .junk, .junk, .junk, .junk, .junk, .junk, .junk, .junk, .junk, .junk, .junk, .junk, .junk, .junk, .junk, .junk], L.set id (tabO gen q.T) ++ [.vec 3 1 (vals g set q.n).length (nats (vals g set q.n))]⟩)
      (fun q => q.n ≤ g.length ∧ q.T = (List.range q.n).foldl (fun T i => if set.testBit i then gT g f T (cutS g set i) else T) T) (fun q => g.length - q.n) ⟨0, T⟩ ⟨Nat.zero_le _, rfl⟩
      ⟨by simp only [Int.natCast_zero]; repeat constructor, by unfold tabO; rw [set_eqG hL]; rfl⟩ ?_
    rintro ⟨n, T1⟩ ⟨hn, hT1⟩
    refine W.sound hmix (E := []) ?_
    simp only at hn hT1
    have hT1k : TabOk g T1 := by rw [hT1]; exact hF n
    have hN1 : (nats T1).length = P := by rw [nats_len, hT1k.len, hP]
    have hgA : ∀ (M : List AObj) (o : AObj), M.length = L.length → (M ++ [o])[L.length]? = some o := fun M o hM => by rw [List.getElem?_append_right (by omega), hM, Nat.sub_self]; rfl
    have hsA : ∀ (M : List AObj) (o o' : AObj), M.length = L.length → (M ++ [o]).set L.length o' = M ++ [o'] := fun M o o' hM => by rw [List.set_append_right _ _ (by omega), hM, Nat.sub_self]; rfl
    have hgT : ∀ (o X : AObj), (L.set id X ++ [o])[id]? = some X := fun o X => by rw [List.getElem?_append_left (by simpa using hml), List.getElem?_set_self hml]
    have hsT : ∀ (o X Y : AObj), (L.set id X ++ [o]).set id Y = L.set id Y ++ [o] := fun o X Y => by rw [List.set_append_left _ _ (by simpa using hml), List.set_set]
    have hla : ∀ X : AObj, (L.set id X).length = L.length := fun X => by simp
    by_cases hnl : n < g.length
    case neg =>
      obtain rfl : n = g.length := by omega
      have e1 : ¬ ((g.length : Int) < (g.length : Int)) := by omega
      obtain ⟨q1, q2⟩ := vals_mex hs
      have hvn := vals_len g set g.length
      have cmx := grMex_ok (vals g set g.length) (vB g set) (by omega) (by omega) q1 q2
      have hvw : Vw (L.set id (tabO gen T1) ++ [.vec 3 1 (vals g set g.length).length (nats (vals g set g.length))]) (.ref L.length [] (vals g set g.length).length (vals g set g.length).length) (.sl false (nats (vals g set g.length))) := Vw_nats (hgA _ _ (hla _)) rfl rfl
      have hn0 := nats_noOwn T1
      have hst2 : (nats T1).set set (.int .i64 ((vB g set + 1 : Nat) : Int)) = nats (T1.set set (vB g set + 1)) := by simp [nats, List.map_set]
      have hN2 : (nats (T1.set set (vB g set + 1))).length = P := by rw [nats_len, List.length_set, hT1k.len, hP]
      have hg2 : (nats (T1.set set (vB g set + 1)))[set]? = some (.int .i64 ((vB g set + 1 : Nat) : Int)) := by
        unfold nats; rw [List.getElem?_map, List.getElem?_set_self (by rw [hT1k.len, hP]; exact hsn)]; rfl
      obtain ⟨v1, hv1⟩ : ∃ v, T1[set]? = some v := ⟨T1[set]'(by rw [hT1k.len, hP]; exact hsn), by simp [hT1k.len, hP, hsn]⟩
      have hnv1 : (nats T1)[set]? = some (.int .i64 (v1 : Int)) := by unfold nats; rw [List.getElem?_map, hv1]; rfl
      simp only [run0, run1, run2, run3, run4, run5, run6, run7, run8, run9, run10, run11, run12, run13, run14, run15, run16, run17, run18, run19, run20, run21, run22, reduceCtorEq, Nat.reduceEqDiff, Nat.reduceAdd, Nat.reduceSub, Nat.reduceLeDiff, indexAddrA, indexRefA, appendA, strA, Nat.reduceMul, Nat.zero_mul, Nat.reduceMod, Int.reduceEq, Int.reduceLT, Int.reduceLE, Nat.reduceLT, Nat.lt_irrefl, Nat.reduceBEq, tys0, tys1, tys2, tys3, tys4, tys5, tys6, tys7, tys8, tys9, tys10, Try.ntmps40, Try.results40, e1]
      refine RunL.lendV rfl rfl ok_f56 rfl cmx (.cons hvw .nil) rfl rfl ?_
      unfold tabO
      simp only [run0, run1, run2, run3, run4, run5, run6, run7, run8, run9, run10, run11, run12, run13, run14, run15, run16, run17, run18, run19, run20, run21, run22, reduceCtorEq, Nat.reduceEqDiff, Nat.reduceAdd, Nat.reduceSub, Nat.reduceLeDiff, indexAddrA, indexRefA, appendA, strA, Nat.reduceMul, Nat.zero_mul, Nat.reduceMod, Int.reduceEq, Int.reduceLT, Int.reduceLE, Nat.reduceLT, Nat.lt_irrefl, Nat.reduceBEq, tys0, tys1, tys2, tys3, tys4, tys5, tys6, tys7, tys8, tys9, tys10, Try.ntmps40, Try.results40, hw1, hgT, hsT, hN1, hnv1, hsz, hn0, hst2, hN2, hg2, hw2, Int.toNat_natCast, Int.natCast_nonneg, setE, List.mapIdx_cons, List.mapIdx_nil, viewC]
      rw [← hT1]
      refine Fin.trim (by simp) ?_ rfl rfl
      refine List.all_eq_true.2 fun o ho => ?_
      rcases List.mem_or_eq_of_mem_set ho with ho | rfl
      · exact List.all_eq_true.1 hfl o ho
      · exact nats_flat _ _ _ _
    have e1 : (n : Int) < (g.length : Int) := by omega
    have e3 := bl_get (p := set.testBit) hnl
    have e5 : IntKind.i64.wrap ((n : Int) + 1) = ((n + 1 : Nat) : Int) := by rw [s64_id (by omega) (by omega)]; simp
    cases c2 : set.testBit n
    · rw [c2] at e3
      have hvs : vals g set (n + 1) = vals g set n := by simp [vals, c2]
      simp only [run0, run1, run2, run3, run4, run5, run6, run7, run8, run9, run10, run11, run12, run13, run14, run15, run16, run17, run18, run19, run20, run21, run22, reduceCtorEq, Nat.reduceEqDiff, Nat.reduceAdd, Nat.reduceSub, Nat.reduceLeDiff, indexAddrA, indexRefA, appendA, strA, Nat.reduceMul, Nat.zero_mul, Nat.reduceMod, Int.reduceEq, Int.reduceLT, Int.reduceLE, Nat.reduceLT, Nat.lt_irrefl, Nat.reduceBEq, tys0, tys1, tys2, tys3, tys4, tys5, tys6, tys7, tys8, tys9, tys10, Try.ntmps40, Try.results40, e1, e3, e5, Int.toNat_natCast, Int.natCast_nonneg]
      exact ⟨⟨n + 1, T1⟩, ⟨by simp only; omega, by simp only [List.range_succ, List.foldl_append, List.foldl_cons, List.foldl_nil, ← hT1, c2]; rfl⟩, by simp only; omega, by rw [hvs]; repeat constructor, by rw [hvs]⟩
    · rw [c2] at e3
      have hvs : vals g set (n + 1) = vals g set n ++ [vB g (cutS g set n)] := by simp [vals, c2]
      have cs := cutS_ok hg set n
      have hcf : szB g (cutS g set n) < f := by have := szB_cut hst c2 hnl; omega
      have cc := grCut_ok g hg set n hst hnl
      have cp := grPlay_ok g hg gen f (cutS g set n) T1 cs hcf hT1k (L.set id (tabO gen T1) ++ [.vec 3 1 (vals g set n).length (nats (vals g set n))]) id (hgT _ _) (by
        refine List.all_eq_true.2 fun o ho => ?_
        rcases List.mem_append.1 ho with ho | ho
        · rcases List.mem_or_eq_of_mem_set ho with ho | rfl
          · exact List.all_eq_true.1 hfl o ho
          · exact nats_flat _ _ _ _
        · simp only [List.mem_cons, List.not_mem_nil, or_false] at ho
          subst ho; exact nats_flat _ _ _ _)
      rw [hsT, hP] at cp
      have hvn := vals_len g set n
      have f3 : (vals g set n).length + 1 ≤ 137438953472 := by omega
      have f4 := nats_noOwn (vals g set n)
      have f5 := nats_len (vals g set n)
      simp only [run0, run1, run2, run3, run4, run5, run6, run7, run8, run9, run10, run11, run12, run13, run14, run15, run16, run17, run18, run19, run20, run21, run22, reduceCtorEq, Nat.reduceEqDiff, Nat.reduceAdd, Nat.reduceSub, Nat.reduceLeDiff, indexAddrA, indexRefA, appendA, strA, Nat.reduceMul, Nat.zero_mul, Nat.reduceMod, Int.reduceEq, Int.reduceLT, Int.reduceLE, Nat.reduceLT, Nat.lt_irrefl, Nat.reduceBEq, tys0, tys1, tys2, tys3, tys4, tys5, tys6, tys7, tys8, tys9, tys10, Try.ntmps40, Try.results40, e1, e3, Int.toNat_natCast, Int.natCast_nonneg]
      refine RunL.callp rfl rfl ok_f41 cc (by simp only [pureL, pureB, hpu, hpb, Bool.and_self]) rfl ?_
      simp only [run0, run1, run2, run3, run4, run5, run6, run7, run8, run9, run10, run11, run12, run13, run14, run15, run16, run17, run18, run19, run20, run21, run22, reduceCtorEq, Nat.reduceEqDiff, Nat.reduceAdd, Nat.reduceSub, Nat.reduceLeDiff, indexAddrA, indexRefA, appendA, strA, Nat.reduceMul, Nat.zero_mul, Nat.reduceMod, Int.reduceEq, Int.reduceLT, Int.reduceLE, Nat.reduceLT, Nat.lt_irrefl, Nat.reduceBEq, tys0, tys1, tys2, tys3, tys4, tys5, tys6, tys7, tys8, tys9, tys10, Try.ntmps40, Try.results40]
      refine RunL.call rfl rfl rfl ok_f40 rfl (.inl rfl) cp ?_
      simp only [run0, run1, run2, run3, run4, run5, run6, run7, run8, run9, run10, run11, run12, run13, run14, run15, run16, run17, run18, run19, run20, run21, run22, reduceCtorEq, Nat.reduceEqDiff, Nat.reduceAdd, Nat.reduceSub, Nat.reduceLeDiff, indexAddrA, indexRefA, appendA, strA, Nat.reduceMul, Nat.zero_mul, Nat.reduceMod, Int.reduceEq, Int.reduceLT, Int.reduceLE, Nat.reduceLT, Nat.lt_irrefl, Nat.reduceBEq, tys0, tys1, tys2, tys3, tys4, tys5, tys6, tys7, tys8, tys9, tys10, Try.ntmps40, Try.results40, f3, f4, f5, e5, hgA, hsA, hla]
      exact ⟨⟨n + 1, gT g f T1 (cutS g set n)⟩, ⟨by simp only; omega, by simp only [List.range_succ, List.foldl_append, List.foldl_cons, List.foldl_nil, ← hT1, c2]; rfl⟩, by simp only; omega, by rw [hvs]; simp only [List.length_append, List.length_cons, List.length_nil, Nat.zero_add]; repeat constructor, by rw [hvs]; simp [nats]⟩

end Go.Proofs.Ytobdpkkmkbafbaa
/-
  Green pictures by the reference: the value of a picture.
-/
namespace Go.Proofs.Ytobdpkkmkbafbaa
open Go K
set_option linter.unusedSimpArgs false
set_option linter.unusedVariables false
set_option maxHeartbeats 3200000
set_option maxRecDepth 8000

theorem bl_all (n : Nat) : bl n (fun _ => true) = bl n (2 ^ n - 1).testBit := by
  unfold bl
  refine List.map_congr_left fun i hi => ?_
  rw [Nat.testBit_two_pow_sub_one]
  simp at hi
  simp [hi]
theorem bl_allM (g : GTw) : bl g.length (fun _ => true) = bl g.length (allM g).testBit := bl_all _
theorem TabOk.zero (g : GTw) : TabOk g (List.replicate (2 ^ g.length) 0) := by
  refine ⟨by simp, fun s v hv h0 => ?_⟩
  have := List.mem_of_getElem? hv
  have := (List.mem_replicate.1 this).2
  omega
theorem grValue_ok (g : GTw) (hg : Pic g) : Ct Try.prog 36 [.sl false (g.map twE)] [] (.int .i64 (vB g (gSet g) : Nat)) [] := by
  have hgl := hg.1
  have hpu := twE_pure g
  have ca := grAll_ok g hg
  rw [bl_allM] at ca
  have cg := grGround_ok g hg (allM g).testBit
  have hgs : gnd g (allM g).testBit = gSet g := rfl
  rw [hgs] at cg
  have hb1 := bools_pure (bl g.length (allM g).testBit)
  have hb2 := bools_pure (bl g.length (gSet g).testBit)
  have hp2 : 2 ^ g.length ≤ 2 ^ 14 := Nat.pow_le_pow_right (by omega) hgl
  have hsh := shl_i64 (a := g.length) (by omega)
  have hrep : nats (List.replicate (2 ^ g.length) 0) = List.replicate (2 ^ g.length) (.int .i64 0) := by simp [nats]
  have cp := grPlay_ok g hg 0 (szB g (gSet g) + 1) (gSet g) (List.replicate (2 ^ g.length) 0) (grd_set hg _) (by omega) (TabOk.zero g) [tabO 0 (List.replicate (2 ^ g.length) 0)] 0 rfl (by simp only [List.all_cons, List.all_nil, tabO, nats_flat, Bool.and_self])
  unfold tabO at cp
  rw [hrep] at cp
  generalize hP : 2 ^ g.length = P at *
  have m1 : (0 : Int) ≤ (P : Int) := by omega
  have m2 : (P : Int) ≤ 137438953472 := by omega
  refine Ct.by_ hmix [] Try.func36 rfl ?_
  simp only [run0, run1, run2, run3, run4, run5, run6, run7, run8, run9, run10, run11, run12, run13, run14, run15, run16, run17, run18, run19, run20, run21, run22, reduceCtorEq, Nat.reduceEqDiff, Nat.reduceAdd, Nat.reduceSub, Nat.reduceLeDiff, indexAddrA, indexRefA, appendA, strA, Nat.reduceMul, Nat.zero_mul, Nat.reduceMod, Int.reduceEq, Int.reduceLT, Int.reduceLE, Nat.reduceLT, Nat.lt_irrefl, Nat.reduceBEq, tys0, tys1, tys2, tys3, tys4, tys5, tys6, tys7, tys8, tys9, tys10, Try.ntmps36, Try.results36]
  refine RunL.callp rfl rfl ok_f39 ca (by simp only [pureL, pureB, hpu, Bool.and_self]) rfl ?_
  simp only [run0, run1, run2, run3, run4, run5, run6, run7, run8, run9, run10, run11, run12, run13, run14, run15, run16, run17, run18, run19, run20, run21, run22, reduceCtorEq, Nat.reduceEqDiff, Nat.reduceAdd, Nat.reduceSub, Nat.reduceLeDiff, indexAddrA, indexRefA, appendA, strA, Nat.reduceMul, Nat.zero_mul, Nat.reduceMod, Int.reduceEq, Int.reduceLT, Int.reduceLE, Nat.reduceLT, Nat.lt_irrefl, Nat.reduceBEq, tys0, tys1, tys2, tys3, tys4, tys5, tys6, tys7, tys8, tys9, tys10, Try.ntmps36, Try.results36]
  refine RunL.callp rfl rfl ok_f38 cg (by simp only [pureL, pureB, hpu, hb1, Bool.and_self]) rfl ?_
  simp only [run0, run1, run2, run3, run4, run5, run6, run7, run8, run9, run10, run11, run12, run13, run14, run15, run16, run17, run18, run19, run20, run21, run22, reduceCtorEq, Nat.reduceEqDiff, Nat.reduceAdd, Nat.reduceSub, Nat.reduceLeDiff, indexAddrA, indexRefA, appendA, strA, Nat.reduceMul, Nat.zero_mul, Nat.reduceMod, Int.reduceEq, Int.reduceLT, Int.reduceLE, Nat.reduceLT, Nat.lt_irrefl, Nat.reduceBEq, tys0, tys1, tys2, tys3, tys4, tys5, tys6, tys7, tys8, tys9, tys10, Try.ntmps36, Try.results36, List.length_map, hsh, m1, m2, Int.le_refl, Int.toNat_natCast, Int.natCast_nonneg]
  refine RunL.call rfl rfl rfl ok_f40 rfl (.inl rfl) cp ?_
  simp only [run0, run1, run2, run3, run4, run5, run6, run7, run8, run9, run10, run11, run12, run13, run14, run15, run16, run17, run18, run19, run20, run21, run22, reduceCtorEq, Nat.reduceEqDiff, Nat.reduceAdd, Nat.reduceSub, Nat.reduceLeDiff, indexAddrA, indexRefA, appendA, strA, Nat.reduceMul, Nat.zero_mul, Nat.reduceMod, Int.reduceEq, Int.reduceLT, Int.reduceLE, Nat.reduceLT, Nat.lt_irrefl, Nat.reduceBEq, tys0, tys1, tys2, tys3, tys4, tys5, tys6, tys7, tys8, tys9, tys10, Try.ntmps36, Try.results36]
  exact Fin.eq rfl rfl
theorem specPlay_ok (g : List TwZ) (lg : g.length ≤ 1048576) : Ct Try.prog 14 [.sl false (g.map twI)] [] (.tup [.int .i64 (valG g : Nat), .bool (picB g)]) [] := by
  have pg := twI_pure g
  have ci := grGood_ok g lg
  refine Ct.by_ hmix [] Try.func14 rfl ?_
  simp only [run0, run1, run2, run3, run4, run5, run6, run7, run8, run9, run10, run11, run12, run13, run14, run15, run16, run17, run18, run19, run20, run21, run22, reduceCtorEq, Nat.reduceEqDiff, Nat.reduceAdd, Nat.reduceSub, Nat.reduceLeDiff, indexAddrA, indexRefA, appendA, strA, Nat.reduceMul, Nat.zero_mul, Nat.reduceMod, Int.reduceEq, Int.reduceLT, Int.reduceLE, Nat.reduceLT, Nat.lt_irrefl, Nat.reduceBEq, tys0, tys1, tys2, tys3, tys4, tys5, tys6, tys7, tys8, tys9, tys10, Try.ntmps14, Try.results14]
  refine RunL.callp rfl rfl ok_f27 ci (by simp only [pureL, pureB, pg, Bool.and_self]) rfl ?_
  cases hp : picB g
  · have hv : valG g = 0 := by simp [valG, hp]
    rw [hv]
    simp only [run0, run1, run2, run3, run4, run5, run6, run7, run8, run9, run10, run11, run12, run13, run14, run15, run16, run17, run18, run19, run20, run21, run22, reduceCtorEq, Nat.reduceEqDiff, Nat.reduceAdd, Nat.reduceSub, Nat.reduceLeDiff, indexAddrA, indexRefA, appendA, strA, Nat.reduceMul, Nat.zero_mul, Nat.reduceMod, Int.reduceEq, Int.reduceLT, Int.reduceLE, Nat.reduceLT, Nat.lt_irrefl, Nat.reduceBEq, tys0, tys1, tys2, tys3, tys4, tys5, tys6, tys7, tys8, tys9, tys10, Try.ntmps14, Try.results14]
    exact Fin.eq rfl rfl
  · obtain ⟨P, hm⟩ := picB_nat hp
    have hv : valG g = vB (natG g) (gSet (natG g)) := by simp [valG, hp]
    have cv := grValue_ok (natG g) P
    rw [hm] at cv
    rw [hv]
    simp only [run0, run1, run2, run3, run4, run5, run6, run7, run8, run9, run10, run11, run12, run13, run14, run15, run16, run17, run18, run19, run20, run21, run22, reduceCtorEq, Nat.reduceEqDiff, Nat.reduceAdd, Nat.reduceSub, Nat.reduceLeDiff, indexAddrA, indexRefA, appendA, strA, Nat.reduceMul, Nat.zero_mul, Nat.reduceMod, Int.reduceEq, Int.reduceLT, Int.reduceLE, Nat.reduceLT, Nat.lt_irrefl, Nat.reduceBEq, tys0, tys1, tys2, tys3, tys4, tys5, tys6, tys7, tys8, tys9, tys10, Try.ntmps14, Try.results14]
    refine RunL.callp rfl rfl ok_f36 cv (by simp only [pureL, pureB, pg, Bool.and_self]) rfl ?_
    simp only [run0, run1, run2, run3, run4, run5, run6, run7, run8, run9, run10, run11, run12, run13, run14, run15, run16, run17, run18, run19, run20, run21, run22, reduceCtorEq, Nat.reduceEqDiff, Nat.reduceAdd, Nat.reduceSub, Nat.reduceLeDiff, indexAddrA, indexRefA, appendA, strA, Nat.reduceMul, Nat.zero_mul, Nat.reduceMod, Int.reduceEq, Int.reduceLT, Int.reduceLE, Nat.reduceLT, Nat.lt_irrefl, Nat.reduceBEq, tys0, tys1, tys2, tys3, tys4, tys5, tys6, tys7, tys8, tys9, tys10, Try.ntmps14, Try.results14]
    exact Fin.eq rfl rfl

end Go.Proofs.Ytobdpkkmkbafbaa
/-
  Bytes handed in to the laws of draws.
-/
namespace Go.Proofs.Ytobdpkkmkbafbaa
open Go K
set_option linter.unusedSimpArgs false
set_option linter.unusedVariables false
set_option maxHeartbeats 1600000
set_option maxRecDepth 8000

theorem maxLen_eq : maxLen = 9223372036854775807 := by decide
theorem bytes_list : ∀ es : List AV, (∀ x ∈ es, IsOf Try.prog 5 x) → ∃ l : List Int, es = bytesV l ∧ ∀ b ∈ l, 0 ≤ b ∧ b ≤ 255
  | [], _ => ⟨[], rfl, by simp⟩
  | x :: es, hes => by
    obtain ⟨l, rfl, h2⟩ := bytes_list es fun y hy => hes y (List.mem_cons_of_mem _ hy)
    obtain ⟨_, h⟩ := (hes x (List.mem_cons_self ..)).one ty_a5
    obtain ⟨i, e, hw⟩ := h.int Try.underlying5
    simp only [List.cons.injEq, and_true] at e
    subst e
    refine ⟨i :: l, rfl, fun b hb => ?_⟩
    rcases List.mem_cons.1 hb with rfl | hb
    · simp only [Lit.wf, Bool.and_eq_true, decide_eq_true_eq] at hw
      exact hw
    · exact h2 b hb
theorem laws_isBytes {x : AV} (h : IsOf Try.prog 22 x) : ∃ l : List Int, x = .sl false (bytesV l) ∧ (∀ b ∈ l, 0 ≤ b ∧ b ≤ 255) ∧ l.length ≤ maxLen := by
  obtain ⟨_, h⟩ := h.one ty_a22
  obtain ⟨es, e0, hel, hes⟩ := h.slice Try.underlying22
  simp only [List.cons.injEq, and_true] at e0
  subst e0
  obtain ⟨l, rfl, h2⟩ := bytes_list es hes
  exact ⟨l, rfl, h2, by simpa [bytesV] using hel⟩

theorem bytes_pure : ∀ l : List Int, pureL (bytesV l) = true
  | [] => rfl
  | x :: r => by
    have := bytes_pure r
    simp only [bytesV, List.map_cons, pureL, pureB, Bool.true_and] at this ⊢
    exact this
theorem big_ok (l m : List Int) (hl : l.length ≤ maxLen) (hm : m.length ≤ maxLen) : Ct Try.prog 6 [.sl false (bytesV l), .sl false (bytesV m)] [] (.bool (decide ((1048576 : Int) < l.length) || decide (1048576 - (l.length : Int) < m.length))) [] := by
  rw [maxLen_eq] at hl hm
  have e1 : (bytesV l).length = l.length := by simp [bytesV]
  have e2 : (bytesV m).length = m.length := by simp [bytesV]
  have e3 : IntKind.i64.wrap (1048576 - (l.length : Int)) = 1048576 - (l.length : Int) := i64Z (by omega) (by omega)
  refine Ct.by_ hmix [] Try.func6 rfl ?_
  by_cases h : (1048576 : Int) < l.length
  · simp only [run0, run1, run2, run3, run4, run5, run6, run7, run8, run9, run10, run11, run12, run13, run14, run15, run16, run17, run18, run19, run20, run21, run22, reduceCtorEq, Nat.reduceEqDiff, Nat.reduceAdd, Nat.reduceSub, Nat.reduceLeDiff, indexAddrA, indexRefA, appendA, strA, Nat.reduceMul, Nat.zero_mul, Nat.reduceMod, Int.reduceEq, Int.reduceLT, Int.reduceLE, Nat.reduceLT, Nat.lt_irrefl, Nat.reduceBEq, tys0, tys1, tys2, tys3, tys4, tys5, tys6, tys7, tys8, tys9, tys10, Try.ntmps6, Try.results6, e1, e2, h]
    exact Fin.eq (by simp) rfl
  · simp only [run0, run1, run2, run3, run4, run5, run6, run7, run8, run9, run10, run11, run12, run13, run14, run15, run16, run17, run18, run19, run20, run21, run22, reduceCtorEq, Nat.reduceEqDiff, Nat.reduceAdd, Nat.reduceSub, Nat.reduceLeDiff, indexAddrA, indexRefA, appendA, strA, Nat.reduceMul, Nat.zero_mul, Nat.reduceMod, Int.reduceEq, Int.reduceLT, Int.reduceLE, Nat.reduceLT, Nat.lt_irrefl, Nat.reduceBEq, tys0, tys1, tys2, tys3, tys4, tys5, tys6, tys7, tys8, tys9, tys10, Try.ntmps6, Try.results6, e1, e2, h, e3]
    exact Fin.eq (by simp) rfl

end Go.Proofs.Ytobdpkkmkbafbaa
/-
  Fusion is play: the law.
-/
namespace Go.Proofs.Ytobdpkkmkbafbaa
open Go K
set_option linter.unusedSimpArgs false
set_option linter.unusedVariables false
set_option maxHeartbeats 1600000
set_option maxRecDepth 8000

theorem FnFusionIsPlay_ok {a0 a1 : AV} (h0 : IsOf Try.prog 22 a0) (h1 : IsOf Try.prog 22 a1) : Ct Try.prog 4 [a0, a1] [] (.bool true) [] := by
  obtain ⟨l, rfl, hb, hl⟩ := laws_isBytes h0
  obtain ⟨k, rfl, _, hk⟩ := laws_isBytes h1
  have hbig := big_ok l k hl hk
  cases hB : (decide ((1048576 : Int) < l.length) || decide (1048576 - (l.length : Int) < k.length))
  case true =>
    rw [hB] at hbig
    refine Ct.by_ hmix [] Try.func4 rfl ?_
    simp only [run0, run1, run2, run3, run4, run5, run6, run7, run8, run9, run10, run11, run12, run13, run14, run15, run16, run17, run18, run19, run20, run21, run22, reduceCtorEq, Nat.reduceEqDiff, Nat.reduceAdd, Nat.reduceSub, Nat.reduceLeDiff, indexAddrA, indexRefA, appendA, strA, Nat.reduceMul, Nat.zero_mul, Nat.reduceMod, Int.reduceEq, Int.reduceLT, Int.reduceLE, Nat.reduceLT, Nat.lt_irrefl, Nat.reduceBEq, tys0, tys1, tys2, tys3, tys4, tys5, tys6, tys7, tys8, tys9, tys10, Try.ntmps4, Try.results4]
    refine RunL.callp rfl rfl ok_f6 hbig (by simp only [pureL, pureB, bytes_pure, Bool.and_self]) rfl ?_
    simp only [run0, run1, run2, run3, run4, run5, run6, run7, run8, run9, run10, run11, run12, run13, run14, run15, run16, run17, run18, run19, run20, run21, run22, reduceCtorEq, Nat.reduceEqDiff, Nat.reduceAdd, Nat.reduceSub, Nat.reduceLeDiff, indexAddrA, indexRefA, appendA, strA, Nat.reduceMul, Nat.zero_mul, Nat.reduceMod, Int.reduceEq, Int.reduceLT, Int.reduceLE, Nat.reduceLT, Nat.lt_irrefl, Nat.reduceBEq, tys0, tys1, tys2, tys3, tys4, tys5, tys6, tys7, tys8, tys9, tys10, Try.ntmps4, Try.results4]
    exact Fin.eq rfl rfl
  rw [hB] at hbig
  simp only [Bool.or_eq_false_iff, decide_eq_false_iff_not] at hB
  have hc : bytesOk l := ⟨by omega, hb⟩
  obtain ⟨g, hg, hdraw⟩ := drawPlay_ok l hc
  have lg : g.length ≤ 1048576 := by omega
  have hs := specPlay_ok g lg
  have hi := implPlay_ok g lg
  have pg := twI_pure g
  cases hj : picB g
  · rw [hj] at hs hi
    generalize valG g = v at *
    refine Ct.by_ hmix [] Try.func4 rfl ?_
    simp only [run0, run1, run2, run3, run4, run5, run6, run7, run8, run9, run10, run11, run12, run13, run14, run15, run16, run17, run18, run19, run20, run21, run22, reduceCtorEq, Nat.reduceEqDiff, Nat.reduceAdd, Nat.reduceSub, Nat.reduceLeDiff, indexAddrA, indexRefA, appendA, strA, Nat.reduceMul, Nat.zero_mul, Nat.reduceMod, Int.reduceEq, Int.reduceLT, Int.reduceLE, Nat.reduceLT, Nat.lt_irrefl, Nat.reduceBEq, tys0, tys1, tys2, tys3, tys4, tys5, tys6, tys7, tys8, tys9, tys10, Try.ntmps4, Try.results4]
    refine RunL.callp rfl rfl ok_f6 hbig (by simp only [pureL, pureB, bytes_pure, Bool.and_self]) rfl ?_
    simp only [run0, run1, run2, run3, run4, run5, run6, run7, run8, run9, run10, run11, run12, run13, run14, run15, run16, run17, run18, run19, run20, run21, run22, reduceCtorEq, Nat.reduceEqDiff, Nat.reduceAdd, Nat.reduceSub, Nat.reduceLeDiff, indexAddrA, indexRefA, appendA, strA, Nat.reduceMul, Nat.zero_mul, Nat.reduceMod, Int.reduceEq, Int.reduceLT, Int.reduceLE, Nat.reduceLT, Nat.lt_irrefl, Nat.reduceBEq, tys0, tys1, tys2, tys3, tys4, tys5, tys6, tys7, tys8, tys9, tys10, Try.ntmps4, Try.results4]
    refine RunL.callp rfl rfl ok_f13 hdraw (by simp only [pureL, pureB, bytes_pure, Bool.and_self]) rfl ?_
    simp only [run0, run1, run2, run3, run4, run5, run6, run7, run8, run9, run10, run11, run12, run13, run14, run15, run16, run17, run18, run19, run20, run21, run22, reduceCtorEq, Nat.reduceEqDiff, Nat.reduceAdd, Nat.reduceSub, Nat.reduceLeDiff, indexAddrA, indexRefA, appendA, strA, Nat.reduceMul, Nat.zero_mul, Nat.reduceMod, Int.reduceEq, Int.reduceLT, Int.reduceLE, Nat.reduceLT, Nat.lt_irrefl, Nat.reduceBEq, tys0, tys1, tys2, tys3, tys4, tys5, tys6, tys7, tys8, tys9, tys10, Try.ntmps4, Try.results4]
    refine RunL.callp rfl rfl ok_f12 hi (by simp only [pureL, pureB, pg, Bool.and_self]) rfl ?_
    simp only [run0, run1, run2, run3, run4, run5, run6, run7, run8, run9, run10, run11, run12, run13, run14, run15, run16, run17, run18, run19, run20, run21, run22, reduceCtorEq, Nat.reduceEqDiff, Nat.reduceAdd, Nat.reduceSub, Nat.reduceLeDiff, indexAddrA, indexRefA, appendA, strA, Nat.reduceMul, Nat.zero_mul, Nat.reduceMod, Int.reduceEq, Int.reduceLT, Int.reduceLE, Nat.reduceLT, Nat.lt_irrefl, Nat.reduceBEq, tys0, tys1, tys2, tys3, tys4, tys5, tys6, tys7, tys8, tys9, tys10, Try.ntmps4, Try.results4]
    refine RunL.callp rfl rfl ok_f14 hs (by simp only [pureL, pureB, pg, Bool.and_self]) rfl ?_
    simp only [run0, run1, run2, run3, run4, run5, run6, run7, run8, run9, run10, run11, run12, run13, run14, run15, run16, run17, run18, run19, run20, run21, run22, reduceCtorEq, Nat.reduceEqDiff, Nat.reduceAdd, Nat.reduceSub, Nat.reduceLeDiff, indexAddrA, indexRefA, appendA, strA, Nat.reduceMul, Nat.zero_mul, Nat.reduceMod, Int.reduceEq, Int.reduceLT, Int.reduceLE, Nat.reduceLT, Nat.lt_irrefl, Nat.reduceBEq, tys0, tys1, tys2, tys3, tys4, tys5, tys6, tys7, tys8, tys9, tys10, Try.ntmps4, Try.results4, bne_self_eq_false]
    exact Fin.eq rfl rfl
  have hfu := implFus_ok g lg
  have hgr := grdOf_ok g lg
  have gp := grdT_pic hj
  have l2 : (grdT g).length ≤ 1048576 := by
    simp only [picB, Bool.and_eq_true, decide_eq_true_eq] at gp; omega
  have hk2 := implPlay_ok (grdT g) l2
  have hg2 := grdOf_ok (grdT g) l2
  have ht := isTree_ok g lg
  have ho := ofTree_ok g lg
  rw [grdT_val hj, gp] at hk2
  rw [grdT_twice hj, gp] at hg2
  rw [hj] at hs hi hfu hgr ht
  have pk := twI_pure (grdT g)
  generalize grdT g = K at *
  generalize valG g = v at *
  cases hT : treeB g
  all_goals
    rw [hT] at ht ho
    simp only [Bool.false_eq_true, if_false, if_true] at ho
    refine Ct.by_ hmix [] Try.func4 rfl ?_
    simp only [run0, run1, run2, run3, run4, run5, run6, run7, run8, run9, run10, run11, run12, run13, run14, run15, run16, run17, run18, run19, run20, run21, run22, reduceCtorEq, Nat.reduceEqDiff, Nat.reduceAdd, Nat.reduceSub, Nat.reduceLeDiff, indexAddrA, indexRefA, appendA, strA, Nat.reduceMul, Nat.zero_mul, Nat.reduceMod, Int.reduceEq, Int.reduceLT, Int.reduceLE, Nat.reduceLT, Nat.lt_irrefl, Nat.reduceBEq, tys0, tys1, tys2, tys3, tys4, tys5, tys6, tys7, tys8, tys9, tys10, Try.ntmps4, Try.results4]
    refine RunL.callp rfl rfl ok_f6 hbig (by simp only [pureL, pureB, bytes_pure, Bool.and_self]) rfl ?_
    simp only [run0, run1, run2, run3, run4, run5, run6, run7, run8, run9, run10, run11, run12, run13, run14, run15, run16, run17, run18, run19, run20, run21, run22, reduceCtorEq, Nat.reduceEqDiff, Nat.reduceAdd, Nat.reduceSub, Nat.reduceLeDiff, indexAddrA, indexRefA, appendA, strA, Nat.reduceMul, Nat.zero_mul, Nat.reduceMod, Int.reduceEq, Int.reduceLT, Int.reduceLE, Nat.reduceLT, Nat.lt_irrefl, Nat.reduceBEq, tys0, tys1, tys2, tys3, tys4, tys5, tys6, tys7, tys8, tys9, tys10, Try.ntmps4, Try.results4]
    refine RunL.callp rfl rfl ok_f13 hdraw (by simp only [pureL, pureB, bytes_pure, Bool.and_self]) rfl ?_
    simp only [run0, run1, run2, run3, run4, run5, run6, run7, run8, run9, run10, run11, run12, run13, run14, run15, run16, run17, run18, run19, run20, run21, run22, reduceCtorEq, Nat.reduceEqDiff, Nat.reduceAdd, Nat.reduceSub, Nat.reduceLeDiff, indexAddrA, indexRefA, appendA, strA, Nat.reduceMul, Nat.zero_mul, Nat.reduceMod, Int.reduceEq, Int.reduceLT, Int.reduceLE, Nat.reduceLT, Nat.lt_irrefl, Nat.reduceBEq, tys0, tys1, tys2, tys3, tys4, tys5, tys6, tys7, tys8, tys9, tys10, Try.ntmps4, Try.results4]
    refine RunL.callp rfl rfl ok_f12 hi (by simp only [pureL, pureB, pg, Bool.and_self]) rfl ?_
    simp only [run0, run1, run2, run3, run4, run5, run6, run7, run8, run9, run10, run11, run12, run13, run14, run15, run16, run17, run18, run19, run20, run21, run22, reduceCtorEq, Nat.reduceEqDiff, Nat.reduceAdd, Nat.reduceSub, Nat.reduceLeDiff, indexAddrA, indexRefA, appendA, strA, Nat.reduceMul, Nat.zero_mul, Nat.reduceMod, Int.reduceEq, Int.reduceLT, Int.reduceLE, Nat.reduceLT, Nat.lt_irrefl, Nat.reduceBEq, tys0, tys1, tys2, tys3, tys4, tys5, tys6, tys7, tys8, tys9, tys10, Try.ntmps4, Try.results4]
    refine RunL.callp rfl rfl ok_f14 hs (by simp only [pureL, pureB, pg, Bool.and_self]) rfl ?_
    simp only [run0, run1, run2, run3, run4, run5, run6, run7, run8, run9, run10, run11, run12, run13, run14, run15, run16, run17, run18, run19, run20, run21, run22, reduceCtorEq, Nat.reduceEqDiff, Nat.reduceAdd, Nat.reduceSub, Nat.reduceLeDiff, indexAddrA, indexRefA, appendA, strA, Nat.reduceMul, Nat.zero_mul, Nat.reduceMod, Int.reduceEq, Int.reduceLT, Int.reduceLE, Nat.reduceLT, Nat.lt_irrefl, Nat.reduceBEq, tys0, tys1, tys2, tys3, tys4, tys5, tys6, tys7, tys8, tys9, tys10, Try.ntmps4, Try.results4, bne_self_eq_false]
    refine RunL.callp rfl rfl ok_f10 hfu (by simp only [pureL, pureB, pg, Bool.and_self]) rfl ?_
    simp only [run0, run1, run2, run3, run4, run5, run6, run7, run8, run9, run10, run11, run12, run13, run14, run15, run16, run17, run18, run19, run20, run21, run22, reduceCtorEq, Nat.reduceEqDiff, Nat.reduceAdd, Nat.reduceSub, Nat.reduceLeDiff, indexAddrA, indexRefA, appendA, strA, Nat.reduceMul, Nat.zero_mul, Nat.reduceMod, Int.reduceEq, Int.reduceLT, Int.reduceLE, Nat.reduceLT, Nat.lt_irrefl, Nat.reduceBEq, tys0, tys1, tys2, tys3, tys4, tys5, tys6, tys7, tys8, tys9, tys10, Try.ntmps4, Try.results4]
    refine RunL.callp rfl rfl ok_f15 hgr (by simp only [pureL, pureB, pg, Bool.and_self]) rfl ?_
    simp only [run0, run1, run2, run3, run4, run5, run6, run7, run8, run9, run10, run11, run12, run13, run14, run15, run16, run17, run18, run19, run20, run21, run22, reduceCtorEq, Nat.reduceEqDiff, Nat.reduceAdd, Nat.reduceSub, Nat.reduceLeDiff, indexAddrA, indexRefA, appendA, strA, Nat.reduceMul, Nat.zero_mul, Nat.reduceMod, Int.reduceEq, Int.reduceLT, Int.reduceLE, Nat.reduceLT, Nat.lt_irrefl, Nat.reduceBEq, tys0, tys1, tys2, tys3, tys4, tys5, tys6, tys7, tys8, tys9, tys10, Try.ntmps4, Try.results4]
    refine RunL.callp rfl rfl ok_f12 hk2 (by simp only [pureL, pureB, pk, Bool.and_self]) rfl ?_
    simp only [run0, run1, run2, run3, run4, run5, run6, run7, run8, run9, run10, run11, run12, run13, run14, run15, run16, run17, run18, run19, run20, run21, run22, reduceCtorEq, Nat.reduceEqDiff, Nat.reduceAdd, Nat.reduceSub, Nat.reduceLeDiff, indexAddrA, indexRefA, appendA, strA, Nat.reduceMul, Nat.zero_mul, Nat.reduceMod, Int.reduceEq, Int.reduceLT, Int.reduceLE, Nat.reduceLT, Nat.lt_irrefl, Nat.reduceBEq, tys0, tys1, tys2, tys3, tys4, tys5, tys6, tys7, tys8, tys9, tys10, Try.ntmps4, Try.results4]
    refine RunL.callp rfl rfl ok_f15 hg2 (by simp only [pureL, pureB, pk, Bool.and_self]) rfl ?_
    simp only [run0, run1, run2, run3, run4, run5, run6, run7, run8, run9, run10, run11, run12, run13, run14, run15, run16, run17, run18, run19, run20, run21, run22, reduceCtorEq, Nat.reduceEqDiff, Nat.reduceAdd, Nat.reduceSub, Nat.reduceLeDiff, indexAddrA, indexRefA, appendA, strA, Nat.reduceMul, Nat.zero_mul, Nat.reduceMod, Int.reduceEq, Int.reduceLT, Int.reduceLE, Nat.reduceLT, Nat.lt_irrefl, Nat.reduceBEq, tys0, tys1, tys2, tys3, tys4, tys5, tys6, tys7, tys8, tys9, tys10, Try.ntmps4, Try.results4]
    refine RunL.callp rfl rfl ok_f16 ht (by simp only [pureL, pureB, pg, Bool.and_self]) rfl ?_
    simp only [run0, run1, run2, run3, run4, run5, run6, run7, run8, run9, run10, run11, run12, run13, run14, run15, run16, run17, run18, run19, run20, run21, run22, reduceCtorEq, Nat.reduceEqDiff, Nat.reduceAdd, Nat.reduceSub, Nat.reduceLeDiff, indexAddrA, indexRefA, appendA, strA, Nat.reduceMul, Nat.zero_mul, Nat.reduceMod, Int.reduceEq, Int.reduceLT, Int.reduceLE, Nat.reduceLT, Nat.lt_irrefl, Nat.reduceBEq, tys0, tys1, tys2, tys3, tys4, tys5, tys6, tys7, tys8, tys9, tys10, Try.ntmps4, Try.results4]
    refine RunL.callp rfl rfl ok_f17 ho (by simp only [pureL, pureB, pg, Bool.and_self]) rfl ?_
    simp only [run0, run1, run2, run3, run4, run5, run6, run7, run8, run9, run10, run11, run12, run13, run14, run15, run16, run17, run18, run19, run20, run21, run22, reduceCtorEq, Nat.reduceEqDiff, Nat.reduceAdd, Nat.reduceSub, Nat.reduceLeDiff, indexAddrA, indexRefA, appendA, strA, Nat.reduceMul, Nat.zero_mul, Nat.reduceMod, Int.reduceEq, Int.reduceLT, Int.reduceLE, Nat.reduceLT, Nat.lt_irrefl, Nat.reduceBEq, tys0, tys1, tys2, tys3, tys4, tys5, tys6, tys7, tys8, tys9, tys10, Try.ntmps4, Try.results4, beq_self_eq_true]
    exact Fin.eq rfl rfl

end Go.Proofs.Ytobdpkkmkbafbaa
