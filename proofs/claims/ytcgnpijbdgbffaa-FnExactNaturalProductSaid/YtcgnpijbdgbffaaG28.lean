/-
  Ordinals: natural products: a nil slice as a value, the plain law, the walks, the law.
-/
import Derived.Test.YtcgnpijbdgbffaaG26
namespace Go.Proofs.Ytcgnpijbdgbffaa.K
set_option linter.unusedVariables false
set_option linter.unusedSimpArgs false
open Go Go.RowKit

theorem AWp.nilS {P : Program} {c : Code} {Q : Exit → St → Prop} {s : St} (id j : Nat) {T0 : TypeId} {cs : List AV} (hL : s.L[id]? = some (.box T0 cs)) (hj : cs[j]? = some (.lit (.slice none 0 0)))
    (h : AWp P c Q ⟨s.t, s.L.set id (.box T0 (cs.set j (.sl false [])))⟩) : AWp P c Q s := by
  intro γ a w hr
  have hlt := (List.getElem?_eq_some_iff.1 hL).1
  have hE : Ext γ s.L γ (s.L.set id (.box T0 (cs.set j (.sl false [])))) := .set hL ⟨rfl, by simp⟩
  have hI : Inv γ (s.L.set id (.box T0 (cs.set j (.sl false [])))) w := by
    refine ⟨hr.inv.ro, fun b id1 p c hb => ?_, hr.inv.inj, fun id1 T1 cs1 hL1 => ?_, fun id1 kt vt es hL1 => ?_⟩
    · obtain ⟨o, ho, hrep⟩ := hr.inv.ow _ _ _ _ hb
      refine ⟨o, ho, ?_⟩
      by_cases hi : id1 = id
      · subst hi
        unfold BlockRep at hrep ⊢
        simp only [hL] at hrep
        simp only [List.getElem?_set_self hlt]
        obtain ⟨h1, arr, h2, h3, h4⟩ := hrep
        refine ⟨h1, arr, h2, by simpa using h3, fun k x hx => ?_⟩
        by_cases hjk : j = k
        · subst hjk
          have hjl := (List.getElem?_eq_some_iff.1 hj).1
          simp [hjl] at hx
          subst hx
          obtain ⟨v, a1, a2, a3⟩ := h4 j _ hj
          refine ⟨v, a1, a2, ?_⟩
          cases a3
          exact .sl _ _ _ 0 0 0 (fun _ _ => undef) rfl (Nat.le_refl _) (by simp) (by simp) (by simp) (by simp)
        · rw [List.getElem?_set_ne hjk] at hx
          obtain ⟨v, a1, a2, a3⟩ := h4 k x hx
          exact ⟨v, a1, a2, a3.mono hE⟩
      · exact hrep.upd hE (List.getElem?_set_ne (fun e => hi e.symm))
    · by_cases hi2 : id = id1
      · subst hi2; exact hr.inv.box _ _ _ hL
      · rw [List.getElem?_set_ne hi2] at hL1; exact hr.inv.box _ _ _ hL1
    · by_cases hi2 : id = id1
      · subst hi2; simp [hlt] at hL1
      · rw [List.getElem?_set_ne hi2] at hL1; exact hr.inv.map _ _ _ _ hL1
  have hr' := hr.mono hE hI
  refine wp_mono (h γ a w hr') ?_
  rintro e a' w' ⟨γ', s', h1, h2, h3, h4⟩
  exact ⟨γ', s', h1, hE.trans h2, h3, h4⟩

theorem RunL.callp_ex {P : Program} {k : Oper → Knd} {ops : Array Oper} {K : AV → List AObj → St → Prop} {Z : AV → List AObj → Prop} {o : Oper} {rest : List Oper} {s : St} {f : FuncId} {args : Array Operand} {ats : Array TypeId} {r : AV} {xs : List AV}
    (hg : guardA ops s o = some true) (ho : o.op = .call { callee := .value (.func f), args := args, argTypes := ats }) (hf : okFn P f = true)
    (h : Ct P f xs [] r []) (hp : pureL xs = true) (hx : args.toList.map s.ev = xs) (hk : ∃ q L', R P k ops rest (s.put o.dst r) (K q L') ∧ Z q L') : ∃ q L', RunL P k ops (o :: rest) s (K q L') ∧ Z q L' := by
  obtain ⟨q, L', h1, h2⟩ := hk
  exact ⟨q, L', .callp hg ho hf h hp hx h1, h2⟩
theorem AWp.nilS_ex {P : Program} {c : Code} {Kq : AV → List AObj → Exit → St → Prop} {Z : AV → List AObj → Prop} {s : St} (id j : Nat) {T0 : TypeId} {cs : List AV} (hL : s.L[id]? = some (.box T0 cs)) (hj : cs[j]? = some (.lit (.slice none 0 0)))
    (h : ∃ r L', AWp P c (Kq r L') ⟨s.t, s.L.set id (.box T0 (cs.set j (.sl false [])))⟩ ∧ Z r L') : ∃ r L', AWp P c (Kq r L') s ∧ Z r L' := by
  obtain ⟨r, L', h1, h2⟩ := h
  exact ⟨r, L', AWp.nilS id j hL hj h1, h2⟩

end Go.Proofs.Ytcgnpijbdgbffaa.K

namespace Go.Proofs.Ytcgnpijbdgbffaa
open Go K Od
set_option linter.unusedSimpArgs false
set_option linter.unusedVariables false

/-- What is known of the terms of a right ordinal. -/
def gtT : Od → Prop
  | .nil => True
  | .cons e c r => (rng e ∧ desc none e ∧ 1 ≤ c ∧ c ≤ 1000000 ∧ e.sz ≤ 29) ∧ gtT r
theorem form_gt : ∀ {a : Od} {n : Nat} {p : Option Od}, formG a n p = true → a.sz ≤ 29 → gtT a
  | .nil, _, _, _, _ => trivial
  | .cons e c r, 0, p, h, _ => by simp [formG] at h
  | .cons e c r, n + 1, p, h, hs => by
    simp only [sz] at hs
    simp only [formG, Bool.and_eq_true, inB, decide_eq_true_eq] at h
    exact ⟨⟨formG_rng h.1.1.2, formG_desc h.1.1.2, h.1.1.1.1, h.1.1.1.2, by omega⟩, form_gt h.2 (by omega)⟩
theorem good_gt {a : Od} (h : goodT a = true) : gtT a := by
  have hs := goodT_sz h
  simp only [goodT, Bool.and_eq_true] at h
  exact form_gt h.2 hs
theorem gt_app : ∀ {a b : Od}, gtT (a.app b) → gtT b
  | .nil, _, h => h
  | .cons e c r, _, h => gt_app (a := r) h.2
theorem rng_bndW : ∀ {a : Od}, rng a → a.sz ≤ 1048576 → bndW 1000000 a
  | .nil, _, _ => trivial
  | .cons e c r, h, hs => by
    simp only [sz] at hs
    exact ⟨rngW_of h.2.2.1, by omega, by have := h.1; omega, h.2.1, rng_bndW h.2.2.2 (by omega)⟩
theorem merge_rngW : ∀ {a b : Od}, rng a → rng b → rngW (mergeT a b)
  | .nil, b, _, h => by rw [nil_merge]; exact rngW_of h
  | .cons x k a, .nil, h, _ => by rw [merge_nil]; exact rngW_of h
  | .cons x k a, .cons e c b, h1, h2 => by
    have e1 := merge_rngW h1.2.2.2 h2
    have e2 := merge_rngW h1.2.2.2 h2.2.2.2
    have e3 := merge_rngW h1 h2.2.2.2
    have k1 := h1.1
    have k2 := h1.2.1
    have c1 := h2.1
    have c2 := h2.2.1
    rw [merge_cons]
    split
    · exact ⟨by omega, by omega, rngW_of h1.2.2.1, e1⟩
    · split
      · exact ⟨by omega, by omega, rngW_of h2.2.2.1, e2⟩
      · exact ⟨by omega, by omega, rngW_of h2.2.2.1, e3⟩
termination_by a b => a.len + b.len
decreasing_by all_goals simp only [len]; omega
theorem merge_single (o x : Od) (n : Int) : mergeT o (.cons x n .nil) = meetT x n o := by
  rw [← join_merge o (.cons x n .nil) (p := none) ⟨rfl, trivial⟩]; rfl

def crossI (e : Od) (c : Int) : Od → Od → Od
  | o, .nil => o
  | o, .cons f k r => crossI e c (meetT (mergeT e f) (c * k) o) r
theorem crossI_cons (e o f r : Od) (c k : Int) : crossI e c o (.cons f k r) = crossI e c (meetT (mergeT e f) (c * k) o) r := rfl
def crossO (b : Od) : Od → Od → Od
  | o, .nil => o
  | o, .cons e c r => crossO b (crossI e c o b) r
theorem crossO_cons (b o e r : Od) (c : Int) : crossO b o (.cons e c r) = crossO b (crossI e c o b) r := rfl

/-- One step of the product. -/
theorem cross_step {e f o : Od} {c k : Int} (he : rng e ∧ desc none e ∧ 1 ≤ c ∧ c ≤ 1000000 ∧ e.sz ≤ 29) (hf : rng f ∧ desc none f ∧ 1 ≤ k ∧ k ≤ 1000000 ∧ f.sz ≤ 29) {M : Int} (hM : 0 ≤ M) (ho : bndW M o) :
    1 ≤ c * k ∧ c * k ≤ 1000000000000 ∧ bndW 1000000000000 (.cons (mergeT e f) (c * k) .nil) ∧ bndW (M + 1000000000000) (meetT (mergeT e f) (c * k) o) ∧ (meetT (mergeT e f) (c * k) o).sz ≤ o.sz + 60 := by
  obtain ⟨h1, h2, h3, h4, h5⟩ := he
  obtain ⟨k1, k2, k3, k4, k5⟩ := hf
  have l1 : 1 * 1 ≤ c * k := Int.mul_le_mul h3 k3 (by omega) (by omega)
  have l2 : c * k ≤ 1000000 * 1000000 := Int.mul_le_mul h4 k4 (by omega) (by omega)
  have l3 := mergeT_sz e f
  have l4 := meetT_sz (mergeT e f) (c * k) o
  have be : bndW 1000000000000 (.cons (mergeT e f) (c * k) .nil) := ⟨merge_rngW h1 k1, by omega, by omega, by omega, trivial⟩
  exact ⟨by omega, by omega, be, meetT_bndW (by omega) be hM ho, by omega⟩
theorem crossO_sz (b : Od) : ∀ (a o : Od), (∀ e ∈ [b], gtT e) → gtT a → b.len ≤ 29 → (crossO b o a).sz ≤ o.sz + 60 * 29 * a.len := by
  have hi : ∀ (e : Od) (c : Int), e.sz ≤ 29 → ∀ (b o : Od), gtT b → (crossI e c o b).sz ≤ o.sz + 60 * b.len := by
    intro e c he b
    induction b with
    | nil => intro o _; simp [crossI]
    | cons f k r ih1 ih2 =>
      intro o hb
      have h1 := ih2 (meetT (mergeT e f) (c * k) o) hb.2
      have h2 := meetT_sz (mergeT e f) (c * k) o
      have h3 := mergeT_sz e f
      have h4 := hb.1.2.2.2.2
      rw [crossI_cons]
      simp only [len]; omega
  intro a
  induction a with
  | nil => intro o _ _ _; simp [crossO]
  | cons e c r ih1 ih2 =>
    intro o hb ha hl
    have h1 := ih2 (crossI e c o b) hb ha.2 hl
    have h2 := hi e c ha.1.2.2.2.2 b o (hb b (by simp))
    rw [crossO_cons]
    simp only [len]; omega

end Go.Proofs.Ytcgnpijbdgbffaa

namespace Go.Proofs.Ytcgnpijbdgbffaa
open Go K Od
set_option linter.unusedSimpArgs false
set_option linter.unusedVariables false
set_option maxHeartbeats 1600000
set_option maxRecDepth 8000

structure CrS where
  d : Od
  r : Od
  o : Od
  X : List AObj

theorem odCross_ok (a b : Od) (ga : gtT a) (gb : gtT b) (ha : a.sz ≤ 29) (hb : b.sz ≤ 29) : Ct Try.prog 74 [av a, av b] [] (av (crossO b .nil a)) [] := by
  have hla := len_le a
  have hlb := len_le b
  refine Ct.by_ hmix [] Try.func74 rfl ?_
  simp only [run0, run1, run2, run3, run4, run5, run6, run7, run8, run9, run10, run11, run12, run13, run14, run15, run16, run17, run18, run19, run20, run21, reduceCtorEq, Nat.reduceEqDiff, Nat.reduceAdd, Nat.reduceSub, Nat.reduceLeDiff, indexAddrA, indexRefA, appendA, strA, Nat.reduceMul, Nat.zero_mul, Nat.reduceMod, Int.reduceEq, Int.reduceLT, Int.reduceLE, Nat.reduceLT, Nat.lt_irrefl, Nat.reduceBEq, tys0, tys1, tys2, tys3, tys4, tys5, tys6, tys7, tys8, tys9, tys10, Try.ntmps74, Try.results74, av, elems_length]
  refine AWp.nilS 3 0 rfl rfl ?_
  simp only [run0, run1, run2, run3, run4, run5, run6, run7, run8, run9, run10, run11, run12, run13, run14, run15, run16, run17, run18, run19, run20, run21, reduceCtorEq, Nat.reduceEqDiff, Nat.reduceAdd, Nat.reduceSub, Nat.reduceLeDiff, indexAddrA, indexRefA, appendA, strA, Nat.reduceMul, Nat.zero_mul, Nat.reduceMod, Int.reduceEq, Int.reduceLT, Int.reduceLE, Nat.reduceLT, Nat.lt_irrefl, Nat.reduceBEq, tys0, tys1, tys2, tys3, tys4, tys5, tys6, tys7, tys8, tys9, tys10, Try.ntmps74, Try.results74]
  refine AWp.loop_inv (ι := CrS) (fun p => ⟨[.agg [.sl false (elems a)], .agg [.sl false (elems b)], .ptr 0 0, .ptr 1 0, .ptr 2 0, .ptr 3 0, .junk, .junk, .junk, .junk, .junk, .junk, .sl false (elems a), .int .i64 a.len, .int .i64 p.d.len, .junk, .junk, .junk, .junk, .junk, .junk, .junk, .junk, .junk, .junk, .junk, .junk, .junk, .junk, .junk, .junk, .junk, .junk, .junk, .junk, .junk, .junk, .junk, .junk, .junk, .junk],
      .box 29 [.sl false (elems a)] :: .box 29 [.sl false (elems b)] :: .box 29 [nilV] :: .box 29 [.sl false (elems p.o)] :: p.X⟩)
    (fun p => a = p.d.app p.r ∧ crossO b p.o p.r = crossO b .nil a ∧ p.o.sz ≤ 1740 * p.d.len ∧ bndW (29000000000000 * p.d.len) p.o) (fun p => p.r.len) ⟨.nil, a, .nil, []⟩ ⟨rfl, rfl, Nat.zero_le _, trivial⟩ ⟨by simp only [len, Int.natCast_zero, elems]; repeat constructor, rfl⟩ ?_
  rintro ⟨d, r, o, X⟩ ⟨h1, h2, h3, h4⟩
  simp only at h1 h2 h3 h4
  refine W.sound hmix (E := []) ?_
  cases r with
  | nil =>
    obtain ⟨e1, rfl⟩ := od_end h1
    simp only [run0, run1, run2, run3, run4, run5, run6, run7, run8, run9, run10, run11, run12, run13, run14, run15, run16, run17, run18, run19, run20, run21, reduceCtorEq, Nat.reduceEqDiff, Nat.reduceAdd, Nat.reduceSub, Nat.reduceLeDiff, indexAddrA, indexRefA, appendA, strA, Nat.reduceMul, Nat.zero_mul, Nat.reduceMod, Int.reduceEq, Int.reduceLT, Int.reduceLE, Nat.reduceLT, Nat.lt_irrefl, Nat.reduceBEq, tys0, tys1, tys2, tys3, tys4, tys5, tys6, tys7, tys8, tys9, tys10, Try.ntmps74, Try.results74, elems_length, e1]
    exact Fin.eq (by rw [← h2]; rfl) (by simp only [pureB, pureL, elems_pure, Bool.and_self])
  | cons e c q =>
    obtain ⟨e1, e2, e5, hlt, hn, _⟩ := od_step h1 (by omega)
    have hda : d.len + (q.len + 1) = a.len := by rw [h1, len_app]; rfl
    have ge0 : gtT (cons e c q) := gt_app (h1 ▸ ga)
    have ge := ge0.1
    simp only [run0, run1, run2, run3, run4, run5, run6, run7, run8, run9, run10, run11, run12, run13, run14, run15, run16, run17, run18, run19, run20, run21, reduceCtorEq, Nat.reduceEqDiff, Nat.reduceAdd, Nat.reduceSub, Nat.reduceLeDiff, indexAddrA, indexRefA, appendA, strA, Nat.reduceMul, Nat.zero_mul, Nat.reduceMod, Int.reduceEq, Int.reduceLT, Int.reduceLE, Nat.reduceLT, Nat.lt_irrefl, Nat.reduceBEq, tys0, tys1, tys2, tys3, tys4, tys5, tys6, tys7, tys8, tys9, tys10, Try.ntmps74, Try.results74, elems_length, e1, e2, Int.toNat_natCast, Int.natCast_nonneg]
    refine AWp.loop_inv (ι := CrS) (fun p => ⟨[.agg [.sl false (elems a)], .agg [.sl false (elems b)], .ptr 0 0, .ptr 1 0, .ptr 2 0, .ptr 3 0, .junk, .ptr (X.length + 4) 0, .junk, .junk, .junk, .junk, .sl false (elems a), .int .i64 a.len, .int .i64 d.len, .junk, .junk, .junk, .junk, .sl false (elems b), .int .i64 b.len, .int .i64 p.d.len, .junk, .junk, .junk, .junk, .junk, .junk, .junk, .junk, .junk, .junk, .junk, .junk, .junk, .junk, .junk, .junk, .junk, .junk, .junk],
        .box 29 [.sl false (elems a)] :: .box 29 [.sl false (elems b)] :: .box 29 [nilV] :: .box 29 [.sl false (elems p.o)] :: (X ++ .box 53 [.sl false (elems e), .int .i64 c] :: p.X)⟩)
      (fun p => b = p.d.app p.r ∧ crossI e c p.o p.r = crossI e c o b ∧ p.o.sz ≤ 1740 * d.len + 60 * p.d.len ∧ bndW (29000000000000 * d.len + 1000000000000 * p.d.len) p.o) (fun p => p.r.len) ⟨.nil, b, o, []⟩ ⟨rfl, rfl, by simp only [len]; omega, bndW_mono (by simp only [len]; omega) h4⟩ ⟨by simp only [len, Int.natCast_zero]; repeat constructor, rfl⟩ ?_
    rintro ⟨d', r', o', Y⟩ ⟨g1, g2, g3, g4⟩
    simp only at g1 g2 g3 g4
    refine W.sound hmix (E := []) ?_
    cases r' with
    | nil =>
      obtain ⟨i1, hdd⟩ := od_end g1
      simp only [run0, run1, run2, run3, run4, run5, run6, run7, run8, run9, run10, run11, run12, run13, run14, run15, run16, run17, run18, run19, run20, run21, reduceCtorEq, Nat.reduceEqDiff, Nat.reduceAdd, Nat.reduceSub, Nat.reduceLeDiff, indexAddrA, indexRefA, appendA, strA, Nat.reduceMul, Nat.zero_mul, Nat.reduceMod, Int.reduceEq, Int.reduceLT, Int.reduceLE, Nat.reduceLT, Nat.lt_irrefl, Nat.reduceBEq, tys0, tys1, tys2, tys3, tys4, tys5, tys6, tys7, tys8, tys9, tys10, Try.ntmps74, Try.results74, elems_length, i1, e5]
      have hd1 : (d.app (cons e c nil)).len = d.len + 1 := by rw [len_app]; rfl
      have hdl : d'.len = b.len := by rw [hdd]
      refine ⟨⟨d.app (cons e c nil), q, o', X ++ .box 53 [.sl false (elems e), .int .i64 c] :: Y⟩, ⟨hn.symm, ?_, by simp only [hd1]; omega, ?_⟩, by simp [len], by repeat constructor, rfl⟩
      · rw [← h2, crossO_cons, ← g2]; rfl
      · simp only [hd1]; exact bndW_mono (by omega) g4
    | cons f k q' =>
      obtain ⟨i1, i2, i5, hlt', hn', _⟩ := od_step g1 (by omega)
      have hdb : d'.len + (q'.len + 1) = b.len := by rw [g1, len_app]; rfl
      have gf0 : gtT (cons f k q') := gt_app (g1 ▸ gb)
      have gf := gf0.1
      obtain ⟨s1, s2, s3, s4, s5⟩ := cross_step ge gf (M := 29000000000000 * d.len + 1000000000000 * d'.len) (by omega) g4
      have hw : IntKind.i64.wrap (c * k) = c * k := w64_id (by omega) (by omega)
      have hj := odJoinW_ok e f (by omega) (m := 1000000) (by omega) (by omega) (rng_bndW ge.1 (by omega)) (rng_bndW gf.1 (by omega))
      rw [join_merge e f gf.2.1] at hj
      have hm := odMeetW_ok o' (mergeT e f) (c * k) (by omega) (m := 29000000000000 * d.len + 1000000000000 * d'.len + 1000000000000) (by omega) (bndW_mono (by omega) g4) (bndW_mono (by omega) s3)
      simp only [run0, run1, run2, run3, run4, run5, run6, run7, run8, run9, run10, run11, run12, run13, run14, run15, run16, run17, run18, run19, run20, run21, reduceCtorEq, Nat.reduceEqDiff, Nat.reduceAdd, Nat.reduceSub, Nat.reduceLeDiff, indexAddrA, indexRefA, appendA, strA, Nat.reduceMul, Nat.zero_mul, Nat.reduceMod, Int.reduceEq, Int.reduceLT, Int.reduceLE, Nat.reduceLT, Nat.lt_irrefl, Nat.reduceBEq, tys0, tys1, tys2, tys3, tys4, tys5, tys6, tys7, tys8, tys9, tys10, Try.ntmps74, Try.results74, elems_length, i1, i2, setXn, getXn, List.set_cons_succ, Int.toNat_natCast, Int.natCast_nonneg]
      refine ⟨by kernel_rfl, ?_⟩
      refine RunL.callp rfl rfl ok_f70 (hj) (by first | rfl | simp only [pureL, pureB, Bool.and_self, Bool.and_true, Bool.true_and, Od.elems_pure, Od.pay_pure, Od.av_pure]) rfl ?_
      simp only [run0, run1, run2, run3, run4, run5, run6, run7, run8, run9, run10, run11, run12, run13, run14, run15, run16, run17, run18, run19, run20, run21, reduceCtorEq, Nat.reduceEqDiff, Nat.reduceAdd, Nat.reduceSub, Nat.reduceLeDiff, indexAddrA, indexRefA, appendA, strA, Nat.reduceMul, Nat.zero_mul, Nat.reduceMod, Int.reduceEq, Int.reduceLT, Int.reduceLE, Nat.reduceLT, Nat.lt_irrefl, Nat.reduceBEq, tys0, tys1, tys2, tys3, tys4, tys5, tys6, tys7, tys8, tys9, tys10, Try.ntmps74, Try.results74, av, getXn, hw]
      refine RunL.callp rfl rfl ok_f88 (hm) (by first | rfl | simp only [pureL, pureB, Bool.and_self, Bool.and_true, Bool.true_and, Od.elems_pure, Od.pay_pure, Od.av_pure]) rfl ?_
      simp only [run0, run1, run2, run3, run4, run5, run6, run7, run8, run9, run10, run11, run12, run13, run14, run15, run16, run17, run18, run19, run20, run21, reduceCtorEq, Nat.reduceEqDiff, Nat.reduceAdd, Nat.reduceSub, Nat.reduceLeDiff, indexAddrA, indexRefA, appendA, strA, Nat.reduceMul, Nat.zero_mul, Nat.reduceMod, Int.reduceEq, Int.reduceLT, Int.reduceLE, Nat.reduceLT, Nat.lt_irrefl, Nat.reduceBEq, tys0, tys1, tys2, tys3, tys4, tys5, tys6, tys7, tys8, tys9, tys10, Try.ntmps74, Try.results74, av, getXn, i5]
      have hd1 : (d'.app (cons f k nil)).len = d'.len + 1 := by rw [len_app]; rfl
      refine ⟨⟨d'.app (cons f k nil), q', meetT (mergeT e f) (c * k) o', Y ++ [.box 53 [.sl false (elems f), .int .i64 k]]⟩, ⟨hn'.symm, ?_, by simp only [hd1]; omega, ?_⟩, by simp [len], by repeat constructor, ?_⟩
      · rw [← g2, crossI_cons]
      · simp only [hd1]; exact bndW_mono (by omega) s4
      · rfl

end Go.Proofs.Ytcgnpijbdgbffaa

namespace Go.Proofs.Ytcgnpijbdgbffaa
open Go K Od
set_option linter.unusedSimpArgs false
set_option linter.unusedVariables false
set_option maxHeartbeats 1600000
set_option maxRecDepth 8000

def crT (a b : Od) : Od := crossO b .nil a
def boxes : Od → List AObj
  | .nil => []
  | .cons f k r => .box 53 [.sl false (elems f), .int .i64 k] :: boxes r
theorem boxes_app : ∀ a b : Od, boxes (a.app b) = boxes a ++ boxes b
  | .nil, _ => rfl
  | .cons f k r, b => by simp [Od.app, boxes, boxes_app r b]
theorem powerN_ok (a : Od) (n : Int) (h : n ≠ 0) : Ct Try.prog 65 [av a, .int .i64 n] [] (av (.cons a n .nil)) [] := by
  refine Ct.by_ hmix [] Try.func65 rfl ?_
  have w1 : (n == 0) = false := by simp [h]
  simp only [run0, run1, run2, run3, run4, run5, run6, run7, run8, run9, run10, run11, run12, run13, run14, run15, run16, run17, run18, run19, run20, run21, reduceCtorEq, Nat.reduceEqDiff, Nat.reduceAdd, Nat.reduceSub, Nat.reduceLeDiff, indexAddrA, indexRefA, appendA, strA, Nat.reduceMul, Nat.zero_mul, Nat.reduceMod, Int.reduceEq, Int.reduceLT, Int.reduceLE, Nat.reduceLT, Nat.lt_irrefl, Nat.reduceBEq, tys0, tys1, tys2, tys3, tys4, tys5, tys6, tys7, tys8, tys9, tys10, Try.ntmps65, Try.results65, av, w1]
  exact Fin.eq rfl (av_pure (.cons a n .nil))
theorem crT_sz (a b : Od) (ga : goodT a = true) (gb : goodT b = true) : (crT a b).sz ≤ 1048576 := by
  have h1 := goodT_sz ga
  have h2 := goodT_sz gb
  have h3 := len_le a
  have h4 := len_le b
  have h5 := crossO_sz b a .nil (fun e he => by simp at he; subst he; exact good_gt gb) (good_gt ga) (by omega)
  simp only [sz] at h5
  unfold crT; omega
theorem odCross_good (a b : Od) (ga : goodT a = true) (gb : goodT b = true) : Ct Try.prog 74 [av a, av b] [] (av (crT a b)) [] :=
  odCross_ok a b (good_gt ga) (good_gt gb) (goodT_sz ga) (goodT_sz gb)

theorem crossI_all (e : Od) (c : Int) (ge : rng e ∧ desc none e ∧ 1 ≤ c ∧ c ≤ 1000000 ∧ e.sz ≤ 29) : ∀ (b o : Od), gtT b → ∀ {M : Int}, 0 ≤ M → bndW M o → (crossI e c o b).sz ≤ o.sz + 60 * b.len ∧ bndW (M + 1000000000000 * b.len) (crossI e c o b)
  | .nil, o, _, M, hM, h => ⟨by simp [crossI], bndW_mono (by simp only [len]; omega) h⟩
  | .cons f k r, o, gb, M, hM, h => by
    obtain ⟨_, _, _, s4, s5⟩ := cross_step ge gb.1 hM h
    obtain ⟨t1, t2⟩ := crossI_all e c ge r (meetT (mergeT e f) (c * k) o) gb.2 (by omega) s4
    rw [crossI_cons]
    refine ⟨by simp only [len]; omega, bndW_mono (by simp only [len]; omega) t2⟩

def NaturalProductOk (a b : Od) : Bool := goodT a && goodT b && goodT (crT a b)
def NaturalProductR (a b : Od) : Od := if NaturalProductOk a b then crT a b else .nil
theorem NaturalProductR_sz (a b : Od) (ha : a.sz ≤ 1048576) (hb : b.sz ≤ 1048576) : (NaturalProductR a b).sz ≤ 1048576 := by
  unfold NaturalProductR
  split
  · rename_i h
    simp only [NaturalProductOk, Bool.and_eq_true] at h
    have := goodT_sz h.2
    omega
  · simp [sz]

theorem implNaturalProduct_ok (a b : Od) (ha : a.sz ≤ 1048576) (hb : b.sz ≤ 1048576) : ∃ x M, Ct Try.prog 41 [av a, av b] [] (.tup [.agg [x], .bool (NaturalProductOk a b)]) M ∧ Own M (NaturalProductR a b) x := by
  cases hg : goodT a && goodT b
  · rw [show NaturalProductOk a b = false by simp [NaturalProductOk, hg], show NaturalProductR a b = .nil by simp [NaturalProductR, NaturalProductOk, hg]]
    refine ⟨nilV, ?_⟩
    apply ex1
    · apply Ct.by_ hmix [] Try.func41 rfl
      simp only [run0, run1, run2, run3, run4, run5, run6, run7, run8, run9, run10, run11, run12, run13, run14, run15, run16, run17, run18, run19, run20, run21, reduceCtorEq, Nat.reduceEqDiff, Nat.reduceAdd, Nat.reduceSub, Nat.reduceLeDiff, indexAddrA, indexRefA, appendA, strA, Nat.reduceMul, Nat.zero_mul, Nat.reduceMod, Int.reduceEq, Int.reduceLT, Int.reduceLE, Nat.reduceLT, Nat.lt_irrefl, Nat.reduceBEq, tys0, tys1, tys2, tys3, tys4, tys5, tys6, tys7, tys8, tys9, tys10, Try.ntmps41, Try.results41, av]
      refine RunL.callp rfl rfl ok_f50 (both_ok a b ha hb) (by first | rfl | simp only [pureL, pureB, Bool.and_self, Bool.and_true, Bool.true_and, Od.elems_pure, Od.pay_pure, Od.av_pure]) rfl ?_
      simp only [run0, run1, run2, run3, run4, run5, run6, run7, run8, run9, run10, run11, run12, run13, run14, run15, run16, run17, run18, run19, run20, run21, reduceCtorEq, Nat.reduceEqDiff, Nat.reduceAdd, Nat.reduceSub, Nat.reduceLeDiff, indexAddrA, indexRefA, appendA, strA, Nat.reduceMul, Nat.zero_mul, Nat.reduceMod, Int.reduceEq, Int.reduceLT, Int.reduceLE, Nat.reduceLT, Nat.lt_irrefl, Nat.reduceBEq, tys0, tys1, tys2, tys3, tys4, tys5, tys6, tys7, tys8, tys9, tys10, Try.ntmps41, Try.results41, hg]
      exact Fin.keep [] rfl rfl
    · exact ⟨[], .inl ⟨rfl, rfl, rfl⟩, List.nodup_nil, keepS_okSO _ _⟩
  have hg' := hg
  simp only [Bool.and_eq_true] at hg'
  obtain ⟨ga, gb⟩ := hg'
  have hsz := crT_sz a b ga gb
  have hk : NaturalProductOk a b = goodT (crT a b) := by simp [NaturalProductOk, hg]
  have hr : NaturalProductR a b = if goodT (crT a b) then crT a b else .nil := by simp only [NaturalProductR, hk]
  rw [hr, hk]
  have hbo := both_ok a b ha hb
  rw [hg] at hbo
  have ta := good_gt ga
  have tb := good_gt gb
  replace ha := goodT_sz ga
  replace hb := goodT_sz gb
  have hla := len_le a
  have hlb := len_le b
  suffices h : ∃ r M, Ct Try.prog 41 [av a, av b] [] r M ∧ (∃ x, r = .tup [.agg [x], .bool (goodT (crT a b))] ∧ Own M (if goodT (crT a b) then crT a b else .nil) x) by
    obtain ⟨r, M, h1, x, rfl, h2⟩ := h
    exact ⟨x, M, h1, h2⟩
  refine Ct.ex hmix [] Try.func41 rfl ?_
  simp only [run0, run1, run2, run3, run4, run5, run6, run7, run8, run9, run10, run11, run12, run13, run14, run15, run16, run17, run18, run19, run20, run21, reduceCtorEq, Nat.reduceEqDiff, Nat.reduceAdd, Nat.reduceSub, Nat.reduceLeDiff, indexAddrA, indexRefA, appendA, strA, Nat.reduceMul, Nat.zero_mul, Nat.reduceMod, Int.reduceEq, Int.reduceLT, Int.reduceLE, Nat.reduceLT, Nat.lt_irrefl, Nat.reduceBEq, tys0, tys1, tys2, tys3, tys4, tys5, tys6, tys7, tys8, tys9, tys10, Try.ntmps41, Try.results41, av]
  refine RunL.callp_ex rfl rfl ok_f50 hbo (by simp only [pureL, pureB, av_pure, Bool.and_self]) rfl ?_
  simp only [run0, run1, run2, run3, run4, run5, run6, run7, run8, run9, run10, run11, run12, run13, run14, run15, run16, run17, run18, run19, run20, run21, reduceCtorEq, Nat.reduceEqDiff, Nat.reduceAdd, Nat.reduceSub, Nat.reduceLeDiff, indexAddrA, indexRefA, appendA, strA, Nat.reduceMul, Nat.zero_mul, Nat.reduceMod, Int.reduceEq, Int.reduceLT, Int.reduceLE, Nat.reduceLT, Nat.lt_irrefl, Nat.reduceBEq, tys0, tys1, tys2, tys3, tys4, tys5, tys6, tys7, tys8, tys9, tys10, Try.ntmps41, Try.results41, elems_length]
  refine AWp.nilS_ex 3 0 rfl rfl ?_
  simp only [run0, run1, run2, run3, run4, run5, run6, run7, run8, run9, run10, run11, run12, run13, run14, run15, run16, run17, run18, run19, run20, run21, reduceCtorEq, Nat.reduceEqDiff, Nat.reduceAdd, Nat.reduceSub, Nat.reduceLeDiff, indexAddrA, indexRefA, appendA, strA, Nat.reduceMul, Nat.zero_mul, Nat.reduceMod, Int.reduceEq, Int.reduceLT, Int.reduceLE, Nat.reduceLT, Nat.lt_irrefl, Nat.reduceBEq, tys0, tys1, tys2, tys3, tys4, tys5, tys6, tys7, tys8, tys9, tys10, Try.ntmps41, Try.results41]
  refine AWp.loop_exK (ι := CrS) (fun p => ⟨[.agg [.sl false (elems a)], .agg [.sl false (elems b)], .ptr 0 0, .ptr 1 0, .ptr 2 0, .bool false, .ptr 3 0, .junk, .junk, .junk, .junk, .junk, .junk, .junk, .junk, .junk, .junk, .junk, .sl false (elems a), .int .i64 a.len, .int .i64 p.d.len, .junk, .junk, .junk, .junk, .junk, .junk, .junk, .junk, .junk, .junk, .junk, .junk, .junk, .junk, .junk, .junk, .junk, .junk, .junk, .junk, .junk, .junk, .junk, .junk, .junk, .junk, .junk, .junk, .junk],
      .box 29 [.sl false (elems a)] :: .box 29 [.sl false (elems b)] :: .box 29 [nilV] :: .box 29 [.sl false (elems p.o)] :: p.X⟩)
    (fun p => a = p.d.app p.r ∧ crossO b p.o p.r = crT a b ∧ p.o.sz ≤ 1740 * p.d.len ∧ bndW (29000000000000 * p.d.len) p.o) (fun p => p.r.len) ⟨.nil, a, .nil, []⟩ ⟨rfl, rfl, Nat.zero_le _, trivial⟩ ⟨by simp only [len, Int.natCast_zero, elems]; repeat constructor, rfl⟩ ?_
  rintro ⟨d, r, o, X⟩ ⟨h1, h2, h3, h4⟩
  simp only at h1 h2 h3 h4
  cases r with
  | nil =>
    left
    obtain ⟨e1, rfl⟩ := od_end h1
    have h5 : crT a b = o := h2.symm
    rw [h5] at hsz ⊢
    obtain ⟨x, M, hc, S, ho, hn, hM⟩ := told_ok o hsz
    refine ⟨.tup [.agg [shA (X.length + 4) x], .bool (goodT o)], ?_⟩
    apply ex1
    · refine W.sound hmix (E := []) ?_
      simp only [run0, run1, run2, run3, run4, run5, run6, run7, run8, run9, run10, run11, run12, run13, run14, run15, run16, run17, run18, run19, run20, run21, reduceCtorEq, Nat.reduceEqDiff, Nat.reduceAdd, Nat.reduceSub, Nat.reduceLeDiff, indexAddrA, indexRefA, appendA, strA, Nat.reduceMul, Nat.zero_mul, Nat.reduceMod, Int.reduceEq, Int.reduceLT, Int.reduceLE, Nat.reduceLT, Nat.lt_irrefl, Nat.reduceBEq, tys0, tys1, tys2, tys3, tys4, tys5, tys6, tys7, tys8, tys9, tys10, Try.ntmps41, Try.results41, elems_length, e1]
      refine RunL.callgp rfl rfl ok_f64 rfl hc (by simp only [pureL, pureB, av_pure, Bool.and_self]) rfl ?_
      simp only [run0, run1, run2, run3, run4, run5, run6, run7, run8, run9, run10, run11, run12, run13, run14, run15, run16, run17, run18, run19, run20, run21, reduceCtorEq, Nat.reduceEqDiff, Nat.reduceAdd, Nat.reduceSub, Nat.reduceLeDiff, indexAddrA, indexRefA, appendA, strA, Nat.reduceMul, Nat.zero_mul, Nat.reduceMod, Int.reduceEq, Int.reduceLT, Int.reduceLE, Nat.reduceLT, Nat.lt_irrefl, Nat.reduceBEq, tys0, tys1, tys2, tys3, tys4, tys5, tys6, tys7, tys8, tys9, tys10, Try.ntmps41, Try.results41, shA, shL]
      exact Fin.keep (S.map (· + (X.length + 4))) (by simp [okT, okTL, okT_sh ho]) rfl
    · exact ⟨_, rfl, Own.end (k := X.length + 4) (fun id => by
        rw [show id + (X.length + 4) = (X.length + id) + 4 by omega]
        simp only [List.getElem?_cons_succ]
        rw [getXn, List.getElem?_map]) ho hn⟩
  | cons e c q =>
    right
    obtain ⟨e1, e2, e5, hlt, hn, _⟩ := od_step h1 (by omega)
    have hda : d.len + (q.len + 1) = a.len := by rw [h1, len_app]; rfl
    have ge0 : gtT (cons e c q) := gt_app (h1 ▸ ta)
    have ge := ge0.1
    have hd1 : (d.app (cons e c nil)).len = d.len + 1 := by rw [len_app]; rfl
    refine ⟨⟨d.app (cons e c nil), q, crossI e c o b, X ++ .box 53 [.sl false (elems e), .int .i64 c] :: boxes b⟩, ⟨hn.symm, by rw [← crossO_cons]; exact h2, ?_, ?_⟩, by simp [len], ?_⟩
    · simp only [hd1]
      have := (crossI_all e c ge b o tb (M := 29000000000000 * d.len) (by omega) h4).1
      omega
    · simp only [hd1]
      exact bndW_mono (by omega) (crossI_all e c ge b o tb (M := 29000000000000 * d.len) (by omega) h4).2
    refine W.sound hmix (E := []) ?_
    simp only [run0, run1, run2, run3, run4, run5, run6, run7, run8, run9, run10, run11, run12, run13, run14, run15, run16, run17, run18, run19, run20, run21, reduceCtorEq, Nat.reduceEqDiff, Nat.reduceAdd, Nat.reduceSub, Nat.reduceLeDiff, indexAddrA, indexRefA, appendA, strA, Nat.reduceMul, Nat.zero_mul, Nat.reduceMod, Int.reduceEq, Int.reduceLT, Int.reduceLE, Nat.reduceLT, Nat.lt_irrefl, Nat.reduceBEq, tys0, tys1, tys2, tys3, tys4, tys5, tys6, tys7, tys8, tys9, tys10, Try.ntmps41, Try.results41, elems_length, e1, e2, Int.toNat_natCast, Int.natCast_nonneg]
    refine AWp.loop_inv (ι := CrS) (fun p => ⟨[.agg [.sl false (elems a)], .agg [.sl false (elems b)], .ptr 0 0, .ptr 1 0, .ptr 2 0, .bool false, .ptr 3 0, .junk, .ptr (X.length + 4) 0, .junk, .junk, .junk, .junk, .junk, .junk, .junk, .junk, .junk, .sl false (elems a), .int .i64 a.len, .int .i64 d.len, .junk, .junk, .junk, .junk, .sl false (elems b), .int .i64 b.len, .int .i64 p.d.len, .junk, .junk, .junk, .junk, .junk, .junk, .junk, .junk, .junk, .junk, .junk, .junk, .junk, .junk, .junk, .junk, .junk, .junk, .junk, .junk, .junk, .junk],
        .box 29 [.sl false (elems a)] :: .box 29 [.sl false (elems b)] :: .box 29 [nilV] :: .box 29 [.sl false (elems p.o)] :: (X ++ .box 53 [.sl false (elems e), .int .i64 c] :: p.X)⟩)
      (fun p => b = p.d.app p.r ∧ crossI e c p.o p.r = crossI e c o b ∧ p.o.sz ≤ 1740 * d.len + 60 * p.d.len ∧ bndW (29000000000000 * d.len + 1000000000000 * p.d.len) p.o ∧ p.X = boxes p.d) (fun p => p.r.len) ⟨.nil, b, o, []⟩ ⟨rfl, rfl, by simp only [len]; omega, bndW_mono (by simp only [len]; omega) h4, rfl⟩ ⟨by simp only [len, Int.natCast_zero]; repeat constructor, rfl⟩ ?_
    rintro ⟨d', r', o', Y⟩ ⟨g1, g2, g3, g4, g5⟩
    simp only at g1 g2 g3 g4 g5
    refine W.sound hmix (E := []) ?_
    cases r' with
    | nil =>
      obtain ⟨i1, hdd⟩ := od_end g1
      subst g5
      have g6 : o' = crossI e c o b := g2
      have g7 : boxes d' = boxes b := by rw [hdd]
      simp only [run0, run1, run2, run3, run4, run5, run6, run7, run8, run9, run10, run11, run12, run13, run14, run15, run16, run17, run18, run19, run20, run21, reduceCtorEq, Nat.reduceEqDiff, Nat.reduceAdd, Nat.reduceSub, Nat.reduceLeDiff, indexAddrA, indexRefA, appendA, strA, Nat.reduceMul, Nat.zero_mul, Nat.reduceMod, Int.reduceEq, Int.reduceLT, Int.reduceLE, Nat.reduceLT, Nat.lt_irrefl, Nat.reduceBEq, tys0, tys1, tys2, tys3, tys4, tys5, tys6, tys7, tys8, tys9, tys10, Try.ntmps41, Try.results41, elems_length, i1, e5]
      rw [g6, g7]
      exact ⟨by repeat constructor, rfl⟩
    | cons f k q' =>
      obtain ⟨i1, i2, i5, hlt', hn', _⟩ := od_step g1 (by omega)
      have hdb : d'.len + (q'.len + 1) = b.len := by rw [g1, len_app]; rfl
      have gf0 : gtT (cons f k q') := gt_app (g1 ▸ tb)
      have gf := gf0.1
      obtain ⟨s1, s2, s3, s4, s5⟩ := cross_step ge gf (M := 29000000000000 * d.len + 1000000000000 * d'.len) (by omega) g4
      have hw : IntKind.i64.wrap (c * k) = c * k := w64_id (by omega) (by omega)
      have hj := naturalSumW_ok e f (by omega) (by omega) (m := 1000000) (by omega) (rng_bndW ge.1 (by omega)) (rng_bndW gf.1 (by omega))
      have hp := powerN_ok (mergeT e f) (c * k) (by omega)
      have hms := mergeT_sz e f
      have hm := naturalSumW_ok o' (.cons (mergeT e f) (c * k) .nil) (by omega) (by simp only [sz]; omega) (m := 29000000000000 * d.len + 1000000000000 * d'.len + 1000000000000) (by omega) (bndW_mono (by omega) g4) (bndW_mono (by omega) s3)
      rw [merge_single] at hm
      simp only [run0, run1, run2, run3, run4, run5, run6, run7, run8, run9, run10, run11, run12, run13, run14, run15, run16, run17, run18, run19, run20, run21, reduceCtorEq, Nat.reduceEqDiff, Nat.reduceAdd, Nat.reduceSub, Nat.reduceLeDiff, indexAddrA, indexRefA, appendA, strA, Nat.reduceMul, Nat.zero_mul, Nat.reduceMod, Int.reduceEq, Int.reduceLT, Int.reduceLE, Nat.reduceLT, Nat.lt_irrefl, Nat.reduceBEq, tys0, tys1, tys2, tys3, tys4, tys5, tys6, tys7, tys8, tys9, tys10, Try.ntmps41, Try.results41, elems_length, i1, i2, setXn, getXn, List.set_cons_succ, Int.toNat_natCast, Int.natCast_nonneg]
      refine ⟨by kernel_rfl, ?_⟩
      refine RunL.callp rfl rfl ok_f71 (hj) (by first | rfl | simp only [pureL, pureB, Bool.and_self, Bool.and_true, Bool.true_and, Od.elems_pure, Od.pay_pure, Od.av_pure]) rfl ?_
      simp only [run0, run1, run2, run3, run4, run5, run6, run7, run8, run9, run10, run11, run12, run13, run14, run15, run16, run17, run18, run19, run20, run21, reduceCtorEq, Nat.reduceEqDiff, Nat.reduceAdd, Nat.reduceSub, Nat.reduceLeDiff, indexAddrA, indexRefA, appendA, strA, Nat.reduceMul, Nat.zero_mul, Nat.reduceMod, Int.reduceEq, Int.reduceLT, Int.reduceLE, Nat.reduceLT, Nat.lt_irrefl, Nat.reduceBEq, tys0, tys1, tys2, tys3, tys4, tys5, tys6, tys7, tys8, tys9, tys10, Try.ntmps41, Try.results41, av, getXn, hw]
      refine RunL.callp rfl rfl ok_f65 (hp) (by first | rfl | simp only [pureL, pureB, Bool.and_self, Bool.and_true, Bool.true_and, Od.elems_pure, Od.pay_pure, Od.av_pure]) rfl ?_
      simp only [run0, run1, run2, run3, run4, run5, run6, run7, run8, run9, run10, run11, run12, run13, run14, run15, run16, run17, run18, run19, run20, run21, reduceCtorEq, Nat.reduceEqDiff, Nat.reduceAdd, Nat.reduceSub, Nat.reduceLeDiff, indexAddrA, indexRefA, appendA, strA, Nat.reduceMul, Nat.zero_mul, Nat.reduceMod, Int.reduceEq, Int.reduceLT, Int.reduceLE, Nat.reduceLT, Nat.lt_irrefl, Nat.reduceBEq, tys0, tys1, tys2, tys3, tys4, tys5, tys6, tys7, tys8, tys9, tys10, Try.ntmps41, Try.results41, av]
      refine RunL.callp rfl rfl ok_f71 (hm) (by first | rfl | simp only [pureL, pureB, Bool.and_self, Bool.and_true, Bool.true_and, Od.elems_pure, Od.pay_pure, Od.av_pure]) rfl ?_
      simp only [run0, run1, run2, run3, run4, run5, run6, run7, run8, run9, run10, run11, run12, run13, run14, run15, run16, run17, run18, run19, run20, run21, reduceCtorEq, Nat.reduceEqDiff, Nat.reduceAdd, Nat.reduceSub, Nat.reduceLeDiff, indexAddrA, indexRefA, appendA, strA, Nat.reduceMul, Nat.zero_mul, Nat.reduceMod, Int.reduceEq, Int.reduceLT, Int.reduceLE, Nat.reduceLT, Nat.lt_irrefl, Nat.reduceBEq, tys0, tys1, tys2, tys3, tys4, tys5, tys6, tys7, tys8, tys9, tys10, Try.ntmps41, Try.results41, av, getXn, i5]
      have hd2 : (d'.app (cons f k nil)).len = d'.len + 1 := by rw [len_app]; rfl
      refine ⟨⟨d'.app (cons f k nil), q', meetT (mergeT e f) (c * k) o', Y ++ [.box 53 [.sl false (elems f), .int .i64 k]]⟩, ⟨hn'.symm, ?_, by simp only [hd2]; omega, ?_, ?_⟩, by simp [len], by repeat constructor, ?_⟩
      · rw [← g2, crossI_cons]
      · simp only [hd2]; exact bndW_mono (by omega) s4
      · simp only [boxes_app, g5]; rfl
      · rfl
theorem specNaturalProduct_ok (a b : Od) (ha : a.sz ≤ 1048576) (hb : b.sz ≤ 1048576) : Ct Try.prog 40 [av a, av b] [] (.tup [av (NaturalProductR a b), .bool (NaturalProductOk a b)]) [] := by
  have fin0 : Vw [AObj.box 29 [.sl false (elems a)], .box 29 [.sl false (elems b)], .box 29 [nilV]] (.tup [.agg [nilV], .bool false]) (.tup [av .nil, .bool false]) := Vw.tup (.cons (Vw.agg (.cons (Vw.nil false) .nil)) (.cons (Vw.pur (Pur.bool _)) .nil))
  refine Ct.by_ hmix [] Try.func40 rfl ?_
  simp only [run0, run1, run2, run3, run4, run5, run6, run7, run8, run9, run10, run11, run12, run13, run14, run15, run16, run17, run18, run19, run20, run21, reduceCtorEq, Nat.reduceEqDiff, Nat.reduceAdd, Nat.reduceSub, Nat.reduceLeDiff, indexAddrA, indexRefA, appendA, strA, Nat.reduceMul, Nat.zero_mul, Nat.reduceMod, Int.reduceEq, Int.reduceLT, Int.reduceLE, Nat.reduceLT, Nat.lt_irrefl, Nat.reduceBEq, tys0, tys1, tys2, tys3, tys4, tys5, tys6, tys7, tys8, tys9, tys10, Try.ntmps40, Try.results40, av]
  refine RunL.callp rfl rfl ok_f45 (odGood_ok a ha) (by first | rfl | simp only [pureL, pureB, Bool.and_self, Bool.and_true, Bool.true_and, Od.elems_pure, Od.pay_pure, Od.av_pure]) rfl ?_
  cases ga : goodT a
  · rw [show NaturalProductOk a b = false by simp [NaturalProductOk, ga], show NaturalProductR a b = .nil by simp [NaturalProductR, NaturalProductOk, ga]]
    simp only [run0, run1, run2, run3, run4, run5, run6, run7, run8, run9, run10, run11, run12, run13, run14, run15, run16, run17, run18, run19, run20, run21, reduceCtorEq, Nat.reduceEqDiff, Nat.reduceAdd, Nat.reduceSub, Nat.reduceLeDiff, indexAddrA, indexRefA, appendA, strA, Nat.reduceMul, Nat.zero_mul, Nat.reduceMod, Int.reduceEq, Int.reduceLT, Int.reduceLE, Nat.reduceLT, Nat.lt_irrefl, Nat.reduceBEq, tys0, tys1, tys2, tys3, tys4, tys5, tys6, tys7, tys8, tys9, tys10, Try.ntmps40, Try.results40, ga]
    exact Fin.value fin0
  simp only [run0, run1, run2, run3, run4, run5, run6, run7, run8, run9, run10, run11, run12, run13, run14, run15, run16, run17, run18, run19, run20, run21, reduceCtorEq, Nat.reduceEqDiff, Nat.reduceAdd, Nat.reduceSub, Nat.reduceLeDiff, indexAddrA, indexRefA, appendA, strA, Nat.reduceMul, Nat.zero_mul, Nat.reduceMod, Int.reduceEq, Int.reduceLT, Int.reduceLE, Nat.reduceLT, Nat.lt_irrefl, Nat.reduceBEq, tys0, tys1, tys2, tys3, tys4, tys5, tys6, tys7, tys8, tys9, tys10, Try.ntmps40, Try.results40, ga]
  refine RunL.callp rfl rfl ok_f45 (odGood_ok b hb) (by first | rfl | simp only [pureL, pureB, Bool.and_self, Bool.and_true, Bool.true_and, Od.elems_pure, Od.pay_pure, Od.av_pure]) rfl ?_
  cases gb : goodT b
  · rw [show NaturalProductOk a b = false by simp [NaturalProductOk, gb], show NaturalProductR a b = .nil by simp [NaturalProductR, NaturalProductOk, gb]]
    simp only [run0, run1, run2, run3, run4, run5, run6, run7, run8, run9, run10, run11, run12, run13, run14, run15, run16, run17, run18, run19, run20, run21, reduceCtorEq, Nat.reduceEqDiff, Nat.reduceAdd, Nat.reduceSub, Nat.reduceLeDiff, indexAddrA, indexRefA, appendA, strA, Nat.reduceMul, Nat.zero_mul, Nat.reduceMod, Int.reduceEq, Int.reduceLT, Int.reduceLE, Nat.reduceLT, Nat.lt_irrefl, Nat.reduceBEq, tys0, tys1, tys2, tys3, tys4, tys5, tys6, tys7, tys8, tys9, tys10, Try.ntmps40, Try.results40, gb]
    exact Fin.value fin0
  have hsz : (crT a b).sz ≤ 1048576 := crT_sz a b ga gb
  have hk : NaturalProductOk a b = goodT (crT a b) := by simp [NaturalProductOk, ga, gb]
  have hr : NaturalProductR a b = if goodT (crT a b) then crT a b else .nil := by simp only [NaturalProductR, hk]
  rw [hr, hk]
  simp only [run0, run1, run2, run3, run4, run5, run6, run7, run8, run9, run10, run11, run12, run13, run14, run15, run16, run17, run18, run19, run20, run21, reduceCtorEq, Nat.reduceEqDiff, Nat.reduceAdd, Nat.reduceSub, Nat.reduceLeDiff, indexAddrA, indexRefA, appendA, strA, Nat.reduceMul, Nat.zero_mul, Nat.reduceMod, Int.reduceEq, Int.reduceLT, Int.reduceLE, Nat.reduceLT, Nat.lt_irrefl, Nat.reduceBEq, tys0, tys1, tys2, tys3, tys4, tys5, tys6, tys7, tys8, tys9, tys10, Try.ntmps40, Try.results40, gb]
  refine RunL.callp rfl rfl ok_f74 (odCross_good a b ga gb) (by first | rfl | simp only [pureL, pureB, Bool.and_self, Bool.and_true, Bool.true_and, Od.elems_pure, Od.pay_pure, Od.av_pure]) rfl ?_
  simp only [run0, run1, run2, run3, run4, run5, run6, run7, run8, run9, run10, run11, run12, run13, run14, run15, run16, run17, run18, run19, run20, run21, reduceCtorEq, Nat.reduceEqDiff, Nat.reduceAdd, Nat.reduceSub, Nat.reduceLeDiff, indexAddrA, indexRefA, appendA, strA, Nat.reduceMul, Nat.zero_mul, Nat.reduceMod, Int.reduceEq, Int.reduceLT, Int.reduceLE, Nat.reduceLT, Nat.lt_irrefl, Nat.reduceBEq, tys0, tys1, tys2, tys3, tys4, tys5, tys6, tys7, tys8, tys9, tys10, Try.ntmps40, Try.results40]
  refine RunL.callp rfl rfl ok_f62 (odIf_ok (crT a b) hsz) (by first | rfl | simp only [pureL, pureB, Bool.and_self, Bool.and_true, Bool.true_and, Od.elems_pure, Od.pay_pure, Od.av_pure]) rfl ?_
  simp only [run0, run1, run2, run3, run4, run5, run6, run7, run8, run9, run10, run11, run12, run13, run14, run15, run16, run17, run18, run19, run20, run21, reduceCtorEq, Nat.reduceEqDiff, Nat.reduceAdd, Nat.reduceSub, Nat.reduceLeDiff, indexAddrA, indexRefA, appendA, strA, Nat.reduceMul, Nat.zero_mul, Nat.reduceMod, Int.reduceEq, Int.reduceLT, Int.reduceLE, Nat.reduceLT, Nat.lt_irrefl, Nat.reduceBEq, tys0, tys1, tys2, tys3, tys4, tys5, tys6, tys7, tys8, tys9, tys10, Try.ntmps40, Try.results40, av]
  exact Fin.eq rfl (by simp only [pureB, pureL, elems_pure, Bool.and_self])



theorem FnExactNaturalProduct_ok {a0 a1 : AV} (h0 : IsOf Try.prog 24 a0) (h1 : IsOf Try.prog 24 a1) : Ct Try.prog 13 [a0, a1] [] (.bool true) [] := by
  obtain ⟨a, rfl, hf⟩ := laws_isOd h0
  obtain ⟨b, rfl, hft2⟩ := laws_isOd h1
  rcases szR_spec a.sz 1048576 with ⟨hs, hr⟩ | ⟨hs, hr⟩
  case inr =>
    refine Ct.by_ hmix [] Try.func13 rfl ?_
    simp only [run0, run1, run2, run3, run4, run5, run6, run7, run8, run9, run10, run11, run12, run13, run14, run15, run16, run17, run18, run19, run20, run21, reduceCtorEq, Nat.reduceEqDiff, Nat.reduceAdd, Nat.reduceSub, Nat.reduceLeDiff, indexAddrA, indexRefA, appendA, strA, Nat.reduceMul, Nat.zero_mul, Nat.reduceMod, Int.reduceEq, Int.reduceLT, Int.reduceLE, Nat.reduceLT, Nat.lt_irrefl, Nat.reduceBEq, tys0, tys1, tys2, tys3, tys4, tys5, tys6, tys7, tys8, tys9, tys10, Try.ntmps13, Try.results13, av]
    refine RunL.callp rfl rfl ok_f15 (szOrdinal_ok a 1048576 hf (by omega) (by omega)) (by first | rfl | simp only [pureL, pureB, Bool.and_self, Bool.and_true, Bool.true_and, Od.elems_pure, Od.pay_pure, Od.av_pure]) rfl ?_
    have e1 : szR a.sz 1048576 < 0 := by omega
    simp only [run0, run1, run2, run3, run4, run5, run6, run7, run8, run9, run10, run11, run12, run13, run14, run15, run16, run17, run18, run19, run20, run21, reduceCtorEq, Nat.reduceEqDiff, Nat.reduceAdd, Nat.reduceSub, Nat.reduceLeDiff, indexAddrA, indexRefA, appendA, strA, Nat.reduceMul, Nat.zero_mul, Nat.reduceMod, Int.reduceEq, Int.reduceLT, Int.reduceLE, Nat.reduceLT, Nat.lt_irrefl, Nat.reduceBEq, tys0, tys1, tys2, tys3, tys4, tys5, tys6, tys7, tys8, tys9, tys10, Try.ntmps13, Try.results13, e1]
    exact Fin.eq rfl rfl
  have ha : a.sz ≤ 1048576 := by omega
  have e1 : ¬ (szR a.sz 1048576 < 0) := by omega
  rcases szR_spec b.sz (szR a.sz 1048576) with ⟨hs2, hr2⟩ | ⟨hs2, hr2⟩
  case inr =>
    refine Ct.by_ hmix [] Try.func13 rfl ?_
    simp only [run0, run1, run2, run3, run4, run5, run6, run7, run8, run9, run10, run11, run12, run13, run14, run15, run16, run17, run18, run19, run20, run21, reduceCtorEq, Nat.reduceEqDiff, Nat.reduceAdd, Nat.reduceSub, Nat.reduceLeDiff, indexAddrA, indexRefA, appendA, strA, Nat.reduceMul, Nat.zero_mul, Nat.reduceMod, Int.reduceEq, Int.reduceLT, Int.reduceLE, Nat.reduceLT, Nat.lt_irrefl, Nat.reduceBEq, tys0, tys1, tys2, tys3, tys4, tys5, tys6, tys7, tys8, tys9, tys10, Try.ntmps13, Try.results13, av]
    refine RunL.callp rfl rfl ok_f15 (szOrdinal_ok a 1048576 hf (by omega) (by omega)) (by first | rfl | simp only [pureL, pureB, Bool.and_self, Bool.and_true, Bool.true_and, Od.elems_pure, Od.pay_pure, Od.av_pure]) rfl ?_
    simp only [run0, run1, run2, run3, run4, run5, run6, run7, run8, run9, run10, run11, run12, run13, run14, run15, run16, run17, run18, run19, run20, run21, reduceCtorEq, Nat.reduceEqDiff, Nat.reduceAdd, Nat.reduceSub, Nat.reduceLeDiff, indexAddrA, indexRefA, appendA, strA, Nat.reduceMul, Nat.zero_mul, Nat.reduceMod, Int.reduceEq, Int.reduceLT, Int.reduceLE, Nat.reduceLT, Nat.lt_irrefl, Nat.reduceBEq, tys0, tys1, tys2, tys3, tys4, tys5, tys6, tys7, tys8, tys9, tys10, Try.ntmps13, Try.results13, e1]
    refine RunL.callp rfl rfl ok_f15 (szOrdinal_ok b (szR a.sz 1048576) hft2 (by omega) (by omega)) (by first | rfl | simp only [pureL, pureB, Bool.and_self, Bool.and_true, Bool.true_and, Od.elems_pure, Od.pay_pure, Od.av_pure]) rfl ?_
    have e2 : szR b.sz (szR a.sz 1048576) < 0 := by omega
    simp only [run0, run1, run2, run3, run4, run5, run6, run7, run8, run9, run10, run11, run12, run13, run14, run15, run16, run17, run18, run19, run20, run21, reduceCtorEq, Nat.reduceEqDiff, Nat.reduceAdd, Nat.reduceSub, Nat.reduceLeDiff, indexAddrA, indexRefA, appendA, strA, Nat.reduceMul, Nat.zero_mul, Nat.reduceMod, Int.reduceEq, Int.reduceLT, Int.reduceLE, Nat.reduceLT, Nat.lt_irrefl, Nat.reduceBEq, tys0, tys1, tys2, tys3, tys4, tys5, tys6, tys7, tys8, tys9, tys10, Try.ntmps13, Try.results13, e2]
    exact Fin.eq rfl rfl
  have hb : b.sz ≤ 1048576 := by omega
  have e2 : ¬ (szR b.sz (szR a.sz 1048576) < 0) := by omega
  generalize hR : NaturalProductR a b = R
  generalize hO : NaturalProductOk a b = ok
  have hsp := specNaturalProduct_ok a b ha hb
  obtain ⟨g, M1, hi, S1, ho1, hn1, hM1⟩ := implNaturalProduct_ok a b ha hb
  rw [hR, hO] at hsp
  rw [hO] at hi
  rw [hR] at ho1
  have hRs : R.sz ≤ 1048576 := by rw [← hR]; exact NaturalProductR_sz a b ha hb
  obtain ⟨x, M0, hx, S0, ho0, hn0, hM0⟩ := toOrdinalOwn_ok a ha
  obtain ⟨y, My, hy, Sy, hoy, hny, hMy⟩ := toOrdinalOwn_ok b hb
  generalize hB1 : AObj.box 24 [.sl false (elems a)] = B1 at *
  generalize hB2 : AObj.box 24 [.sl false (elems b)] = B2 at *
  generalize hBW : AObj.box 29 [.sl false (elems R)] = BW at *
  -- the memory behind all
  generalize hM0' : M0.map (shO 3) = N0 at *
  generalize hMy' : My.map (shO (N0.length + 1 + 1 + 1 + 1)) = Ny at *
  generalize hM1' : M1.map (shO (N0.length + (Ny.length + 1 + 1) + 1 + 1 + 1)) = N1 at *
  have ox : ∀ X, OwnR (B1 :: B2 :: BW :: (N0 ++ X)) 53 2 a (shA 3 x) (S0.map (· + 3)) := fun X =>
    (OwnR.sh (L' := B1 :: B2 :: BW :: N0) (fun id => by simp [← hM0']) ho0).more X
  generalize hx' : shA 3 x = X0 at *
  have n0 := nodup_add 3 hn0
  generalize hS0 : S0.map (· + 3) = T0 at *
  generalize hBX : AObj.box 29 [X0] = BX at *
  have oy : ∀ X, OwnR (B1 :: B2 :: BW :: (N0 ++ BX :: (Ny ++ X))) 53 2 b (shA (N0.length + 1 + 1 + 1 + 1) y) (Sy.map (· + (N0.length + 1 + 1 + 1 + 1))) := fun X => by
    have := (OwnR.sh (L' := B1 :: B2 :: BW :: (N0 ++ BX :: Ny)) (fun id => by
      rw [show id + (N0.length + 1 + 1 + 1 + 1) = (N0.length + (id + 1)) + 3 by omega]
      simp only [List.getElem?_cons_succ]
      rw [getXn, List.getElem?_cons_succ, ← hMy', List.getElem?_map]) hoy).more X
    simp only [List.cons_append, List.append_assoc] at this
    exact this
  have ny := nodup_add (N0.length + 1 + 1 + 1 + 1) hny
  generalize hY : shA (N0.length + 1 + 1 + 1 + 1) y = Y0 at *
  generalize hSy : Sy.map (· + (N0.length + 1 + 1 + 1 + 1)) = Ty at *
  generalize hBY : AObj.box 29 [Y0] = BY at *
  have og : ∀ X, OwnR (B1 :: B2 :: BW :: (N0 ++ BX :: (Ny ++ BY :: (N1 ++ X)))) 53 2 R (shA (N0.length + (Ny.length + 1 + 1) + 1 + 1 + 1) g) (S1.map (· + (N0.length + (Ny.length + 1 + 1) + 1 + 1 + 1))) := fun X => by
    have := (OwnR.sh (L' := B1 :: B2 :: BW :: (N0 ++ BX :: (Ny ++ BY :: N1))) (fun id => by
      rw [show id + (N0.length + (Ny.length + 1 + 1) + 1 + 1 + 1) = (N0.length + ((Ny.length + (id + 1)) + 1)) + 3 by omega]
      simp only [List.getElem?_cons_succ]
      rw [getXn, List.getElem?_cons_succ, getXn, List.getElem?_cons_succ, ← hM1', List.getElem?_map]) ho1).more X
    simp only [List.cons_append, List.append_assoc] at this
    exact this
  have n1 := nodup_add (N0.length + (Ny.length + 1 + 1) + 1 + 1 + 1) hn1
  have oS : okS (.tup [.agg [g], .bool ok]) = true := okS_res ho1.form.1
  generalize hG : shA (N0.length + (Ny.length + 1 + 1) + 1 + 1 + 1) g = G0 at *
  generalize hS1 : S1.map (· + (N0.length + (Ny.length + 1 + 1) + 1 + 1 + 1)) = T1 at *
  have xlt : ∀ id ∈ T0, id < N0.length + 3 := fun id hid => by have := (ox []).lt id hid; simpa using this
  have ylo : ∀ id ∈ Ty, N0.length + 4 ≤ id := fun id hid => by
    rw [← hSy] at hid
    obtain ⟨q, _, rfl⟩ := List.mem_map.1 hid
    omega
  have ylt : ∀ id ∈ Ty, id < N0.length + Ny.length + 4 := fun id hid => by
    have := (oy []).lt id hid
    simp at this; omega
  have glo : ∀ id ∈ T1, N0.length + Ny.length + 5 ≤ id := fun id hid => by
    rw [← hS1] at hid
    obtain ⟨q, _, rfl⟩ := List.mem_map.1 hid
    omega
  have nbox : ∀ {L : List AObj} {b : Od} {y : AV} {S : List Nat} {id : Nat} {T : TypeId} {cs : List AV}, OwnR L 53 2 b y S → L[id]? = some (.box T cs) → id ∉ S := fun h hb hid => by
    obtain ⟨_, _, h2, _⟩ := h.objs _ hid
    rw [hb] at h2; cases h2
  generalize hBG : AObj.box 29 [G0] = BG at *
  -- the marks of the arguments
  obtain ⟨L0, hc0, hm0, hf0, hl0⟩ := markOrdinal_ok a X0 T0 (B1 :: B2 :: BW :: (N0 ++ BX :: (Ny ++ BY :: (N1 ++ [BG])))) 1 (ox _) n0 (by omega) (by omega)
  have keep0 : ∀ (id : Nat) o, (B1 :: B2 :: BW :: (N0 ++ BX :: (Ny ++ BY :: (N1 ++ [BG]))) : List AObj)[id]? = some o → id ∉ T0 → L0[id]? = some o := fun id o h hn => by
    rw [hf0 id hn (List.getElem?_eq_some_iff.1 h).1]; exact h
  have keepB0 : ∀ (id : Nat) T cs, (B1 :: B2 :: BW :: (N0 ++ BX :: (Ny ++ BY :: (N1 ++ [BG]))) : List AObj)[id]? = some (.box T cs) → L0[id]? = some (.box T cs) := fun id T cs h => keep0 id _ h (nbox (ox _) h)
  have oy0 : OwnR L0 53 2 b Y0 Ty := (oy _).mono fun id hid g1 es1 h => keep0 id _ h (fun h2 => by have := xlt id h2; have := ylo id hid; omega)
  have og0 : OwnR L0 53 2 R G0 T1 := (og _).mono fun id hid g1 es1 h => keep0 id _ h (fun h2 => by have := xlt id h2; have := glo id hid; omega)
  have s0 : L0[0]? = some B1 := by rw [← hB1]; exact keepB0 0 _ _ (by rw [hB1]; rfl)
  have s1 : L0[1]? = some B2 := by rw [← hB2]; exact keepB0 1 _ _ (by rw [hB2]; rfl)
  have s2 : L0[2]? = some BW := by rw [← hBW]; exact keepB0 2 _ _ (by rw [hBW]; rfl)
  have s9 : L0[N0.length + (Ny.length + 1) + 1 + 1 + 1]? = some BY := by
    rw [← hBY]; exact keepB0 _ _ _ (by rw [hBY]; simp only [List.getElem?_cons_succ, getXn, getX0, List.getElem?_cons_zero])
  have s10 : L0[N0.length + (Ny.length + (N1.length + 1) + 1) + 1 + 1 + 1]? = some BG := by
    rw [← hBG]; exact keepB0 _ _ _ (by rw [hBG]; simp only [List.getElem?_cons_succ, getXn, getX0, List.getElem?_cons_zero])
  obtain ⟨L1, hc1, hm1, hf1, hl1⟩ := markOrdinal_ok b Y0 Ty L0 (1 + a.sz) oy0 ny (by omega) (by omega)
  have keepB1 : ∀ {id : Nat} {T : TypeId} {cs : List AV}, L0[id]? = some (.box T cs) → L1[id]? = some (.box T cs) := fun h => by
    rw [hf1 _ (nbox oy0 h) (List.getElem?_eq_some_iff.1 h).1]; exact h
  have q0 : L1[0]? = some B1 := by rw [← hB1] at *; exact keepB1 s0
  have q1 : L1[1]? = some B2 := by rw [← hB2] at *; exact keepB1 s1
  have q2 : L1[2]? = some BW := by rw [← hBW] at *; exact keepB1 s2
  have q10 : L1[N0.length + (Ny.length + (N1.length + 1) + 1) + 1 + 1 + 1]? = some BG := by rw [← hBG] at *; exact keepB1 s10
  have og1 : OwnR L1 53 2 R G0 T1 := og0.mono fun id hid g1 es1 h => by
    rw [hf1 id (fun h2 => by have := ylt id h2; have := glo id hid; omega) (List.getElem?_eq_some_iff.1 h).1]; exact h
  -- the marks of the result
  obtain ⟨L2, hc2, og2, hf2, hl2⟩ := markOrdinal_ok R G0 T1 L1 1 og1 n1 (by omega) (by omega)
  have keepB2 : ∀ {id : Nat} {T : TypeId} {cs : List AV}, L1[id]? = some (.box T cs) → L2[id]? = some (.box T cs) := fun h => by
    rw [hf2 _ (nbox og1 h) (List.getElem?_eq_some_iff.1 h).1]; exact h
  have p0 : L2[0]? = some B1 := by rw [← hB1] at *; exact keepB2 q0
  have p1 : L2[1]? = some B2 := by rw [← hB2] at *; exact keepB2 q1
  have p2 : L2[2]? = some BW := by rw [← hBW] at *; exact keepB2 q2
  have p10 : L2[N0.length + (Ny.length + (N1.length + 1) + 1) + 1 + 1 + 1]? = some BG := by rw [← hBG] at *; exact keepB2 q10
  have r2 : ∀ X, (L2 ++ X)[2]? = some BW := fun X => by rw [List.getElem?_append_left (List.getElem?_eq_some_iff.1 p2).1]; exact p2
  have r10 : ∀ X, (L2 ++ X)[N0.length + (Ny.length + (N1.length + 1) + 1) + 1 + 1 + 1]? = some BG := fun X => by rw [List.getElem?_append_left (List.getElem?_eq_some_iff.1 p10).1]; exact p10
  have oh : ∀ X, OwnR (L2 ++ (M1.map (shO L2.length) ++ X)) 53 2 R (shA L2.length g) (S1.map (· + L2.length)) := fun X => by
    rw [← List.append_assoc]; exact (OwnR.sh (more_get L2 M1) ho1).more X
  have hiv : Ct Try.prog 41 [av a, av b] [] (.tup [av R, .bool ok]) [] := hi.toV (Vw.tup (.cons (Vw.agg (.cons (ho1.view false) .nil)) (.cons (Vw.pur (Pur.bool _)) .nil)))
  have e3 : ¬ (1 + (a.sz : Int) + (b.sz : Int) < 0) := by omega
  have e4 : ¬ (1 + (R.sz : Int) < 0) := by omega
  subst hB1 hB2 hBW hBX hBY hBG
  refine Ct.by_ hmix [19] Try.func13 rfl ?_
  simp only [run0, run1, run2, run3, run4, run5, run6, run7, run8, run9, run10, run11, run12, run13, run14, run15, run16, run17, run18, run19, run20, run21, reduceCtorEq, Nat.reduceEqDiff, Nat.reduceAdd, Nat.reduceSub, Nat.reduceLeDiff, indexAddrA, indexRefA, appendA, strA, Nat.reduceMul, Nat.zero_mul, Nat.reduceMod, Int.reduceEq, Int.reduceLT, Int.reduceLE, Nat.reduceLT, Nat.lt_irrefl, Nat.reduceBEq, tys0, tys1, tys2, tys3, tys4, tys5, tys6, tys7, tys8, tys9, tys10, Try.ntmps13, Try.results13, av]
  refine RunL.callp rfl rfl ok_f15 (szOrdinal_ok a 1048576 hf (by omega) (by omega)) (by first | rfl | simp only [pureL, pureB, Bool.and_self, Bool.and_true, Bool.true_and, Od.elems_pure, Od.pay_pure, Od.av_pure]) rfl ?_
  simp only [run0, run1, run2, run3, run4, run5, run6, run7, run8, run9, run10, run11, run12, run13, run14, run15, run16, run17, run18, run19, run20, run21, reduceCtorEq, Nat.reduceEqDiff, Nat.reduceAdd, Nat.reduceSub, Nat.reduceLeDiff, indexAddrA, indexRefA, appendA, strA, Nat.reduceMul, Nat.zero_mul, Nat.reduceMod, Int.reduceEq, Int.reduceLT, Int.reduceLE, Nat.reduceLT, Nat.lt_irrefl, Nat.reduceBEq, tys0, tys1, tys2, tys3, tys4, tys5, tys6, tys7, tys8, tys9, tys10, Try.ntmps13, Try.results13, e1]
  refine RunL.callp rfl rfl ok_f15 (szOrdinal_ok b (szR a.sz 1048576) hft2 (by omega) (by omega)) (by first | rfl | simp only [pureL, pureB, Bool.and_self, Bool.and_true, Bool.true_and, Od.elems_pure, Od.pay_pure, Od.av_pure]) rfl ?_
  simp only [run0, run1, run2, run3, run4, run5, run6, run7, run8, run9, run10, run11, run12, run13, run14, run15, run16, run17, run18, run19, run20, run21, reduceCtorEq, Nat.reduceEqDiff, Nat.reduceAdd, Nat.reduceSub, Nat.reduceLeDiff, indexAddrA, indexRefA, appendA, strA, Nat.reduceMul, Nat.zero_mul, Nat.reduceMod, Int.reduceEq, Int.reduceLT, Int.reduceLE, Nat.reduceLT, Nat.lt_irrefl, Nat.reduceBEq, tys0, tys1, tys2, tys3, tys4, tys5, tys6, tys7, tys8, tys9, tys10, Try.ntmps13, Try.results13, e2]
  refine ⟨by kernel_rfl, ?_⟩
  refine RunL.callp rfl rfl ok_f17 (toOrdinal_ok a ha) (by first | rfl | simp only [pureL, pureB, Bool.and_self, Bool.and_true, Bool.true_and, Od.elems_pure, Od.pay_pure, Od.av_pure]) rfl ?_
  simp only [run0, run1, run2, run3, run4, run5, run6, run7, run8, run9, run10, run11, run12, run13, run14, run15, run16, run17, run18, run19, run20, run21, reduceCtorEq, Nat.reduceEqDiff, Nat.reduceAdd, Nat.reduceSub, Nat.reduceLeDiff, indexAddrA, indexRefA, appendA, strA, Nat.reduceMul, Nat.zero_mul, Nat.reduceMod, Int.reduceEq, Int.reduceLT, Int.reduceLE, Nat.reduceLT, Nat.lt_irrefl, Nat.reduceBEq, tys0, tys1, tys2, tys3, tys4, tys5, tys6, tys7, tys8, tys9, tys10, Try.ntmps13, Try.results13, av]
  refine RunL.callp rfl rfl ok_f17 (toOrdinal_ok b hb) (by first | rfl | simp only [pureL, pureB, Bool.and_self, Bool.and_true, Bool.true_and, Od.elems_pure, Od.pay_pure, Od.av_pure]) rfl ?_
  simp only [run0, run1, run2, run3, run4, run5, run6, run7, run8, run9, run10, run11, run12, run13, run14, run15, run16, run17, run18, run19, run20, run21, reduceCtorEq, Nat.reduceEqDiff, Nat.reduceAdd, Nat.reduceSub, Nat.reduceLeDiff, indexAddrA, indexRefA, appendA, strA, Nat.reduceMul, Nat.zero_mul, Nat.reduceMod, Int.reduceEq, Int.reduceLT, Int.reduceLE, Nat.reduceLT, Nat.lt_irrefl, Nat.reduceBEq, tys0, tys1, tys2, tys3, tys4, tys5, tys6, tys7, tys8, tys9, tys10, Try.ntmps13, Try.results13, av]
  refine RunL.callp rfl rfl ok_f40 (hsp) (by first | rfl | simp only [pureL, pureB, Bool.and_self, Bool.and_true, Bool.true_and, Od.elems_pure, Od.pay_pure, Od.av_pure]) rfl ?_
  simp only [run0, run1, run2, run3, run4, run5, run6, run7, run8, run9, run10, run11, run12, run13, run14, run15, run16, run17, run18, run19, run20, run21, reduceCtorEq, Nat.reduceEqDiff, Nat.reduceAdd, Nat.reduceSub, Nat.reduceLeDiff, indexAddrA, indexRefA, appendA, strA, Nat.reduceMul, Nat.zero_mul, Nat.reduceMod, Int.reduceEq, Int.reduceLT, Int.reduceLE, Nat.reduceLT, Nat.lt_irrefl, Nat.reduceBEq, tys0, tys1, tys2, tys3, tys4, tys5, tys6, tys7, tys8, tys9, tys10, Try.ntmps13, Try.results13, av]
  refine RunL.callgp rfl rfl ok_f17 rfl hx (by simp only [pureL, pureB, av_pure, Bool.and_self]) rfl ?_
  simp only [run0, run1, run2, run3, run4, run5, run6, run7, run8, run9, run10, run11, run12, run13, run14, run15, run16, run17, run18, run19, run20, run21, reduceCtorEq, Nat.reduceEqDiff, Nat.reduceAdd, Nat.reduceSub, Nat.reduceLeDiff, indexAddrA, indexRefA, appendA, strA, Nat.reduceMul, Nat.zero_mul, Nat.reduceMod, Int.reduceEq, Int.reduceLT, Int.reduceLE, Nat.reduceLT, Nat.lt_irrefl, Nat.reduceBEq, tys0, tys1, tys2, tys3, tys4, tys5, tys6, tys7, tys8, tys9, tys10, Try.ntmps13, Try.results13, shA, shL, hx', hM0', setXn]
  refine RunL.callgp rfl rfl ok_f17 rfl hy (by simp only [pureL, pureB, av_pure, Bool.and_self]) rfl ?_
  simp only [run0, run1, run2, run3, run4, run5, run6, run7, run8, run9, run10, run11, run12, run13, run14, run15, run16, run17, run18, run19, run20, run21, reduceCtorEq, Nat.reduceEqDiff, Nat.reduceAdd, Nat.reduceSub, Nat.reduceLeDiff, indexAddrA, indexRefA, appendA, strA, Nat.reduceMul, Nat.zero_mul, Nat.reduceMod, Int.reduceEq, Int.reduceLT, Int.reduceLE, Nat.reduceLT, Nat.lt_irrefl, Nat.reduceBEq, tys0, tys1, tys2, tys3, tys4, tys5, tys6, tys7, tys8, tys9, tys10, Try.ntmps13, Try.results13, shA, shL, hY, hMy', setXn]
  refine RunL.lendGV rfl rfl ok_f41 rfl hi (.cons (vw1 (ox _)) (.cons (vw1 (oy _)) .nil)) oS hM1 rfl ?_
  simp only [run0, run1, run2, run3, run4, run5, run6, run7, run8, run9, run10, run11, run12, run13, run14, run15, run16, run17, run18, run19, run20, run21, reduceCtorEq, Nat.reduceEqDiff, Nat.reduceAdd, Nat.reduceSub, Nat.reduceLeDiff, indexAddrA, indexRefA, appendA, strA, Nat.reduceMul, Nat.zero_mul, Nat.reduceMod, Int.reduceEq, Int.reduceLT, Int.reduceLE, Nat.reduceLT, Nat.lt_irrefl, Nat.reduceBEq, tys0, tys1, tys2, tys3, tys4, tys5, tys6, tys7, tys8, tys9, tys10, Try.ntmps13, Try.results13, shA, shL, hM1', hG, setXn]
  refine RunL.lendV rfl rfl ok_f19 rfl (eqOrdinal_ok R R hRs) (vwl2 (og _)) rfl rfl ?_
  simp only [run0, run1, run2, run3, run4, run5, run6, run7, run8, run9, run10, run11, run12, run13, run14, run15, run16, run17, run18, run19, run20, run21, reduceCtorEq, Nat.reduceEqDiff, Nat.reduceAdd, Nat.reduceSub, Nat.reduceLeDiff, indexAddrA, indexRefA, appendA, strA, Nat.reduceMul, Nat.zero_mul, Nat.reduceMod, Int.reduceEq, Int.reduceLT, Int.reduceLE, Nat.reduceLT, Nat.lt_irrefl, Nat.reduceBEq, tys0, tys1, tys2, tys3, tys4, tys5, tys6, tys7, tys8, tys9, tys10, Try.ntmps13, Try.results13, eqT_refl, bne_self_eq_false]
  refine ⟨by kernel_rfl, ?_⟩
  refine RunL.callp rfl rfl ok_f17 (toOrdinal_ok a ha) (by first | rfl | simp only [pureL, pureB, Bool.and_self, Bool.and_true, Bool.true_and, Od.elems_pure, Od.pay_pure, Od.av_pure]) rfl ?_
  simp only [run0, run1, run2, run3, run4, run5, run6, run7, run8, run9, run10, run11, run12, run13, run14, run15, run16, run17, run18, run19, run20, run21, reduceCtorEq, Nat.reduceEqDiff, Nat.reduceAdd, Nat.reduceSub, Nat.reduceLeDiff, indexAddrA, indexRefA, appendA, strA, Nat.reduceMul, Nat.zero_mul, Nat.reduceMod, Int.reduceEq, Int.reduceLT, Int.reduceLE, Nat.reduceLT, Nat.lt_irrefl, Nat.reduceBEq, tys0, tys1, tys2, tys3, tys4, tys5, tys6, tys7, tys8, tys9, tys10, Try.ntmps13, Try.results13, av]
  refine RunL.lendV rfl rfl ok_f19 rfl (eqOrdinal_ok a a ha) (vwl2 (ox _)) rfl rfl ?_
  simp only [run0, run1, run2, run3, run4, run5, run6, run7, run8, run9, run10, run11, run12, run13, run14, run15, run16, run17, run18, run19, run20, run21, reduceCtorEq, Nat.reduceEqDiff, Nat.reduceAdd, Nat.reduceSub, Nat.reduceLeDiff, indexAddrA, indexRefA, appendA, strA, Nat.reduceMul, Nat.zero_mul, Nat.reduceMod, Int.reduceEq, Int.reduceLT, Int.reduceLE, Nat.reduceLT, Nat.lt_irrefl, Nat.reduceBEq, tys0, tys1, tys2, tys3, tys4, tys5, tys6, tys7, tys8, tys9, tys10, Try.ntmps13, Try.results13, eqT_refl]
  refine ⟨by kernel_rfl, ?_⟩
  refine RunL.callp rfl rfl ok_f17 (toOrdinal_ok b hb) (by first | rfl | simp only [pureL, pureB, Bool.and_self, Bool.and_true, Bool.true_and, Od.elems_pure, Od.pay_pure, Od.av_pure]) rfl ?_
  simp only [run0, run1, run2, run3, run4, run5, run6, run7, run8, run9, run10, run11, run12, run13, run14, run15, run16, run17, run18, run19, run20, run21, reduceCtorEq, Nat.reduceEqDiff, Nat.reduceAdd, Nat.reduceSub, Nat.reduceLeDiff, indexAddrA, indexRefA, appendA, strA, Nat.reduceMul, Nat.zero_mul, Nat.reduceMod, Int.reduceEq, Int.reduceLT, Int.reduceLE, Nat.reduceLT, Nat.lt_irrefl, Nat.reduceBEq, tys0, tys1, tys2, tys3, tys4, tys5, tys6, tys7, tys8, tys9, tys10, Try.ntmps13, Try.results13, av]
  refine RunL.lendV rfl rfl ok_f19 rfl (eqOrdinal_ok b b hb) (vwl2 (oy _)) rfl rfl ?_
  simp only [run0, run1, run2, run3, run4, run5, run6, run7, run8, run9, run10, run11, run12, run13, run14, run15, run16, run17, run18, run19, run20, run21, reduceCtorEq, Nat.reduceEqDiff, Nat.reduceAdd, Nat.reduceSub, Nat.reduceLeDiff, indexAddrA, indexRefA, appendA, strA, Nat.reduceMul, Nat.zero_mul, Nat.reduceMod, Int.reduceEq, Int.reduceLT, Int.reduceLE, Nat.reduceLT, Nat.lt_irrefl, Nat.reduceBEq, tys0, tys1, tys2, tys3, tys4, tys5, tys6, tys7, tys8, tys9, tys10, Try.ntmps13, Try.results13, eqT_refl]
  refine RunL.callM rfl rfl ok_f28 rfl rfl hc0 rfl ?_
  simp only [run0, run1, run2, run3, run4, run5, run6, run7, run8, run9, run10, run11, run12, run13, run14, run15, run16, run17, run18, run19, run20, run21, reduceCtorEq, Nat.reduceEqDiff, Nat.reduceAdd, Nat.reduceSub, Nat.reduceLeDiff, indexAddrA, indexRefA, appendA, strA, Nat.reduceMul, Nat.zero_mul, Nat.reduceMod, Int.reduceEq, Int.reduceLT, Int.reduceLE, Nat.reduceLT, Nat.lt_irrefl, Nat.reduceBEq, tys0, tys1, tys2, tys3, tys4, tys5, tys6, tys7, tys8, tys9, tys10, Try.ntmps13, Try.results13, s0, s1, s2, s9, s10]
  refine RunL.callM rfl rfl ok_f28 rfl rfl hc1 rfl ?_
  simp only [run0, run1, run2, run3, run4, run5, run6, run7, run8, run9, run10, run11, run12, run13, run14, run15, run16, run17, run18, run19, run20, run21, reduceCtorEq, Nat.reduceEqDiff, Nat.reduceAdd, Nat.reduceSub, Nat.reduceLeDiff, indexAddrA, indexRefA, appendA, strA, Nat.reduceMul, Nat.zero_mul, Nat.reduceMod, Int.reduceEq, Int.reduceLT, Int.reduceLE, Nat.reduceLT, Nat.lt_irrefl, Nat.reduceBEq, tys0, tys1, tys2, tys3, tys4, tys5, tys6, tys7, tys8, tys9, tys10, Try.ntmps13, Try.results13, e3, q0, q1, q2, q10]
  refine RunL.lendV rfl rfl ok_f19 rfl (eqOrdinal_ok R R hRs) (vwl2 og1) rfl rfl ?_
  simp only [run0, run1, run2, run3, run4, run5, run6, run7, run8, run9, run10, run11, run12, run13, run14, run15, run16, run17, run18, run19, run20, run21, reduceCtorEq, Nat.reduceEqDiff, Nat.reduceAdd, Nat.reduceSub, Nat.reduceLeDiff, indexAddrA, indexRefA, appendA, strA, Nat.reduceMul, Nat.zero_mul, Nat.reduceMod, Int.reduceEq, Int.reduceLT, Int.reduceLE, Nat.reduceLT, Nat.lt_irrefl, Nat.reduceBEq, tys0, tys1, tys2, tys3, tys4, tys5, tys6, tys7, tys8, tys9, tys10, Try.ntmps13, Try.results13, eqT_refl, bne_self_eq_false, q0, q1, q2, q10]
  refine RunL.callM rfl rfl ok_f28 rfl rfl hc2 rfl ?_
  simp only [run0, run1, run2, run3, run4, run5, run6, run7, run8, run9, run10, run11, run12, run13, run14, run15, run16, run17, run18, run19, run20, run21, reduceCtorEq, Nat.reduceEqDiff, Nat.reduceAdd, Nat.reduceSub, Nat.reduceLeDiff, indexAddrA, indexRefA, appendA, strA, Nat.reduceMul, Nat.zero_mul, Nat.reduceMod, Int.reduceEq, Int.reduceLT, Int.reduceLE, Nat.reduceLT, Nat.lt_irrefl, Nat.reduceBEq, tys0, tys1, tys2, tys3, tys4, tys5, tys6, tys7, tys8, tys9, tys10, Try.ntmps13, Try.results13, p0, p1, p2, p10]
  refine RunL.lendV rfl rfl ok_f29 rfl (heldOrdinal_ok R 1 (by omega) (by omega)) (vwl3 og2) rfl rfl ?_
  simp only [run0, run1, run2, run3, run4, run5, run6, run7, run8, run9, run10, run11, run12, run13, run14, run15, run16, run17, run18, run19, run20, run21, reduceCtorEq, Nat.reduceEqDiff, Nat.reduceAdd, Nat.reduceSub, Nat.reduceLeDiff, indexAddrA, indexRefA, appendA, strA, Nat.reduceMul, Nat.zero_mul, Nat.reduceMod, Int.reduceEq, Int.reduceLT, Int.reduceLE, Nat.reduceLT, Nat.lt_irrefl, Nat.reduceBEq, tys0, tys1, tys2, tys3, tys4, tys5, tys6, tys7, tys8, tys9, tys10, Try.ntmps13, Try.results13, e4, p0, p1, p2, p10, bne_self_eq_false]
  refine ⟨by kernel_rfl, ?_⟩
  refine RunL.callp rfl rfl ok_f17 (toOrdinal_ok a ha) (by first | rfl | simp only [pureL, pureB, Bool.and_self, Bool.and_true, Bool.true_and, Od.elems_pure, Od.pay_pure, Od.av_pure]) rfl ?_
  simp only [run0, run1, run2, run3, run4, run5, run6, run7, run8, run9, run10, run11, run12, run13, run14, run15, run16, run17, run18, run19, run20, run21, reduceCtorEq, Nat.reduceEqDiff, Nat.reduceAdd, Nat.reduceSub, Nat.reduceLeDiff, indexAddrA, indexRefA, appendA, strA, Nat.reduceMul, Nat.zero_mul, Nat.reduceMod, Int.reduceEq, Int.reduceLT, Int.reduceLE, Nat.reduceLT, Nat.lt_irrefl, Nat.reduceBEq, tys0, tys1, tys2, tys3, tys4, tys5, tys6, tys7, tys8, tys9, tys10, Try.ntmps13, Try.results13, p0, p1]
  refine RunL.callp rfl rfl ok_f17 (toOrdinal_ok b hb) (by first | rfl | simp only [pureL, pureB, Bool.and_self, Bool.and_true, Bool.true_and, Od.elems_pure, Od.pay_pure, Od.av_pure]) rfl ?_
  simp only [run0, run1, run2, run3, run4, run5, run6, run7, run8, run9, run10, run11, run12, run13, run14, run15, run16, run17, run18, run19, run20, run21, reduceCtorEq, Nat.reduceEqDiff, Nat.reduceAdd, Nat.reduceSub, Nat.reduceLeDiff, indexAddrA, indexRefA, appendA, strA, Nat.reduceMul, Nat.zero_mul, Nat.reduceMod, Int.reduceEq, Int.reduceLT, Int.reduceLE, Nat.reduceLT, Nat.lt_irrefl, Nat.reduceBEq, tys0, tys1, tys2, tys3, tys4, tys5, tys6, tys7, tys8, tys9, tys10, Try.ntmps13, Try.results13, p0, p1]
  refine RunL.callp rfl rfl ok_f41 (hiv) (by first | rfl | simp only [pureL, pureB, Bool.and_self, Bool.and_true, Bool.true_and, Od.elems_pure, Od.pay_pure, Od.av_pure]) rfl ?_
  simp only [run0, run1, run2, run3, run4, run5, run6, run7, run8, run9, run10, run11, run12, run13, run14, run15, run16, run17, run18, run19, run20, run21, reduceCtorEq, Nat.reduceEqDiff, Nat.reduceAdd, Nat.reduceSub, Nat.reduceLeDiff, indexAddrA, indexRefA, appendA, strA, Nat.reduceMul, Nat.zero_mul, Nat.reduceMod, Int.reduceEq, Int.reduceLT, Int.reduceLE, Nat.reduceLT, Nat.lt_irrefl, Nat.reduceBEq, tys0, tys1, tys2, tys3, tys4, tys5, tys6, tys7, tys8, tys9, tys10, Try.ntmps13, Try.results13, av, r2, r10, setXn]
  refine RunL.callp rfl rfl ok_f19 (eqOrdinal_ok R R hRs) (by first | rfl | simp only [pureL, pureB, Bool.and_self, Bool.and_true, Bool.true_and, Od.elems_pure, Od.pay_pure, Od.av_pure]) rfl ?_
  simp only [run0, run1, run2, run3, run4, run5, run6, run7, run8, run9, run10, run11, run12, run13, run14, run15, run16, run17, run18, run19, run20, run21, reduceCtorEq, Nat.reduceEqDiff, Nat.reduceAdd, Nat.reduceSub, Nat.reduceLeDiff, indexAddrA, indexRefA, appendA, strA, Nat.reduceMul, Nat.zero_mul, Nat.reduceMod, Int.reduceEq, Int.reduceLT, Int.reduceLE, Nat.reduceLT, Nat.lt_irrefl, Nat.reduceBEq, tys0, tys1, tys2, tys3, tys4, tys5, tys6, tys7, tys8, tys9, tys10, Try.ntmps13, Try.results13, eqT_refl, bne_self_eq_false, r2, r10]
  refine RunL.lendV rfl rfl ok_f29 rfl (heldOrdinal_ok R 1 (by omega) (by omega)) (vwl3 (og2.more _)) rfl rfl ?_
  simp only [run0, run1, run2, run3, run4, run5, run6, run7, run8, run9, run10, run11, run12, run13, run14, run15, run16, run17, run18, run19, run20, run21, reduceCtorEq, Nat.reduceEqDiff, Nat.reduceAdd, Nat.reduceSub, Nat.reduceLeDiff, indexAddrA, indexRefA, appendA, strA, Nat.reduceMul, Nat.zero_mul, Nat.reduceMod, Int.reduceEq, Int.reduceLT, Int.reduceLE, Nat.reduceLT, Nat.lt_irrefl, Nat.reduceBEq, tys0, tys1, tys2, tys3, tys4, tys5, tys6, tys7, tys8, tys9, tys10, Try.ntmps13, Try.results13, e4, bne_self_eq_false]
  exact Fin.eq rfl rfl


end Go.Proofs.Ytcgnpijbdgbffaa
