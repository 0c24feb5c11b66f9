/-
  Texts joined in one: PH2, PH3, PH4, G14, G15, C4, C5, HO1, HO2, HO5, HO6, HO3, HO4, HO7, HO8, HO9.
-/
import Derived.Test.YtphmkhaboghagaaMHydraOD
import Derived.Test.YtphmkhaboghagaaMHydraOC
/-
  Hydras read from text: the steps (plain law) and the reference.
-/
namespace Go.Proofs.Ytphmkhaboghagaa
open Go K Od
set_option linter.unusedSimpArgs false
set_option linter.unusedVariables false
set_option maxHeartbeats 3200000
set_option maxRecDepth 8000

def hdP : List Nat → Int
  | [] => -1
  | a :: _ => a
def stepH (P : List Int) (rp : List Nat) (c : UInt8) : Option (List Int × List Nat) :=
  if c = 40 ∧ P.length < 40 ∧ (rp ≠ [] ∨ P = []) then some (P ++ [hdP rp], P.length :: rp) else if c = 41 ∧ rp ≠ [] then some (P, rp.tail) else none
def runH : List UInt8 → List Int → List Nat → Option (List Int)
  | [], P, rp => if rp = [] ∧ P ≠ [] then some P else none
  | c :: s, P, rp => (stepH P rp c).bind fun q => runH s q.1 q.2
def txtP (P : List Int) : List Nat → List UInt8
  | [] => if P = [] then [] else shT (Fk P 0)
  | a :: r => ot P P.length (a :: r)
structure PhI (P : List Int) (rp : List Nat) (d : List UInt8) : Prop where
  par : ParOk P
  len : P.length ≤ 40
  good : P ≠ [] → GoodP P rp
  nil : P = [] ↔ d = []
  txt : txtP P rp = d
  ch : ∀ a r, rp = a :: r → ChP P a r
theorem PhI.start : PhI [] [] [] := ⟨fun c x h => by simp at h, by simp, fun h => absurd rfl h, by simp, rfl, fun a r h => by cases h⟩
theorem PhI.step {P : List Int} {rp : List Nat} {d : List UInt8} {c : UInt8} (h : PhI P rp d) {q : List Int × List Nat} (hq : stepH P rp c = some q) : PhI q.1 q.2 (d ++ [c]) := by
  unfold stepH at hq
  split at hq
  · rename_i hc
    obtain ⟨rfl, h40, hr⟩ := hc
    simp only [Option.some.injEq] at hq
    subst hq
    cases rp with
    | nil =>
      have hP : P = [] := by simpa using hr
      subst hP
      have hd : d = [] := h.nil.1 rfl
      subst hd
      refine ⟨fun c x hx => ?_, by simp, fun _ => ⟨[], [], rfl, rfl, rfl⟩, by simp, by rfl, fun a r e => ?_⟩
      · rcases c with _ | c
        · simp [hdP] at hx; subst hx; exact ⟨by omega, by omega⟩
        · simp [hdP] at hx
      · simp only [List.length_nil, List.cons.injEq] at e
        obtain ⟨rfl, rfl⟩ := e
        exact ⟨rfl, rfl⟩
    | cons a r =>
      have hch := h.ch a r rfl
      have hlt := hch.lt
      have hP : P ≠ [] := fun e => by subst e; simp at hlt
      refine ⟨par_snoc h.par (by simp only [hdP]; omega) (by simp only [hdP]; omega), by simp; omega, fun _ => (h.good hP).push hch.mem, by simp, ?_, fun b s e => ?_⟩
      · have e1 := ot_push h.par hch
        have e2 := h.txt
        simp only [txtP] at e2
        rw [e2] at e1
        exact e1
      · simp only [List.cons.injEq] at e
        obtain ⟨rfl, rfl⟩ := e
        exact hch.push
  · split at hq
    · rename_i hc
      obtain ⟨rfl, hr⟩ := hc
      simp only [Option.some.injEq] at hq
      subst hq
      cases rp with
      | nil => exact absurd rfl hr
      | cons a r =>
        have hch := h.ch a r rfl
        have hlt := hch.lt
        have hP : P ≠ [] := fun e => by subst e; simp at hlt
        have e2 := h.txt
        simp only [txtP] at e2
        refine ⟨h.par, h.len, fun hp => (h.good hp).pop, by simp [hP], ?_, fun b s e => ?_⟩
        · cases r with
          | nil => simp only [List.tail_cons, txtP]; rw [if_neg hP, ot_root h.par hch, e2]
          | cons b r => simp only [List.tail_cons, txtP]; rw [ot_close h.par hch, e2]
        · simp only [List.tail_cons] at e
          subst e
          exact hch.2.2.2
    · cases hq
theorem PhI.hyd {P : List Int} {rp : List Nat} {d : List UInt8} (h : PhI P rp d) (hP : P ≠ []) : hydB P = true := by
  obtain ⟨r, t, rfl, h1, h2⟩ := h.good hP
  have := h.len
  simp only [List.length_cons] at this
  simp [hydB, h1, this]
/-- Read to the end: right if and only if all is closed. -/
theorem PhI.last {P : List Int} {rp : List Nat} {d : List UInt8} (h : PhI P rp d) (hP : P ≠ []) : (shT (Fk P 0) = d) ↔ rp = [] := by
  have e2 := h.txt
  cases rp with
  | nil => simp only [txtP] at e2; rw [if_neg hP] at e2; simp [e2]
  | cons a r =>
    simp only [txtP] at e2
    have := ot_all h.par (h.ch a r rfl)
    rw [e2] at this
    constructor
    · intro e; rw [e] at this; omega
    · intro e; cases e
theorem PhI.hd {P : List Int} {a : Nat} {r : List Nat} {d : List UInt8} (h : PhI P (a :: r) d) : P[a]? = some (hdP r) := by
  have := h.ch a r rfl
  cases r with
  | nil => exact this.2
  | cons b r => exact this.1

theorem at_str (d r : List UInt8) (c : UInt8) : indexA Try.prog 9 (strL (d ++ c :: r)) (.int .i64 (d.length : Int)) = some (.int .u8 c.toNat) := by
  have hlt : d.length < (⟨(d ++ c :: r).toArray⟩ : ByteArray).size := by rw [strL_size]; simp
  have h2 : (⟨(d ++ c :: r).toArray⟩ : ByteArray)[d.length]? = some c := by
    rw [getElem?_pos (⟨(d ++ c :: r).toArray⟩ : ByteArray) d.length hlt]
    show some ((d ++ c :: r).toArray[d.length]'hlt) = _
    simp
  simp only [strL, indexA, Try.underlying9, Int.natCast_nonneg, if_true, Int.toNat_natCast, h2, Option.map_some]
def optH (o : Option (List Int)) : AV := .tup [hyA (o.getD []), .bool o.isSome]

structure PhS where
  d : List UInt8
  r : List UInt8
  P : List Int
  rp : List Nat
theorem runH_cons {c : UInt8} {s : List UInt8} {P : List Int} {rp : List Nat} {q : List Int × List Nat} (h : stepH P rp c = some q) : runH (c :: s) P rp = runH s q.1 q.2 := by
  show (stepH P rp c).bind (fun q => runH s q.1 q.2) = _
  rw [h]; rfl
theorem runH_none {c : UInt8} {s : List UInt8} {P : List Int} {rp : List Nat} (h : stepH P rp c = none) : runH (c :: s) P rp = none := by
  show (stepH P rp c).bind (fun q => runH s q.1 q.2) = _
  rw [h]; rfl
theorem vw_fail (L : List AObj) : Vw L (.tup [.agg [nilV], .bool false]) (optH none) := .tup (.cons (.agg (.cons (.nil false) .nil)) (.cons (.pur (.bool _)) .nil))
theorem specParse_ok (s : List UInt8) (hs : s.length ≤ 1048576) : Ct Try.prog 45 [strL s] [] (optH (runH s [] [])) [] := by
  have hsz := strL_size s
  refine Ct.by_ hmix [] Try.func45 rfl ?_
  simp only [run0, run1, run2, run3, run4, run5, run6, run7, run8, run9, run10, run11, run12, run13, run14, run15, run16, run17, run18, run19, run20, run21, run22, reduceCtorEq, Nat.reduceEqDiff, Nat.reduceAdd, Nat.reduceSub, Nat.reduceLeDiff, indexAddrA, indexRefA, appendA, strA, Nat.reduceMul, Nat.zero_mul, Nat.reduceMod, Int.reduceEq, Int.reduceLT, Int.reduceLE, Nat.reduceLT, Nat.lt_irrefl, Nat.reduceBEq, tys0, tys1, tys2, tys3, tys4, tys5, tys6, tys7, tys8, tys9, tys10, tys11, tys12, tys13, tys14, tys15, tys16, tys17, tys18, Try.ntmps45, Try.results45, strL]
  refine AWp.nilB 1 0 3 1 rfl rfl ?_
  refine AWp.loop_inv (ι := PhS) (fun p => ⟨[strL s, .junk, .ptr 0 0, .bool false, .ptr 1 0, .int .i64 (hdP p.rp), .int .i64 p.d.length, .junk, .junk, .junk, .junk, .junk, .junk, .junk, .junk, .junk, .junk, .junk, .junk, .junk, .junk, .junk, .junk, .junk, .junk, .junk, .junk, .junk, .junk, .junk, .junk, .junk, .junk, .junk, .junk, .junk, .junk, .junk, .junk, .junk, .junk, .junk, .junk, .junk, .junk, .junk, .junk, .junk, .junk, .junk, .junk, .junk, .junk, .junk, .junk, .junk, .junk, .junk, .junk, .junk, .junk, .junk, .junk, .junk, .junk, .junk, .junk, .junk],
      [.box 60 [nilV], .box 60 [.ref 2 [] p.P.length p.P.length], .vec 3 1 p.P.length (ints p.P)]⟩)
    (fun p => s = p.d ++ p.r ∧ PhI p.P p.rp p.d ∧ runH p.r p.P p.rp = runH s [] []) (fun p => p.r.length) ⟨[], s, [], []⟩ ⟨rfl, PhI.start, rfl⟩ ⟨by simp only [List.length_nil, Int.natCast_zero]; repeat constructor, rfl⟩ ?_
  rintro ⟨d, r, P, rp⟩ ⟨ha, hI, hrun⟩
  refine W.sound hmix (E := []) ?_
  simp only at ha hI hrun
  rw [← hrun]
  have hda : d.length + r.length = s.length := by rw [ha, List.length_append]
  have hPl := hI.len
  have hno := ints_noOwn P
  cases r with
  | nil =>
    have e1 : ¬ ((d.length : Int) < (s.length : Int)) := by simp at hda; omega
    cases rp with
    | cons a rp =>
      have e2 : 0 ≤ hdP (a :: rp) := by simp only [hdP]; omega
      simp only [run0, run1, run2, run3, run4, run5, run6, run7, run8, run9, run10, run11, run12, run13, run14, run15, run16, run17, run18, run19, run20, run21, run22, reduceCtorEq, Nat.reduceEqDiff, Nat.reduceAdd, Nat.reduceSub, Nat.reduceLeDiff, indexAddrA, indexRefA, appendA, strA, Nat.reduceMul, Nat.zero_mul, Nat.reduceMod, Int.reduceEq, Int.reduceLT, Int.reduceLE, Nat.reduceLT, Nat.lt_irrefl, Nat.reduceBEq, tys0, tys1, tys2, tys3, tys4, tys5, tys6, tys7, tys8, tys9, tys10, tys11, tys12, tys13, tys14, tys15, tys16, tys17, tys18, Try.ntmps45, Try.results45, strL, hsz, e1, e2, List.length_map]
      exact Fin.value (vw_fail _)
    | nil =>
      have e2 : ¬ (0 ≤ hdP []) := by decide
      by_cases hP : P = []
      · have z0 : ((P.length : Int) == 0) = true := by simp [hP]
        rw [show runH [] P [] = none from if_neg (by simp [hP])]
        simp only [run0, run1, run2, run3, run4, run5, run6, run7, run8, run9, run10, run11, run12, run13, run14, run15, run16, run17, run18, run19, run20, run21, run22, reduceCtorEq, Nat.reduceEqDiff, Nat.reduceAdd, Nat.reduceSub, Nat.reduceLeDiff, indexAddrA, indexRefA, appendA, strA, Nat.reduceMul, Nat.zero_mul, Nat.reduceMod, Int.reduceEq, Int.reduceLT, Int.reduceLE, Nat.reduceLT, Nat.lt_irrefl, Nat.reduceBEq, tys0, tys1, tys2, tys3, tys4, tys5, tys6, tys7, tys8, tys9, tys10, tys11, tys12, tys13, tys14, tys15, tys16, tys17, tys18, Try.ntmps45, Try.results45, strL, hsz, e1, e2, z0, List.length_map]
        exact Fin.value (vw_fail _)
      · have e3 : ((P.length : Int) == 0) = false := by
          have : P.length ≠ 0 := fun h => hP (List.length_eq_zero_iff.1 h)
          simpa using this
        simp only [run0, run1, run2, run3, run4, run5, run6, run7, run8, run9, run10, run11, run12, run13, run14, run15, run16, run17, run18, run19, run20, run21, run22, reduceCtorEq, Nat.reduceEqDiff, Nat.reduceAdd, Nat.reduceSub, Nat.reduceLeDiff, indexAddrA, indexRefA, appendA, strA, Nat.reduceMul, Nat.zero_mul, Nat.reduceMod, Int.reduceEq, Int.reduceLT, Int.reduceLE, Nat.reduceLT, Nat.lt_irrefl, Nat.reduceBEq, tys0, tys1, tys2, tys3, tys4, tys5, tys6, tys7, tys8, tys9, tys10, tys11, tys12, tys13, tys14, tys15, tys16, tys17, tys18, Try.ntmps45, Try.results45, strL, hsz, e1, e2, e3, List.length_map]
        refine Fin.value ?_
        have : runH [] P [] = some P := if_pos ⟨rfl, hP⟩
        rw [this]
        exact .tup (.cons (.agg (.cons (Vw_intR rfl rfl rfl) .nil)) (.cons (.pur (.bool _)) .nil))
  | cons c r =>
    simp only [List.length_cons] at hda
    have e1 : (d.length : Int) < (s.length : Int) := by omega
    have e2 := at_str d r c
    rw [← ha] at e2
    simp only [strL] at e2
    have e5 : IntKind.i64.wrap ((d.length : Int) + 1) = ((d ++ [c]).length : Int) := by rw [i64_id (by omega) (by omega)]; simp
    have f3 : P.length + 1 ≤ 137438953472 := by omega
    have ne1 : ∀ k : Nat, c ≠ UInt8.ofNat k → k < 256 → ((c.toNat : Int) == (k : Int)) = false := fun k hk hk2 => by
      rw [beq_eq_false_iff_ne]
      intro he
      have he2 : c.toNat = k := by omega
      exact hk (UInt8.toNat_inj.1 (by rw [he2]; simp; omega))
    have failed : stepH P rp c = none → runH (c :: r) P rp = none := runH_none
    by_cases h4 : c = 40
    · subst h4
      have c4 : (((40 : UInt8).toNat : Int) == 40) = true := rfl
      have c5 : (((40 : UInt8).toNat : Int) == 41) = false := rfl
      by_cases hl : P.length < 40
      · have e3 : (P.length : Int) < 40 := by omega
        have e6 : IntKind.i64.wrap (((P.length + 1 : Nat) : Int) - 1) = (P.length : Int) := by rw [i64_id (by omega) (by omega)]; omega
        cases rp with
        | cons a rp =>
          have e4 : 0 ≤ hdP (a :: rp) := by simp only [hdP]; omega
          have hst : stepH P (a :: rp) 40 = some (P ++ [hdP (a :: rp)], P.length :: a :: rp) := if_pos ⟨rfl, hl, .inl (by simp)⟩
          simp only [run0, run1, run2, run3, run4, run5, run6, run7, run8, run9, run10, run11, run12, run13, run14, run15, run16, run17, run18, run19, run20, run21, run22, reduceCtorEq, Nat.reduceEqDiff, Nat.reduceAdd, Nat.reduceSub, Nat.reduceLeDiff, indexAddrA, indexRefA, appendA, strA, Nat.reduceMul, Nat.zero_mul, Nat.reduceMod, Int.reduceEq, Int.reduceLT, Int.reduceLE, Nat.reduceLT, Nat.lt_irrefl, Nat.reduceBEq, tys0, tys1, tys2, tys3, tys4, tys5, tys6, tys7, tys8, tys9, tys10, tys11, tys12, tys13, tys14, tys15, tys16, tys17, tys18, Try.ntmps45, Try.results45, strL, hsz, e1, e2, e3, e4, e5, e6, c4, c5, f3, hno, List.length_map]
          refine ⟨⟨d ++ [40], r, P ++ [hdP (a :: rp)], P.length :: a :: rp⟩, ⟨by rw [ha]; simp, hI.step hst, (runH_cons hst).symm⟩, by simp, by simp only [List.length_append, List.length_cons, List.length_nil, Nat.zero_add]; repeat constructor, by simp⟩
        | nil =>
          have e4 : ¬ (0 ≤ hdP []) := by decide
          by_cases hP : P = []
          · have hd : d = [] := hI.nil.1 hP
            have z0 : ((d.length : Int) == 0) = true := by simp [hd]
            have hst : stepH P [] 40 = some (P ++ [hdP []], [P.length]) := if_pos ⟨rfl, hl, .inr hP⟩
            simp only [run0, run1, run2, run3, run4, run5, run6, run7, run8, run9, run10, run11, run12, run13, run14, run15, run16, run17, run18, run19, run20, run21, run22, reduceCtorEq, Nat.reduceEqDiff, Nat.reduceAdd, Nat.reduceSub, Nat.reduceLeDiff, indexAddrA, indexRefA, appendA, strA, Nat.reduceMul, Nat.zero_mul, Nat.reduceMod, Int.reduceEq, Int.reduceLT, Int.reduceLE, Nat.reduceLT, Nat.lt_irrefl, Nat.reduceBEq, tys0, tys1, tys2, tys3, tys4, tys5, tys6, tys7, tys8, tys9, tys10, tys11, tys12, tys13, tys14, tys15, tys16, tys17, tys18, Try.ntmps45, Try.results45, strL, hsz, e1, e2, e3, e4, e5, e6, c4, c5, f3, hno, z0, List.length_map]
            refine ⟨⟨d ++ [40], r, P ++ [hdP []], [P.length]⟩, ⟨by rw [ha]; simp, hI.step hst, (runH_cons hst).symm⟩, by simp, by simp only [List.length_append, List.length_cons, List.length_nil, Nat.zero_add]; repeat constructor, by simp⟩
          · have hd : d.length ≠ 0 := fun h => hP (hI.nil.2 (List.length_eq_zero_iff.1 h))
            have z0 : ((d.length : Int) == 0) = false := by simpa using hd
            rw [failed (by simp [stepH, hP])]
            simp only [run0, run1, run2, run3, run4, run5, run6, run7, run8, run9, run10, run11, run12, run13, run14, run15, run16, run17, run18, run19, run20, run21, run22, reduceCtorEq, Nat.reduceEqDiff, Nat.reduceAdd, Nat.reduceSub, Nat.reduceLeDiff, indexAddrA, indexRefA, appendA, strA, Nat.reduceMul, Nat.zero_mul, Nat.reduceMod, Int.reduceEq, Int.reduceLT, Int.reduceLE, Nat.reduceLT, Nat.lt_irrefl, Nat.reduceBEq, tys0, tys1, tys2, tys3, tys4, tys5, tys6, tys7, tys8, tys9, tys10, tys11, tys12, tys13, tys14, tys15, tys16, tys17, tys18, Try.ntmps45, Try.results45, strL, hsz, e1, e2, e3, e4, c4, c5, z0, List.length_map]
            exact Fin.value (vw_fail _)
      · have e3 : ¬ (P.length : Int) < 40 := by omega
        rw [failed (by simp [stepH, hl])]
        simp only [run0, run1, run2, run3, run4, run5, run6, run7, run8, run9, run10, run11, run12, run13, run14, run15, run16, run17, run18, run19, run20, run21, run22, reduceCtorEq, Nat.reduceEqDiff, Nat.reduceAdd, Nat.reduceSub, Nat.reduceLeDiff, indexAddrA, indexRefA, appendA, strA, Nat.reduceMul, Nat.zero_mul, Nat.reduceMod, Int.reduceEq, Int.reduceLT, Int.reduceLE, Nat.reduceLT, Nat.lt_irrefl, Nat.reduceBEq, tys0, tys1, tys2, tys3, tys4, tys5, tys6, tys7, tys8, tys9, tys10, tys11, tys12, tys13, tys14, tys15, tys16, tys17, tys18, Try.ntmps45, Try.results45, strL, hsz, e1, e2, e3, c4, c5, List.length_map]
        exact Fin.value (vw_fail _)
    · have c4 : ((c.toNat : Int) == 40) = false := ne1 40 h4 (by omega)
      by_cases h5 : c = 41
      · subst h5
        have c5 : (((41 : UInt8).toNat : Int) == 41) = true := rfl
        cases rp with
        | nil =>
          have e4 : ¬ (0 ≤ hdP []) := by decide
          rw [failed (by simp [stepH])]
          simp only [run0, run1, run2, run3, run4, run5, run6, run7, run8, run9, run10, run11, run12, run13, run14, run15, run16, run17, run18, run19, run20, run21, run22, reduceCtorEq, Nat.reduceEqDiff, Nat.reduceAdd, Nat.reduceSub, Nat.reduceLeDiff, indexAddrA, indexRefA, appendA, strA, Nat.reduceMul, Nat.zero_mul, Nat.reduceMod, Int.reduceEq, Int.reduceLT, Int.reduceLE, Nat.reduceLT, Nat.lt_irrefl, Nat.reduceBEq, tys0, tys1, tys2, tys3, tys4, tys5, tys6, tys7, tys8, tys9, tys10, tys11, tys12, tys13, tys14, tys15, tys16, tys17, tys18, Try.ntmps45, Try.results45, strL, hsz, e1, e2, e4, c4, c5, List.length_map]
          exact Fin.value (vw_fail _)
        | cons a rp =>
          have e4 : 0 ≤ hdP (a :: rp) := by simp only [hdP]; omega
          have e6 : (ints P)[a]? = some (.int .i64 (hdP rp)) := by rw [List.getElem?_map, hI.hd]; rfl
          have hst : stepH P (a :: rp) 41 = some (P, rp) := by simp [stepH]
          have e7 : (hdP (a :: rp)).toNat = a := rfl
          have e8 : hdP (a :: rp) < (P.length : Int) := by have := (hI.ch a rp rfl).lt; simp only [hdP]; omega
          simp only [run0, run1, run2, run3, run4, run5, run6, run7, run8, run9, run10, run11, run12, run13, run14, run15, run16, run17, run18, run19, run20, run21, run22, reduceCtorEq, Nat.reduceEqDiff, Nat.reduceAdd, Nat.reduceSub, Nat.reduceLeDiff, indexAddrA, indexRefA, appendA, strA, Nat.reduceMul, Nat.zero_mul, Nat.reduceMod, Int.reduceEq, Int.reduceLT, Int.reduceLE, Nat.reduceLT, Nat.lt_irrefl, Nat.reduceBEq, tys0, tys1, tys2, tys3, tys4, tys5, tys6, tys7, tys8, tys9, tys10, tys11, tys12, tys13, tys14, tys15, tys16, tys17, tys18, Try.ntmps45, Try.results45, strL, hsz, e1, e2, e4, e5, e6, e7, e8, c4, c5, List.length_map, List.mapIdx_cons, List.mapIdx_nil, viewC]
          refine ⟨⟨d ++ [41], r, P, rp⟩, ⟨by rw [ha]; simp, hI.step hst, (runH_cons hst).symm⟩, by simp, by simp only [List.length_append, List.length_cons, List.length_nil, Nat.zero_add]; repeat constructor, by simp⟩
      · have c5 : ((c.toNat : Int) == 41) = false := ne1 41 h5 (by omega)
        rw [failed (by simp [stepH, h4, h5])]
        simp only [run0, run1, run2, run3, run4, run5, run6, run7, run8, run9, run10, run11, run12, run13, run14, run15, run16, run17, run18, run19, run20, run21, run22, reduceCtorEq, Nat.reduceEqDiff, Nat.reduceAdd, Nat.reduceSub, Nat.reduceLeDiff, indexAddrA, indexRefA, appendA, strA, Nat.reduceMul, Nat.zero_mul, Nat.reduceMod, Int.reduceEq, Int.reduceLT, Int.reduceLE, Nat.reduceLT, Nat.lt_irrefl, Nat.reduceBEq, tys0, tys1, tys2, tys3, tys4, tys5, tys6, tys7, tys8, tys9, tys10, tys11, tys12, tys13, tys14, tys15, tys16, tys17, tys18, Try.ntmps45, Try.results45, strL, hsz, e1, e2, c4, c5, List.length_map]
        exact Fin.value (vw_fail _)

end Go.Proofs.Ytphmkhaboghagaa
/-
  Hydras read from text: the program.
-/
namespace Go.Proofs.Ytphmkhaboghagaa
open Go K Od
set_option linter.unusedSimpArgs false
set_option linter.unusedVariables false
set_option maxHeartbeats 3200000
set_option maxRecDepth 8000

def rI : Option (List Int) → AV
  | none => .tup [.agg [nilV], .bool false]
  | some P => .tup [.agg [.ref 3 [] P.length P.length], .bool true]
def mI : Option (List Int) → List AObj
  | none => [.dead, .dead, .dead, .dead]
  | some P => [.dead, .dead, .dead, .vec 3 1 P.length (ints P)]
def pth (rp : List Nat) : List Int := -1 :: up rp
theorem pth_len (rp : List Nat) : (pth rp).length = rp.length + 1 := by simp [pth, up]
theorem pth_cons (a : Nat) (rp : List Nat) : pth (a :: rp) = pth rp ++ [(a : Int)] := by simp [pth, up]
theorem pth_last (rp : List Nat) : (pth rp)[rp.length]? = some (hdP rp) := by
  cases rp with
  | nil => rfl
  | cons a rp =>
    rw [pth_cons, List.getElem?_append_right (by rw [pth_len]; simp), pth_len]
    simp [hdP]
structure PkS where
  d : List UInt8
  r : List UInt8
  P : List Int
  rp : List Nat
  W : List Int
  g : Nat
theorem fail_fin {L : List AObj} (h : keepS [] L = [.dead, .dead, .dead, .dead]) : K.Fin [] L (.tup [.agg [nilV], .bool false]) (mI none) (rI none) := by
  have := Fin.keep (L1 := L) (r := .tup [.agg [nilV], .bool false]) [] rfl rfl
  rw [h] at this
  exact this

theorem keep3 (a b c : AObj) (P : List Int) : keepS [3] [a, b, c, .vec 3 1 P.length (ints P)] = [.dead, .dead, .dead, .vec 3 1 P.length (ints P)] := by
  have h : okTO (.vec 3 1 P.length (ints P)) = true := by
    have : okTL (ints P) = true := by
      induction P with
      | nil => rfl
      | cons x P ih => simp only [ints, List.map_cons, okTL, okT, Bool.true_and]; exact ih
    simp [okTO, this, ints_noOwn]
  show [_, _, _, _] = _
  simp [keepS, h]
theorem implParse_ok (s : List UInt8) (hs : s.length ≤ 1048576) : Ct Try.prog 46 [strL s] [] (rI (runH s [] [])) (mI (runH s [] [])) := by
  have hsz := strL_size s
  refine Ct.by_ hmix [ 8000000, 1000010] Try.func46 rfl ?_
  simp only [run0, run1, run2, run3, run4, run5, run6, run7, run8, run9, run10, run11, run12, run13, run14, run15, run16, run17, run18, run19, run20, run21, run22, reduceCtorEq, Nat.reduceEqDiff, Nat.reduceAdd, Nat.reduceSub, Nat.reduceLeDiff, indexAddrA, indexRefA, appendA, strA, Nat.reduceMul, Nat.zero_mul, Nat.reduceMod, Int.reduceEq, Int.reduceLT, Int.reduceLE, Nat.reduceLT, Nat.lt_irrefl, Nat.reduceBEq, tys0, tys1, tys2, tys3, tys4, tys5, tys6, tys7, tys8, tys9, tys10, tys11, tys12, tys13, tys14, tys15, tys16, tys17, tys18, Try.ntmps46, Try.results46, strL, hsz]
  refine AWp.nilB 2 0 3 1 rfl rfl ?_
  refine AWp.loop_inv (ι := PkS) (fun p => ⟨[strL s, .junk, .ptr 0 0, .bool false, .ptr 2 0, .ref 1 [] p.g (p.rp.length + 1), .junk, .junk, .junk, .junk, .junk, .junk, .int .i64 s.length, .int .i64 p.d.length, .junk, .junk, .junk, .junk, .junk, .junk, .junk, .junk, .junk, .junk, .junk, .junk, .junk, .junk, .junk, .junk, .junk, .junk, .junk, .junk, .junk, .junk, .junk, .junk, .junk, .junk, .junk, .junk, .junk, .junk, .junk, .junk, .junk, .junk, .junk, .junk, .junk, .junk, .junk, .junk, .junk, .junk, .junk, .junk, .junk, .junk, .junk, .junk, .junk, .junk, .junk, .junk, .junk, .junk, .junk, .junk, .junk, .junk, .junk, .junk, .junk, .junk, .junk, .junk, .junk, .junk, .junk, .junk, .junk, .junk, .junk],
      [.box 60 [nilV], .vec 3 1 p.g (ints p.W), .box 60 [.ref 3 [] p.P.length p.P.length], .vec 3 1 p.P.length (ints p.P)]⟩)
    (fun p => s = p.d ++ p.r ∧ PhI p.P p.rp p.d ∧ runH p.r p.P p.rp = runH s [] [] ∧ p.W.take (p.rp.length + 1) = pth p.rp ∧ p.rp.length ≤ p.d.length) (fun p => p.r.length) ⟨[], s, [], [], [-1], 0⟩ ⟨rfl, PhI.start, rfl, rfl, Nat.le_refl _⟩ ⟨by simp only [List.length_nil, Int.natCast_zero]; repeat constructor, rfl⟩ ?_
  rintro ⟨d, r, P, rp, Wl, g⟩ ⟨ha, hI, hrun, hW, hrl⟩
  refine W.sound hmix (E := [8000000, 1000010]) ?_
  simp only at ha hI hrun hW hrl
  rw [← hrun]
  have hda : d.length + r.length = s.length := by rw [ha, List.length_append]
  have hPl := hI.len
  have hno := ints_noOwn P
  have hnoW := ints_noOwn Wl
  have hWl : rp.length + 1 ≤ Wl.length := by
    have := congrArg List.length hW
    rw [pth_len, List.length_take] at this; omega
  have f6 : (ints Wl)[rp.length]? = some (.int .i64 (hdP rp)) := by
    have := pth_last rp
    rw [← hW, List.getElem?_take_of_lt (by omega)] at this
    rw [List.getElem?_map, this]; rfl
  have f7 : IntKind.i64.wrap (((rp.length + 1 : Nat) : Int) - 1) = (rp.length : Int) := by rw [i64_id (by omega) (by omega)]; omega
  have f8 : (rp.length : Int) < ((rp.length + 1 : Nat) : Int) := by omega
  have f9 : (1 : Int) < ((rp.length + 1 : Nat) : Int) ↔ rp ≠ [] := by
    cases rp with
    | nil => simp
    | cons a rp => simp; omega
  have f10 : rp.length + 1 + 1 ≤ 137438953472 := by omega
  generalize hm : rp.length = m at *
  cases r with
  | nil =>
    have e1 : ¬ ((d.length : Int) < (s.length : Int)) := by simp at hda; omega
    have hv : VwL [.box 60 [nilV], .vec 3 1 g (ints Wl), .box 60 [.ref 3 [] P.length P.length], .vec 3 1 P.length (ints P)] [.agg [.ref 3 [] P.length P.length]] [hyA P] :=
      .cons (.agg (.cons (Vw_intR rfl rfl rfl) .nil)) .nil
    simp only [run0, run1, run2, run3, run4, run5, run6, run7, run8, run9, run10, run11, run12, run13, run14, run15, run16, run17, run18, run19, run20, run21, run22, reduceCtorEq, Nat.reduceEqDiff, Nat.reduceAdd, Nat.reduceSub, Nat.reduceLeDiff, indexAddrA, indexRefA, appendA, strA, Nat.reduceMul, Nat.zero_mul, Nat.reduceMod, Int.reduceEq, Int.reduceLT, Int.reduceLE, Nat.reduceLT, Nat.lt_irrefl, Nat.reduceBEq, tys0, tys1, tys2, tys3, tys4, tys5, tys6, tys7, tys8, tys9, tys10, tys11, tys12, tys13, tys14, tys15, tys16, tys17, tys18, Try.ntmps46, Try.results46, strL, hsz, e1]
    refine RunL.lendV rfl rfl ok_f44 rfl (implText_ok P (by omega)) hv rfl rfl ?_
    by_cases hP : P = []
    · have hB : hydB P = false := by rw [hP]; rfl
      rw [show runH [] P rp = none from if_neg (by simp [hP])]
      simp only [run0, run1, run2, run3, run4, run5, run6, run7, run8, run9, run10, run11, run12, run13, run14, run15, run16, run17, run18, run19, run20, run21, run22, reduceCtorEq, Nat.reduceEqDiff, Nat.reduceAdd, Nat.reduceSub, Nat.reduceLeDiff, indexAddrA, indexRefA, appendA, strA, Nat.reduceMul, Nat.zero_mul, Nat.reduceMod, Int.reduceEq, Int.reduceLT, Int.reduceLE, Nat.reduceLT, Nat.lt_irrefl, Nat.reduceBEq, tys0, tys1, tys2, tys3, tys4, tys5, tys6, tys7, tys8, tys9, tys10, tys11, tys12, tys13, tys14, tys15, tys16, tys17, tys18, Try.ntmps46, Try.results46, htx, strL, hB]
      exact fail_fin rfl
    · have hB := hI.hyd hP
      have hd : d = s := by rw [ha, List.append_nil]
      have hlast := hI.last hP
      by_cases hr : rp = []
      · have e3 : (⟨(shT (fo P P.length 0)).toArray⟩ : ByteArray) = ⟨s.toArray⟩ := by rw [← hd]; rw [show shT (fo P P.length 0) = d from hlast.2 hr]
        rw [show runH [] P rp = some P from if_pos ⟨hr, hP⟩]
        simp only [run0, run1, run2, run3, run4, run5, run6, run7, run8, run9, run10, run11, run12, run13, run14, run15, run16, run17, run18, run19, run20, run21, run22, reduceCtorEq, Nat.reduceEqDiff, Nat.reduceAdd, Nat.reduceSub, Nat.reduceLeDiff, indexAddrA, indexRefA, appendA, strA, Nat.reduceMul, Nat.zero_mul, Nat.reduceMod, Int.reduceEq, Int.reduceLT, Int.reduceLE, Nat.reduceLT, Nat.lt_irrefl, Nat.reduceBEq, tys0, tys1, tys2, tys3, tys4, tys5, tys6, tys7, tys8, tys9, tys10, tys11, tys12, tys13, tys14, tys15, tys16, tys17, tys18, Try.ntmps46, Try.results46, htx, strL, hB, if_true, e3, bne_self_eq_false]
        have := Fin.keep (L1 := [.box 60 [.ref 3 [] P.length P.length], .vec 3 1 g (ints Wl), .box 60 [.ref 3 [] P.length P.length], .vec 3 1 P.length (ints P)]) (r := rI (some P)) [3] rfl rfl
        rw [keep3] at this
        exact this
      · have e3 : ((⟨(shT (fo P P.length 0)).toArray⟩ : ByteArray).toList == (⟨s.toArray⟩ : ByteArray).toList) = false := by
          have h2 : shT (fo P P.length 0) ≠ s := fun h => hr (hlast.1 (by rw [hd]; exact h))
          rw [ByteArray.toList_eq, ByteArray.toList_eq]
          simpa using h2
        rw [show runH [] P rp = none from if_neg (by simp [hr])]
        simp only [run0, run1, run2, run3, run4, run5, run6, run7, run8, run9, run10, run11, run12, run13, run14, run15, run16, run17, run18, run19, run20, run21, run22, reduceCtorEq, Nat.reduceEqDiff, Nat.reduceAdd, Nat.reduceSub, Nat.reduceLeDiff, indexAddrA, indexRefA, appendA, strA, Nat.reduceMul, Nat.zero_mul, Nat.reduceMod, Int.reduceEq, Int.reduceLT, Int.reduceLE, Nat.reduceLT, Nat.lt_irrefl, Nat.reduceBEq, tys0, tys1, tys2, tys3, tys4, tys5, tys6, tys7, tys8, tys9, tys10, tys11, tys12, tys13, tys14, tys15, tys16, tys17, tys18, Try.ntmps46, Try.results46, htx, strL, hB, if_true, e3, Bool.not_false]
        exact fail_fin rfl
  | cons c r =>
    simp only [List.length_cons] at hda
    have e1 : (d.length : Int) < (s.length : Int) := by omega
    have e2 := at_str d r c
    rw [← ha] at e2
    simp only [strL] at e2
    have e5 : IntKind.i64.wrap ((d.length : Int) + 1) = ((d ++ [c]).length : Int) := by rw [i64_id (by omega) (by omega)]; simp
    have f3 : P.length + 1 ≤ 137438953472 := by omega
    have ne1 : ∀ k : Nat, c ≠ UInt8.ofNat k → k < 256 → ((c.toNat : Int) == (k : Int)) = false := fun k hk hk2 => by
      rw [beq_eq_false_iff_ne]
      intro he
      have he2 : c.toNat = k := by omega
      exact hk (UInt8.toNat_inj.1 (by rw [he2]; simp; omega))
    have failed : stepH P rp c = none → runH (c :: r) P rp = none := runH_none
    by_cases h4 : c = 40
    · subst h4
      have c4 : (((40 : UInt8).toNat : Int) == 40) = true := rfl
      have c5 : (((40 : UInt8).toNat : Int) == 41) = false := rfl
      by_cases hl : P.length < 40
      · have e3 : (P.length : Int) < 40 := by omega
        have e6 : IntKind.i64.wrap (((P.length + 1 : Nat) : Int) - 1) = (P.length : Int) := by rw [i64_id (by omega) (by omega)]; omega
        cases rp with
        | cons a rp =>
          have e4 : (1 : Int) < ((m + 1 : Nat) : Int) := f9.2 (by simp)
          have hst : stepH P (a :: rp) 40 = some (P ++ [hdP (a :: rp)], P.length :: a :: rp) := if_pos ⟨rfl, hl, .inl (by simp)⟩
          simp only [run0, run1, run2, run3, run4, run5, run6, run7, run8, run9, run10, run11, run12, run13, run14, run15, run16, run17, run18, run19, run20, run21, run22, reduceCtorEq, Nat.reduceEqDiff, Nat.reduceAdd, Nat.reduceSub, Nat.reduceLeDiff, indexAddrA, indexRefA, appendA, strA, Nat.reduceMul, Nat.zero_mul, Nat.reduceMod, Int.reduceEq, Int.reduceLT, Int.reduceLE, Nat.reduceLT, Nat.lt_irrefl, Nat.reduceBEq, tys0, tys1, tys2, tys3, tys4, tys5, tys6, tys7, tys8, tys9, tys10, tys11, tys12, tys13, tys14, tys15, tys16, tys17, tys18, Try.ntmps46, Try.results46, strL, hsz, e1, e2, e3, e4, c4, List.length_map]
          refine ⟨[0, 1, 2, 3, 4, 5, 6, 7, 8, 9, 10, 11], by kernel_rfl, ?_⟩
          by_cases hfull : m + 1 = Wl.length
          · have hf : (m + 1 = Wl.length) = True := eq_true hfull
            have hWf : Wl.take (m + 1) = Wl := List.take_of_length_le (by omega)
            simp only [run0, run1, run2, run3, run4, run5, run6, run7, run8, run9, run10, run11, run12, run13, run14, run15, run16, run17, run18, run19, run20, run21, run22, reduceCtorEq, Nat.reduceEqDiff, Nat.reduceAdd, Nat.reduceSub, Nat.reduceLeDiff, indexAddrA, indexRefA, appendA, strA, Nat.reduceMul, Nat.zero_mul, Nat.reduceMod, Int.reduceEq, Int.reduceLT, Int.reduceLE, Nat.reduceLT, Nat.lt_irrefl, Nat.reduceBEq, tys0, tys1, tys2, tys3, tys4, tys5, tys6, tys7, tys8, tys9, tys10, tys11, tys12, tys13, tys14, tys15, tys16, tys17, tys18, Try.ntmps46, Try.results46, hf, f6, f7, f8, f3, f10, hno, hnoW, e5, e6, List.length_map, Int.toNat_natCast, Int.natCast_nonneg, List.mapIdx_cons, List.mapIdx_nil, viewC]
            subst hm
            rw [hWf] at hW
            refine ⟨⟨d ++ [40], r, P ++ [hdP (a :: rp)], P.length :: (a :: rp), Wl ++ [(P.length : Int)], g + 1⟩, ⟨by rw [ha]; simp, hI.step hst, (runH_cons hst).symm, ?_, by simp only [List.length_cons, List.length_append, List.length_nil] at hrl ⊢; omega⟩, by simp, by simp only [List.length_append, List.length_cons, List.length_nil, Nat.zero_add]; repeat constructor, by simp⟩
            rw [hW, pth_cons P.length]
            exact List.take_of_length_le (by simp [pth_len])
          · simp only [run0, run1, run2, run3, run4, run5, run6, run7, run8, run9, run10, run11, run12, run13, run14, run15, run16, run17, run18, run19, run20, run21, run22, reduceCtorEq, Nat.reduceEqDiff, Nat.reduceAdd, Nat.reduceSub, Nat.reduceLeDiff, indexAddrA, indexRefA, appendA, strA, Nat.reduceMul, Nat.zero_mul, Nat.reduceMod, Int.reduceEq, Int.reduceLT, Int.reduceLE, Nat.reduceLT, Nat.lt_irrefl, Nat.reduceBEq, tys0, tys1, tys2, tys3, tys4, tys5, tys6, tys7, tys8, tys9, tys10, tys11, tys12, tys13, tys14, tys15, tys16, tys17, tys18, Try.ntmps46, Try.results46, hfull, hWl, f6, f7, f8, f3, f10, hno, hnoW, e5, e6, List.length_map, Int.toNat_natCast, Int.natCast_nonneg, List.mapIdx_cons, List.mapIdx_nil, viewC]
            subst hm
            refine ⟨⟨d ++ [40], r, P ++ [hdP (a :: rp)], P.length :: (a :: rp), Wl.take ((a :: rp).length + 1) ++ [(P.length : Int)], g + 2⟩, ⟨by rw [ha]; simp, hI.step hst, (runH_cons hst).symm, ?_, by simp only [List.length_cons, List.length_append, List.length_nil] at hrl ⊢; omega⟩, by simp, by simp only [List.length_append, List.length_cons, List.length_nil, Nat.zero_add]; repeat constructor, by simp [List.map_take]⟩
            rw [hW, pth_cons P.length]
            exact List.take_of_length_le (by simp [pth_len])
        | nil =>
          have e4 : ¬ (1 : Int) < ((m + 1 : Nat) : Int) := fun h => absurd rfl (f9.1 h)
          by_cases hP : P = []
          · have hd : d = [] := hI.nil.1 hP
            have z0 : ((d.length : Int) == 0) = true := by simp [hd]
            have hst : stepH P [] 40 = some (P ++ [hdP []], [P.length]) := if_pos ⟨rfl, hl, .inr hP⟩
            simp only [run0, run1, run2, run3, run4, run5, run6, run7, run8, run9, run10, run11, run12, run13, run14, run15, run16, run17, run18, run19, run20, run21, run22, reduceCtorEq, Nat.reduceEqDiff, Nat.reduceAdd, Nat.reduceSub, Nat.reduceLeDiff, indexAddrA, indexRefA, appendA, strA, Nat.reduceMul, Nat.zero_mul, Nat.reduceMod, Int.reduceEq, Int.reduceLT, Int.reduceLE, Nat.reduceLT, Nat.lt_irrefl, Nat.reduceBEq, tys0, tys1, tys2, tys3, tys4, tys5, tys6, tys7, tys8, tys9, tys10, tys11, tys12, tys13, tys14, tys15, tys16, tys17, tys18, Try.ntmps46, Try.results46, strL, hsz, e1, e2, e3, e4, c4, z0, List.length_map]
            refine ⟨[0, 1, 2, 3, 4, 5, 6, 7, 8, 9, 10, 11], by kernel_rfl, ?_⟩
            by_cases hfull : m + 1 = Wl.length
            · have hf : (m + 1 = Wl.length) = True := eq_true hfull
              have hWf : Wl.take (m + 1) = Wl := List.take_of_length_le (by omega)
              simp only [run0, run1, run2, run3, run4, run5, run6, run7, run8, run9, run10, run11, run12, run13, run14, run15, run16, run17, run18, run19, run20, run21, run22, reduceCtorEq, Nat.reduceEqDiff, Nat.reduceAdd, Nat.reduceSub, Nat.reduceLeDiff, indexAddrA, indexRefA, appendA, strA, Nat.reduceMul, Nat.zero_mul, Nat.reduceMod, Int.reduceEq, Int.reduceLT, Int.reduceLE, Nat.reduceLT, Nat.lt_irrefl, Nat.reduceBEq, tys0, tys1, tys2, tys3, tys4, tys5, tys6, tys7, tys8, tys9, tys10, tys11, tys12, tys13, tys14, tys15, tys16, tys17, tys18, Try.ntmps46, Try.results46, hf, f6, f7, f8, f3, f10, hno, hnoW, e5, e6, List.length_map, Int.toNat_natCast, Int.natCast_nonneg, List.mapIdx_cons, List.mapIdx_nil, viewC]
              subst hm
              rw [hWf] at hW
              refine ⟨⟨d ++ [40], r, P ++ [hdP []], P.length :: [], Wl ++ [(P.length : Int)], g + 1⟩, ⟨by rw [ha]; simp, hI.step hst, (runH_cons hst).symm, ?_, by simp only [List.length_cons, List.length_append, List.length_nil] at hrl ⊢; omega⟩, by simp, by simp only [List.length_append, List.length_cons, List.length_nil, Nat.zero_add]; repeat constructor, by simp⟩
              rw [hW, pth_cons P.length]
              exact List.take_of_length_le (by simp [pth_len])
            · simp only [run0, run1, run2, run3, run4, run5, run6, run7, run8, run9, run10, run11, run12, run13, run14, run15, run16, run17, run18, run19, run20, run21, run22, reduceCtorEq, Nat.reduceEqDiff, Nat.reduceAdd, Nat.reduceSub, Nat.reduceLeDiff, indexAddrA, indexRefA, appendA, strA, Nat.reduceMul, Nat.zero_mul, Nat.reduceMod, Int.reduceEq, Int.reduceLT, Int.reduceLE, Nat.reduceLT, Nat.lt_irrefl, Nat.reduceBEq, tys0, tys1, tys2, tys3, tys4, tys5, tys6, tys7, tys8, tys9, tys10, tys11, tys12, tys13, tys14, tys15, tys16, tys17, tys18, Try.ntmps46, Try.results46, hfull, hWl, f6, f7, f8, f3, f10, hno, hnoW, e5, e6, List.length_map, Int.toNat_natCast, Int.natCast_nonneg, List.mapIdx_cons, List.mapIdx_nil, viewC]
              subst hm
              refine ⟨⟨d ++ [40], r, P ++ [hdP []], P.length :: [], Wl.take (([] : List Nat).length + 1) ++ [(P.length : Int)], g + 2⟩, ⟨by rw [ha]; simp, hI.step hst, (runH_cons hst).symm, ?_, by simp only [List.length_cons, List.length_append, List.length_nil] at hrl ⊢; omega⟩, by simp, by simp only [List.length_append, List.length_cons, List.length_nil, Nat.zero_add]; repeat constructor, by simp [List.map_take]⟩
              rw [hW, pth_cons P.length]
              exact List.take_of_length_le (by simp [pth_len])
          · have hd : d.length ≠ 0 := fun h => hP (hI.nil.2 (List.length_eq_zero_iff.1 h))
            have z0 : ((d.length : Int) == 0) = false := by simpa using hd
            rw [failed (by simp [stepH, hP])]
            simp only [run0, run1, run2, run3, run4, run5, run6, run7, run8, run9, run10, run11, run12, run13, run14, run15, run16, run17, run18, run19, run20, run21, run22, reduceCtorEq, Nat.reduceEqDiff, Nat.reduceAdd, Nat.reduceSub, Nat.reduceLeDiff, indexAddrA, indexRefA, appendA, strA, Nat.reduceMul, Nat.zero_mul, Nat.reduceMod, Int.reduceEq, Int.reduceLT, Int.reduceLE, Nat.reduceLT, Nat.lt_irrefl, Nat.reduceBEq, tys0, tys1, tys2, tys3, tys4, tys5, tys6, tys7, tys8, tys9, tys10, tys11, tys12, tys13, tys14, tys15, tys16, tys17, tys18, Try.ntmps46, Try.results46, strL, hsz, e1, e2, e3, e4, c4, c5, z0, List.length_map]
            exact fail_fin rfl
      · have e3 : ¬ (P.length : Int) < 40 := by omega
        rw [failed (by simp [stepH, hl])]
        cases rp with
        | cons a rp =>
          have e4 : (1 : Int) < ((m + 1 : Nat) : Int) := f9.2 (by simp)
          simp only [run0, run1, run2, run3, run4, run5, run6, run7, run8, run9, run10, run11, run12, run13, run14, run15, run16, run17, run18, run19, run20, run21, run22, reduceCtorEq, Nat.reduceEqDiff, Nat.reduceAdd, Nat.reduceSub, Nat.reduceLeDiff, indexAddrA, indexRefA, appendA, strA, Nat.reduceMul, Nat.zero_mul, Nat.reduceMod, Int.reduceEq, Int.reduceLT, Int.reduceLE, Nat.reduceLT, Nat.lt_irrefl, Nat.reduceBEq, tys0, tys1, tys2, tys3, tys4, tys5, tys6, tys7, tys8, tys9, tys10, tys11, tys12, tys13, tys14, tys15, tys16, tys17, tys18, Try.ntmps46, Try.results46, strL, hsz, e1, e2, e3, e4, c4, c5, List.length_map]
          exact fail_fin rfl
        | nil =>
          have e4 : ¬ (1 : Int) < ((m + 1 : Nat) : Int) := fun h => absurd rfl (f9.1 h)
          cases z0 : ((d.length : Int) == 0)
          · simp only [run0, run1, run2, run3, run4, run5, run6, run7, run8, run9, run10, run11, run12, run13, run14, run15, run16, run17, run18, run19, run20, run21, run22, reduceCtorEq, Nat.reduceEqDiff, Nat.reduceAdd, Nat.reduceSub, Nat.reduceLeDiff, indexAddrA, indexRefA, appendA, strA, Nat.reduceMul, Nat.zero_mul, Nat.reduceMod, Int.reduceEq, Int.reduceLT, Int.reduceLE, Nat.reduceLT, Nat.lt_irrefl, Nat.reduceBEq, tys0, tys1, tys2, tys3, tys4, tys5, tys6, tys7, tys8, tys9, tys10, tys11, tys12, tys13, tys14, tys15, tys16, tys17, tys18, Try.ntmps46, Try.results46, strL, hsz, e1, e2, e3, e4, c4, c5, z0, List.length_map]
            exact fail_fin rfl
          · simp only [run0, run1, run2, run3, run4, run5, run6, run7, run8, run9, run10, run11, run12, run13, run14, run15, run16, run17, run18, run19, run20, run21, run22, reduceCtorEq, Nat.reduceEqDiff, Nat.reduceAdd, Nat.reduceSub, Nat.reduceLeDiff, indexAddrA, indexRefA, appendA, strA, Nat.reduceMul, Nat.zero_mul, Nat.reduceMod, Int.reduceEq, Int.reduceLT, Int.reduceLE, Nat.reduceLT, Nat.lt_irrefl, Nat.reduceBEq, tys0, tys1, tys2, tys3, tys4, tys5, tys6, tys7, tys8, tys9, tys10, tys11, tys12, tys13, tys14, tys15, tys16, tys17, tys18, Try.ntmps46, Try.results46, strL, hsz, e1, e2, e3, e4, c4, c5, z0, List.length_map]
            exact fail_fin rfl
    · have c4 : ((c.toNat : Int) == 40) = false := ne1 40 h4 (by omega)
      by_cases h5 : c = 41
      · subst h5
        have c5 : (((41 : UInt8).toNat : Int) == 41) = true := rfl
        cases rp with
        | nil =>
          have e4 : ¬ (1 : Int) < ((m + 1 : Nat) : Int) := fun h => absurd rfl (f9.1 h)
          rw [failed (by simp [stepH])]
          simp only [run0, run1, run2, run3, run4, run5, run6, run7, run8, run9, run10, run11, run12, run13, run14, run15, run16, run17, run18, run19, run20, run21, run22, reduceCtorEq, Nat.reduceEqDiff, Nat.reduceAdd, Nat.reduceSub, Nat.reduceLeDiff, indexAddrA, indexRefA, appendA, strA, Nat.reduceMul, Nat.zero_mul, Nat.reduceMod, Int.reduceEq, Int.reduceLT, Int.reduceLE, Nat.reduceLT, Nat.lt_irrefl, Nat.reduceBEq, tys0, tys1, tys2, tys3, tys4, tys5, tys6, tys7, tys8, tys9, tys10, tys11, tys12, tys13, tys14, tys15, tys16, tys17, tys18, Try.ntmps46, Try.results46, strL, hsz, e1, e2, e4, c4, c5, List.length_map]
          exact fail_fin rfl
        | cons a rp =>
          have e4 : (1 : Int) < ((m + 1 : Nat) : Int) := f9.2 (by simp)
          have hst : stepH P (a :: rp) 41 = some (P, rp) := by simp [stepH]
          have hsl : sliceA Try.prog [.box 60 [nilV], .vec 3 1 g (ints Wl), .box 60 [.ref 3 [] P.length P.length], .vec 3 1 P.length (ints P)] 55 (.ref 1 [] g (m + 1)) none (some (.int .i64 (m : Int))) = some (.ref 1 [] g m) := slice_ints (by simp [eptrNow]) (by omega)
          simp only [run0, run1, run2, run3, run4, run5, run6, run7, run8, run9, run10, run11, run12, run13, run14, run15, run16, run17, run18, run19, run20, run21, run22, reduceCtorEq, Nat.reduceEqDiff, Nat.reduceAdd, Nat.reduceSub, Nat.reduceLeDiff, indexAddrA, indexRefA, appendA, strA, Nat.reduceMul, Nat.zero_mul, Nat.reduceMod, Int.reduceEq, Int.reduceLT, Int.reduceLE, Nat.reduceLT, Nat.lt_irrefl, Nat.reduceBEq, tys0, tys1, tys2, tys3, tys4, tys5, tys6, tys7, tys8, tys9, tys10, tys11, tys12, tys13, tys14, tys15, tys16, tys17, tys18, Try.ntmps46, Try.results46, strL, hsz, e1, e2, e4, e5, f7, hsl, c4, c5, List.length_map]
          subst hm
          refine ⟨⟨d ++ [41], r, P, rp, Wl, g⟩, ⟨by rw [ha]; simp, hI.step hst, (runH_cons hst).symm, ?_, by simp only [List.length_cons, List.length_append, List.length_nil] at hrl ⊢; omega⟩, by simp, by simp only [List.length_append, List.length_cons, List.length_nil, Nat.zero_add]; repeat constructor, rfl⟩
          have h1 := congrArg (List.take (rp.length + 1)) hW
          rw [List.take_take, pth_cons, List.take_append_of_le_length (by rw [pth_len]; exact Nat.le_refl _), List.take_of_length_le (l := pth rp) (by rw [pth_len]; exact Nat.le_refl _)] at h1
          rw [← h1]; congr 1; simp
      · have c5 : ((c.toNat : Int) == 41) = false := ne1 41 h5 (by omega)
        rw [failed (by simp [stepH, h4, h5])]
        simp only [run0, run1, run2, run3, run4, run5, run6, run7, run8, run9, run10, run11, run12, run13, run14, run15, run16, run17, run18, run19, run20, run21, run22, reduceCtorEq, Nat.reduceEqDiff, Nat.reduceAdd, Nat.reduceSub, Nat.reduceLeDiff, indexAddrA, indexRefA, appendA, strA, Nat.reduceMul, Nat.zero_mul, Nat.reduceMod, Int.reduceEq, Int.reduceLT, Int.reduceLE, Nat.reduceLT, Nat.lt_irrefl, Nat.reduceBEq, tys0, tys1, tys2, tys3, tys4, tys5, tys6, tys7, tys8, tys9, tys10, tys11, tys12, tys13, tys14, tys15, tys16, tys17, tys18, Try.ntmps46, Try.results46, strL, hsz, e1, e2, c4, c5, List.length_map]
        exact fail_fin rfl

end Go.Proofs.Ytphmkhaboghagaa
/-
  Hydras read from text: the law.
-/
namespace Go.Proofs.Ytphmkhaboghagaa
open Go K Od
set_option linter.unusedSimpArgs false
set_option linter.unusedVariables false
set_option maxHeartbeats 3200000
set_option maxRecDepth 8000

theorem markNone_ok (k : Int) : Ct Try.prog 86 [.sl false [], .int .i64 k] [] (.int .i64 k) [] := by
  refine Ct.by_ hmix [] Try.func86 rfl ?_
  simp only [run0, run1, run2, run3, run4, run5, run6, run7, run8, run9, run10, run11, run12, run13, run14, run15, run16, run17, run18, run19, run20, run21, run22, reduceCtorEq, Nat.reduceEqDiff, Nat.reduceAdd, Nat.reduceSub, Nat.reduceLeDiff, indexAddrA, indexRefA, appendA, strA, Nat.reduceMul, Nat.zero_mul, Nat.reduceMod, Int.reduceEq, Int.reduceLT, Int.reduceLE, Nat.reduceLT, Nat.lt_irrefl, Nat.reduceBEq, tys0, tys1, tys2, tys3, tys4, tys5, tys6, tys7, tys8, tys9, tys10, tys11, tys12, tys13, tys14, tys15, tys16, tys17, tys18, Try.ntmps86, Try.results86]
  refine AWp.loop_inv (ι := Unit) (fun p => ⟨[.sl false [], .int .i64 k, .junk, .junk, .int .i64 0, .int .i64 0, .junk, .junk, .junk, .junk, .junk, .junk, .junk, .junk, .junk, .junk, .junk, .junk, .junk], []⟩)
    (fun p => True) (fun p => 0) () trivial ⟨by repeat constructor, rfl⟩ ?_
  rintro ⟨⟩ _
  refine W.sound hmix (E := []) ?_
  simp only [run0, run1, run2, run3, run4, run5, run6, run7, run8, run9, run10, run11, run12, run13, run14, run15, run16, run17, run18, run19, run20, run21, run22, reduceCtorEq, Nat.reduceEqDiff, Nat.reduceAdd, Nat.reduceSub, Nat.reduceLeDiff, indexAddrA, indexRefA, appendA, strA, Nat.reduceMul, Nat.zero_mul, Nat.reduceMod, Int.reduceEq, Int.reduceLT, Int.reduceLE, Nat.reduceLT, Nat.lt_irrefl, Nat.reduceBEq, tys0, tys1, tys2, tys3, tys4, tys5, tys6, tys7, tys8, tys9, tys10, tys11, tys12, tys13, tys14, tys15, tys16, tys17, tys18, Try.ntmps86, Try.results86, List.length_nil, Int.natCast_zero, Int.lt_irrefl]
  exact Fin.eq rfl rfl
theorem markHydraNone_ok (k : Int) : Ct Try.prog 41 [.agg [.sl false []], .int .i64 k] [] (.int .i64 k) [] := by
  refine Ct.by_ hmix [] Try.func41 rfl ?_
  simp only [run0, run1, run2, run3, run4, run5, run6, run7, run8, run9, run10, run11, run12, run13, run14, run15, run16, run17, run18, run19, run20, run21, run22, reduceCtorEq, Nat.reduceEqDiff, Nat.reduceAdd, Nat.reduceSub, Nat.reduceLeDiff, indexAddrA, indexRefA, appendA, strA, Nat.reduceMul, Nat.zero_mul, Nat.reduceMod, Int.reduceEq, Int.reduceLT, Int.reduceLE, Nat.reduceLT, Nat.lt_irrefl, Nat.reduceBEq, tys0, tys1, tys2, tys3, tys4, tys5, tys6, tys7, tys8, tys9, tys10, tys11, tys12, tys13, tys14, tys15, tys16, tys17, tys18, Try.ntmps41, Try.results41]
  refine RunL.callp rfl rfl ok_f86 (markNone_ok k) rfl rfl ?_
  simp only [run0, run1, run2, run3, run4, run5, run6, run7, run8, run9, run10, run11, run12, run13, run14, run15, run16, run17, run18, run19, run20, run21, run22, reduceCtorEq, Nat.reduceEqDiff, Nat.reduceAdd, Nat.reduceSub, Nat.reduceLeDiff, indexAddrA, indexRefA, appendA, strA, Nat.reduceMul, Nat.zero_mul, Nat.reduceMod, Int.reduceEq, Int.reduceLT, Int.reduceLE, Nat.reduceLT, Nat.lt_irrefl, Nat.reduceBEq, tys0, tys1, tys2, tys3, tys4, tys5, tys6, tys7, tys8, tys9, tys10, tys11, tys12, tys13, tys14, tys15, tys16, tys17, tys18, Try.ntmps41, Try.results41]
  exact Fin.eq rfl rfl
theorem markHydra_ok (l : List Int) (id g : Nat) (L0 : List AObj) (k : Int) (hL : L0[id]? = some (.vec 3 1 g (ints l))) (hl : l.length ≤ 1048576) (h0 : 0 ≤ k) (hk : k ≤ 4611686018427387904) :
    Ct Try.prog 41 [.agg [.ref id [] g l.length], .int .i64 k] L0 (.int .i64 (k + l.length)) ((L0 ++ [AObj.box 60 [.ref id [] g l.length]]).set id (.vec 3 1 g (ints (mkI l k)))) := by
  have hid := (List.getElem?_eq_some_iff.1 hL).1
  have hc := markIntS_ok l id g (L0 ++ [.box 60 [.ref id [] g l.length]]) k (by rw [List.getElem?_append_left hid]; exact hL) hl h0 hk
  refine Ct.by_ hmix [] Try.func41 rfl ?_
  simp only [run0, run1, run2, run3, run4, run5, run6, run7, run8, run9, run10, run11, run12, run13, run14, run15, run16, run17, run18, run19, run20, run21, run22, reduceCtorEq, Nat.reduceEqDiff, Nat.reduceAdd, Nat.reduceSub, Nat.reduceLeDiff, indexAddrA, indexRefA, appendA, strA, Nat.reduceMul, Nat.zero_mul, Nat.reduceMod, Int.reduceEq, Int.reduceLT, Int.reduceLE, Nat.reduceLT, Nat.lt_irrefl, Nat.reduceBEq, tys0, tys1, tys2, tys3, tys4, tys5, tys6, tys7, tys8, tys9, tys10, tys11, tys12, tys13, tys14, tys15, tys16, tys17, tys18, Try.ntmps41, Try.results41, List.getElem?_concat_length]
  refine RunL.callM rfl rfl ok_f86 rfl rfl hc rfl ?_
  simp only [run0, run1, run2, run3, run4, run5, run6, run7, run8, run9, run10, run11, run12, run13, run14, run15, run16, run17, run18, run19, run20, run21, run22, reduceCtorEq, Nat.reduceEqDiff, Nat.reduceAdd, Nat.reduceSub, Nat.reduceLeDiff, indexAddrA, indexRefA, appendA, strA, Nat.reduceMul, Nat.zero_mul, Nat.reduceMod, Int.reduceEq, Int.reduceLT, Int.reduceLE, Nat.reduceLT, Nat.lt_irrefl, Nat.reduceBEq, tys0, tys1, tys2, tys3, tys4, tys5, tys6, tys7, tys8, tys9, tys10, tys11, tys12, tys13, tys14, tys15, tys16, tys17, tys18, Try.ntmps41, Try.results41]
  exact Fin.own rfl rfl
theorem heldHydra_ok (l : List Int) (k : Int) (hl : l.length ≤ 1048576) (h0 : 0 ≤ k) (hk : k ≤ 4611686018427387904) : Ct Try.prog 42 [hyA (mkI l k), .int .i64 k] [] (.int .i64 (k + l.length)) [] := by
  have hp := hyA_pure (mkI l k)
  simp only [hyA] at hp
  have e : ¬ (k + (l.length : Int) < 0) := by omega
  refine Ct.by_ hmix [] Try.func42 rfl ?_
  simp only [run0, run1, run2, run3, run4, run5, run6, run7, run8, run9, run10, run11, run12, run13, run14, run15, run16, run17, run18, run19, run20, run21, run22, reduceCtorEq, Nat.reduceEqDiff, Nat.reduceAdd, Nat.reduceSub, Nat.reduceLeDiff, indexAddrA, indexRefA, appendA, strA, Nat.reduceMul, Nat.zero_mul, Nat.reduceMod, Int.reduceEq, Int.reduceLT, Int.reduceLE, Nat.reduceLT, Nat.lt_irrefl, Nat.reduceBEq, tys0, tys1, tys2, tys3, tys4, tys5, tys6, tys7, tys8, tys9, tys10, tys11, tys12, tys13, tys14, tys15, tys16, tys17, tys18, Try.ntmps42, Try.results42, hyA]
  refine RunL.callp rfl rfl ok_f87 (heldIntS_ok l k hl h0 hk) (by simp only [pureL, pureB, ints_pure, Bool.and_self, Bool.and_true, Bool.true_and]) rfl ?_
  simp only [run0, run1, run2, run3, run4, run5, run6, run7, run8, run9, run10, run11, run12, run13, run14, run15, run16, run17, run18, run19, run20, run21, run22, reduceCtorEq, Nat.reduceEqDiff, Nat.reduceAdd, Nat.reduceSub, Nat.reduceLeDiff, indexAddrA, indexRefA, appendA, strA, Nat.reduceMul, Nat.zero_mul, Nat.reduceMod, Int.reduceEq, Int.reduceLT, Int.reduceLE, Nat.reduceLT, Nat.lt_irrefl, Nat.reduceBEq, tys0, tys1, tys2, tys3, tys4, tys5, tys6, tys7, tys8, tys9, tys10, tys11, tys12, tys13, tys14, tys15, tys16, tys17, tys18, Try.ntmps42, Try.results42, e]
  exact Fin.eq rfl rfl

theorem runH_len : ∀ (s : List UInt8) (P : List Int) (rp : List Nat) (Q : List Int), P.length ≤ 40 → runH s P rp = some Q → Q.length ≤ 40
  | [], P, rp, Q, h, e => by
    simp only [runH] at e
    split at e
    · cases e; exact h
    · cases e
  | c :: s, P, rp, Q, h, e => by
    cases hq : stepH P rp c with
    | none => rw [runH_none hq] at e; cases e
    | some q =>
      rw [runH_cons hq] at e
      refine runH_len s q.1 q.2 Q ?_ e
      unfold stepH at hq
      split at hq
      · rename_i hc; cases hq; simp; omega
      · split at hq
        · cases hq; exact h
        · cases hq

theorem FnExactParseHydra_ok {a0 : AV} (h0 : IsOf Try.prog 9 a0) : Ct Try.prog 11 [a0] [] (.bool true) [] := by
  obtain ⟨_, h0⟩ := h0.one ty_a9
  obtain ⟨b, e, hb⟩ := h0.string Try.underlying9
  simp only [List.cons.injEq, and_true] at e
  subst e
  obtain ⟨s, rfl⟩ : ∃ s : List UInt8, b = ⟨s.toArray⟩ := ⟨b.data.toList, by cases b; simp⟩
  have hsz := strL_size s
  by_cases hl : (1048576 : Int) < (s.length : Int)
  · refine Ct.by_ hmix [] Try.func11 rfl ?_
    simp only [run0, run1, run2, run3, run4, run5, run6, run7, run8, run9, run10, run11, run12, run13, run14, run15, run16, run17, run18, run19, run20, run21, run22, reduceCtorEq, Nat.reduceEqDiff, Nat.reduceAdd, Nat.reduceSub, Nat.reduceLeDiff, indexAddrA, indexRefA, appendA, strA, Nat.reduceMul, Nat.zero_mul, Nat.reduceMod, Int.reduceEq, Int.reduceLT, Int.reduceLE, Nat.reduceLT, Nat.lt_irrefl, Nat.reduceBEq, tys0, tys1, tys2, tys3, tys4, tys5, tys6, tys7, tys8, tys9, tys10, tys11, tys12, tys13, tys14, tys15, tys16, tys17, tys18, Try.ntmps11, Try.results11, hsz, hl]
    exact Fin.eq rfl rfl
  have hs : s.length ≤ 1048576 := by omega
  have hsp := specParse_ok s hs
  have him := implParse_ok s hs
  have hlen := runH_len s [] []
  simp only [strL] at hsp him
  cases hR : runH s [] [] with
  | none =>
    rw [hR] at hsp him
    simp only [optH, rI, mI, hyA, nilV, Option.getD_none, Option.isSome_none] at hsp him
    have heq := eqHydra_ok [] (by simp)
    have hhe := heldHydra_ok [] 1 (by simp) (by omega) (by omega)
    have hv2 : ∀ L, VwL L [.agg [.lit (.slice none 0 0)], .agg [.sl false []]] [hyA [], hyA []] := fun L => .cons (.agg (.cons (.nil false) .nil)) (.cons (.pur (.of rfl)) .nil)
    have hv3 : ∀ L, VwL L [.agg [.lit (.slice none 0 0)], .int .i64 1] [.agg [.sl false []], .int .i64 1] := fun L => .cons (.agg (.cons (.nil false) .nil)) (.cons (.pur (.int _ _)) .nil)
    refine Ct.by_ hmix [] Try.func11 rfl ?_
    simp only [run0, run1, run2, run3, run4, run5, run6, run7, run8, run9, run10, run11, run12, run13, run14, run15, run16, run17, run18, run19, run20, run21, run22, reduceCtorEq, Nat.reduceEqDiff, Nat.reduceAdd, Nat.reduceSub, Nat.reduceLeDiff, indexAddrA, indexRefA, appendA, strA, Nat.reduceMul, Nat.zero_mul, Nat.reduceMod, Int.reduceEq, Int.reduceLT, Int.reduceLE, Nat.reduceLT, Nat.lt_irrefl, Nat.reduceBEq, tys0, tys1, tys2, tys3, tys4, tys5, tys6, tys7, tys8, tys9, tys10, tys11, tys12, tys13, tys14, tys15, tys16, tys17, tys18, Try.ntmps11, Try.results11, hsz, hl]
    refine RunL.callp rfl rfl ok_f45 hsp rfl rfl ?_
    simp only [run0, run1, run2, run3, run4, run5, run6, run7, run8, run9, run10, run11, run12, run13, run14, run15, run16, run17, run18, run19, run20, run21, run22, reduceCtorEq, Nat.reduceEqDiff, Nat.reduceAdd, Nat.reduceSub, Nat.reduceLeDiff, indexAddrA, indexRefA, appendA, strA, Nat.reduceMul, Nat.zero_mul, Nat.reduceMod, Int.reduceEq, Int.reduceLT, Int.reduceLE, Nat.reduceLT, Nat.lt_irrefl, Nat.reduceBEq, tys0, tys1, tys2, tys3, tys4, tys5, tys6, tys7, tys8, tys9, tys10, tys11, tys12, tys13, tys14, tys15, tys16, tys17, tys18, Try.ntmps11, Try.results11]
    refine RunL.callgp rfl rfl ok_f46 rfl him rfl rfl ?_
    simp only [run0, run1, run2, run3, run4, run5, run6, run7, run8, run9, run10, run11, run12, run13, run14, run15, run16, run17, run18, run19, run20, run21, run22, reduceCtorEq, Nat.reduceEqDiff, Nat.reduceAdd, Nat.reduceSub, Nat.reduceLeDiff, indexAddrA, indexRefA, appendA, strA, Nat.reduceMul, Nat.zero_mul, Nat.reduceMod, Int.reduceEq, Int.reduceLT, Int.reduceLE, Nat.reduceLT, Nat.lt_irrefl, Nat.reduceBEq, tys0, tys1, tys2, tys3, tys4, tys5, tys6, tys7, tys8, tys9, tys10, tys11, tys12, tys13, tys14, tys15, tys16, tys17, tys18, Try.ntmps11, Try.results11, shA, shL, shO, List.map_cons, List.map_nil]
    refine RunL.lendV rfl rfl ok_f38 rfl heq (hv2 _) rfl rfl ?_
    simp only [run0, run1, run2, run3, run4, run5, run6, run7, run8, run9, run10, run11, run12, run13, run14, run15, run16, run17, run18, run19, run20, run21, run22, reduceCtorEq, Nat.reduceEqDiff, Nat.reduceAdd, Nat.reduceSub, Nat.reduceLeDiff, indexAddrA, indexRefA, appendA, strA, Nat.reduceMul, Nat.zero_mul, Nat.reduceMod, Int.reduceEq, Int.reduceLT, Int.reduceLE, Nat.reduceLT, Nat.lt_irrefl, Nat.reduceBEq, tys0, tys1, tys2, tys3, tys4, tys5, tys6, tys7, tys8, tys9, tys10, tys11, tys12, tys13, tys14, tys15, tys16, tys17, tys18, Try.ntmps11, Try.results11, bne_self_eq_false]
    refine RunL.lendV rfl rfl ok_f41 rfl (markHydraNone_ok 1) (hv3 _) rfl rfl ?_
    simp only [run0, run1, run2, run3, run4, run5, run6, run7, run8, run9, run10, run11, run12, run13, run14, run15, run16, run17, run18, run19, run20, run21, run22, reduceCtorEq, Nat.reduceEqDiff, Nat.reduceAdd, Nat.reduceSub, Nat.reduceLeDiff, indexAddrA, indexRefA, appendA, strA, Nat.reduceMul, Nat.zero_mul, Nat.reduceMod, Int.reduceEq, Int.reduceLT, Int.reduceLE, Nat.reduceLT, Nat.lt_irrefl, Nat.reduceBEq, tys0, tys1, tys2, tys3, tys4, tys5, tys6, tys7, tys8, tys9, tys10, tys11, tys12, tys13, tys14, tys15, tys16, tys17, tys18, Try.ntmps11, Try.results11]
    refine RunL.lendV rfl rfl ok_f42 rfl hhe (hv3 _) rfl rfl ?_
    simp only [run0, run1, run2, run3, run4, run5, run6, run7, run8, run9, run10, run11, run12, run13, run14, run15, run16, run17, run18, run19, run20, run21, run22, reduceCtorEq, Nat.reduceEqDiff, Nat.reduceAdd, Nat.reduceSub, Nat.reduceLeDiff, indexAddrA, indexRefA, appendA, strA, Nat.reduceMul, Nat.zero_mul, Nat.reduceMod, Int.reduceEq, Int.reduceLT, Int.reduceLE, Nat.reduceLT, Nat.lt_irrefl, Nat.reduceBEq, tys0, tys1, tys2, tys3, tys4, tys5, tys6, tys7, tys8, tys9, tys10, tys11, tys12, tys13, tys14, tys15, tys16, tys17, tys18, Try.ntmps11, Try.results11, List.length_nil, Int.natCast_zero, Int.add_zero, bne_self_eq_false]
    refine RunL.callgp rfl rfl ok_f46 rfl him rfl rfl ?_
    simp only [run0, run1, run2, run3, run4, run5, run6, run7, run8, run9, run10, run11, run12, run13, run14, run15, run16, run17, run18, run19, run20, run21, run22, reduceCtorEq, Nat.reduceEqDiff, Nat.reduceAdd, Nat.reduceSub, Nat.reduceLeDiff, indexAddrA, indexRefA, appendA, strA, Nat.reduceMul, Nat.zero_mul, Nat.reduceMod, Int.reduceEq, Int.reduceLT, Int.reduceLE, Nat.reduceLT, Nat.lt_irrefl, Nat.reduceBEq, tys0, tys1, tys2, tys3, tys4, tys5, tys6, tys7, tys8, tys9, tys10, tys11, tys12, tys13, tys14, tys15, tys16, tys17, tys18, Try.ntmps11, Try.results11, shA, shL, shO, List.map_cons, List.map_nil]
    refine RunL.lendV rfl rfl ok_f38 rfl heq (hv2 _) rfl rfl ?_
    simp only [run0, run1, run2, run3, run4, run5, run6, run7, run8, run9, run10, run11, run12, run13, run14, run15, run16, run17, run18, run19, run20, run21, run22, reduceCtorEq, Nat.reduceEqDiff, Nat.reduceAdd, Nat.reduceSub, Nat.reduceLeDiff, indexAddrA, indexRefA, appendA, strA, Nat.reduceMul, Nat.zero_mul, Nat.reduceMod, Int.reduceEq, Int.reduceLT, Int.reduceLE, Nat.reduceLT, Nat.lt_irrefl, Nat.reduceBEq, tys0, tys1, tys2, tys3, tys4, tys5, tys6, tys7, tys8, tys9, tys10, tys11, tys12, tys13, tys14, tys15, tys16, tys17, tys18, Try.ntmps11, Try.results11, bne_self_eq_false]
    refine RunL.lendV rfl rfl ok_f42 rfl hhe (hv3 _) rfl rfl ?_
    simp only [run0, run1, run2, run3, run4, run5, run6, run7, run8, run9, run10, run11, run12, run13, run14, run15, run16, run17, run18, run19, run20, run21, run22, reduceCtorEq, Nat.reduceEqDiff, Nat.reduceAdd, Nat.reduceSub, Nat.reduceLeDiff, indexAddrA, indexRefA, appendA, strA, Nat.reduceMul, Nat.zero_mul, Nat.reduceMod, Int.reduceEq, Int.reduceLT, Int.reduceLE, Nat.reduceLT, Nat.lt_irrefl, Nat.reduceBEq, tys0, tys1, tys2, tys3, tys4, tys5, tys6, tys7, tys8, tys9, tys10, tys11, tys12, tys13, tys14, tys15, tys16, tys17, tys18, Try.ntmps11, Try.results11, List.length_nil, Int.natCast_zero, Int.add_zero, bne_self_eq_false]
    exact Fin.eq rfl rfl
  | some P =>
    have hPl := hlen P (by simp) hR
    rw [hR] at hsp him
    have pP := hyA_pure P
    have eP : pureL [.tup [hyA P, .bool true]] = true := by simp only [pureL, pureB, pP, Bool.and_self, Bool.and_true]
    simp only [optH, rI, mI, hyA, nilV, Option.getD_some, Option.isSome_some] at hsp him
    have heq := eqHydra_ok P (by omega)
    have hhe := heldHydra_ok P 1 (by omega) (by omega) (by omega)
    have e4 : ¬ (1 + (P.length : Int) < 0) := by omega
    have hv2 : ∀ {L : List AObj} {id : Nat}, L[id]? = some (.vec 3 1 P.length (ints P)) → VwL L [.agg [.ref id [] P.length P.length], .agg [.sl false (ints P)]] [hyA P, hyA P] := fun h => .cons (.agg (.cons (Vw_intR h rfl rfl) .nil)) (.cons (.pur (.of pP)) .nil)
    have hv3 : ∀ {L : List AObj} {id : Nat}, L[id]? = some (.vec 3 1 P.length (ints (mkI P 1))) → VwL L [.agg [.ref id [] P.length P.length], .int .i64 1] [hyA (mkI P 1), .int .i64 1] := fun h => .cons (.agg (.cons (Vw_intR h rfl (mkI_len P 1).symm) .nil)) (.cons (.pur (.int _ _)) .nil)
    have sm : ∀ k, List.map (shA k) (ints P) = ints P := fun k => by
      rw [List.map_map]
      exact List.map_congr_left fun x _ => rfl
    refine Ct.by_ hmix [] Try.func11 rfl ?_
    simp only [run0, run1, run2, run3, run4, run5, run6, run7, run8, run9, run10, run11, run12, run13, run14, run15, run16, run17, run18, run19, run20, run21, run22, reduceCtorEq, Nat.reduceEqDiff, Nat.reduceAdd, Nat.reduceSub, Nat.reduceLeDiff, indexAddrA, indexRefA, appendA, strA, Nat.reduceMul, Nat.zero_mul, Nat.reduceMod, Int.reduceEq, Int.reduceLT, Int.reduceLE, Nat.reduceLT, Nat.lt_irrefl, Nat.reduceBEq, tys0, tys1, tys2, tys3, tys4, tys5, tys6, tys7, tys8, tys9, tys10, tys11, tys12, tys13, tys14, tys15, tys16, tys17, tys18, Try.ntmps11, Try.results11, hsz, hl]
    refine RunL.callp rfl rfl ok_f45 hsp rfl rfl ?_
    simp only [run0, run1, run2, run3, run4, run5, run6, run7, run8, run9, run10, run11, run12, run13, run14, run15, run16, run17, run18, run19, run20, run21, run22, reduceCtorEq, Nat.reduceEqDiff, Nat.reduceAdd, Nat.reduceSub, Nat.reduceLeDiff, indexAddrA, indexRefA, appendA, strA, Nat.reduceMul, Nat.zero_mul, Nat.reduceMod, Int.reduceEq, Int.reduceLT, Int.reduceLE, Nat.reduceLT, Nat.lt_irrefl, Nat.reduceBEq, tys0, tys1, tys2, tys3, tys4, tys5, tys6, tys7, tys8, tys9, tys10, tys11, tys12, tys13, tys14, tys15, tys16, tys17, tys18, Try.ntmps11, Try.results11]
    refine RunL.callgp rfl rfl ok_f46 rfl him rfl rfl ?_
    simp only [run0, run1, run2, run3, run4, run5, run6, run7, run8, run9, run10, run11, run12, run13, run14, run15, run16, run17, run18, run19, run20, run21, run22, reduceCtorEq, Nat.reduceEqDiff, Nat.reduceAdd, Nat.reduceSub, Nat.reduceLeDiff, indexAddrA, indexRefA, appendA, strA, Nat.reduceMul, Nat.zero_mul, Nat.reduceMod, Int.reduceEq, Int.reduceLT, Int.reduceLE, Nat.reduceLT, Nat.lt_irrefl, Nat.reduceBEq, tys0, tys1, tys2, tys3, tys4, tys5, tys6, tys7, tys8, tys9, tys10, tys11, tys12, tys13, tys14, tys15, tys16, tys17, tys18, Try.ntmps11, Try.results11, shA, shL, sm, shO, List.map_cons, List.map_nil]
    refine RunL.lendV rfl rfl ok_f38 rfl heq (hv2 rfl) rfl rfl ?_
    simp only [run0, run1, run2, run3, run4, run5, run6, run7, run8, run9, run10, run11, run12, run13, run14, run15, run16, run17, run18, run19, run20, run21, run22, reduceCtorEq, Nat.reduceEqDiff, Nat.reduceAdd, Nat.reduceSub, Nat.reduceLeDiff, indexAddrA, indexRefA, appendA, strA, Nat.reduceMul, Nat.zero_mul, Nat.reduceMod, Int.reduceEq, Int.reduceLT, Int.reduceLE, Nat.reduceLT, Nat.lt_irrefl, Nat.reduceBEq, tys0, tys1, tys2, tys3, tys4, tys5, tys6, tys7, tys8, tys9, tys10, tys11, tys12, tys13, tys14, tys15, tys16, tys17, tys18, Try.ntmps11, Try.results11, bne_self_eq_false]
    refine RunL.callM rfl rfl ok_f41 rfl rfl (markHydra_ok P 4 P.length _ 1 rfl (by omega) (by omega) (by omega)) rfl ?_
    simp only [run0, run1, run2, run3, run4, run5, run6, run7, run8, run9, run10, run11, run12, run13, run14, run15, run16, run17, run18, run19, run20, run21, run22, reduceCtorEq, Nat.reduceEqDiff, Nat.reduceAdd, Nat.reduceSub, Nat.reduceLeDiff, indexAddrA, indexRefA, appendA, strA, Nat.reduceMul, Nat.zero_mul, Nat.reduceMod, Int.reduceEq, Int.reduceLT, Int.reduceLE, Nat.reduceLT, Nat.lt_irrefl, Nat.reduceBEq, tys0, tys1, tys2, tys3, tys4, tys5, tys6, tys7, tys8, tys9, tys10, tys11, tys12, tys13, tys14, tys15, tys16, tys17, tys18, Try.ntmps11, Try.results11]
    refine RunL.lendV rfl rfl ok_f42 rfl hhe (hv3 rfl) rfl rfl ?_
    simp only [run0, run1, run2, run3, run4, run5, run6, run7, run8, run9, run10, run11, run12, run13, run14, run15, run16, run17, run18, run19, run20, run21, run22, reduceCtorEq, Nat.reduceEqDiff, Nat.reduceAdd, Nat.reduceSub, Nat.reduceLeDiff, indexAddrA, indexRefA, appendA, strA, Nat.reduceMul, Nat.zero_mul, Nat.reduceMod, Int.reduceEq, Int.reduceLT, Int.reduceLE, Nat.reduceLT, Nat.lt_irrefl, Nat.reduceBEq, tys0, tys1, tys2, tys3, tys4, tys5, tys6, tys7, tys8, tys9, tys10, tys11, tys12, tys13, tys14, tys15, tys16, tys17, tys18, Try.ntmps11, Try.results11, e4, bne_self_eq_false]
    refine RunL.callgp rfl rfl ok_f46 rfl him rfl rfl ?_
    simp only [run0, run1, run2, run3, run4, run5, run6, run7, run8, run9, run10, run11, run12, run13, run14, run15, run16, run17, run18, run19, run20, run21, run22, reduceCtorEq, Nat.reduceEqDiff, Nat.reduceAdd, Nat.reduceSub, Nat.reduceLeDiff, indexAddrA, indexRefA, appendA, strA, Nat.reduceMul, Nat.zero_mul, Nat.reduceMod, Int.reduceEq, Int.reduceLT, Int.reduceLE, Nat.reduceLT, Nat.lt_irrefl, Nat.reduceBEq, tys0, tys1, tys2, tys3, tys4, tys5, tys6, tys7, tys8, tys9, tys10, tys11, tys12, tys13, tys14, tys15, tys16, tys17, tys18, Try.ntmps11, Try.results11, shA, shL, sm, shO, List.map_cons, List.map_nil]
    refine RunL.lendV rfl rfl ok_f38 rfl heq (hv2 rfl) rfl rfl ?_
    simp only [run0, run1, run2, run3, run4, run5, run6, run7, run8, run9, run10, run11, run12, run13, run14, run15, run16, run17, run18, run19, run20, run21, run22, reduceCtorEq, Nat.reduceEqDiff, Nat.reduceAdd, Nat.reduceSub, Nat.reduceLeDiff, indexAddrA, indexRefA, appendA, strA, Nat.reduceMul, Nat.zero_mul, Nat.reduceMod, Int.reduceEq, Int.reduceLT, Int.reduceLE, Nat.reduceLT, Nat.lt_irrefl, Nat.reduceBEq, tys0, tys1, tys2, tys3, tys4, tys5, tys6, tys7, tys8, tys9, tys10, tys11, tys12, tys13, tys14, tys15, tys16, tys17, tys18, Try.ntmps11, Try.results11, bne_self_eq_false]
    refine RunL.lendV rfl rfl ok_f42 rfl hhe (hv3 rfl) rfl rfl ?_
    simp only [run0, run1, run2, run3, run4, run5, run6, run7, run8, run9, run10, run11, run12, run13, run14, run15, run16, run17, run18, run19, run20, run21, run22, reduceCtorEq, Nat.reduceEqDiff, Nat.reduceAdd, Nat.reduceSub, Nat.reduceLeDiff, indexAddrA, indexRefA, appendA, strA, Nat.reduceMul, Nat.zero_mul, Nat.reduceMod, Int.reduceEq, Int.reduceLT, Int.reduceLE, Nat.reduceLT, Nat.lt_irrefl, Nat.reduceBEq, tys0, tys1, tys2, tys3, tys4, tys5, tys6, tys7, tys8, tys9, tys10, tys11, tys12, tys13, tys14, tys15, tys16, tys17, tys18, Try.ntmps11, Try.results11, e4, bne_self_eq_false]
    exact Fin.eq rfl rfl

end Go.Proofs.Ytphmkhaboghagaa
/-
  Ordinals: copies of the program's and of the reference's own.
-/
namespace Go.Proofs.Ytphmkhaboghagaa
open Go K Od
set_option linter.unusedSimpArgs false
set_option linter.unusedVariables false
set_option maxHeartbeats 400000

structure ClS where
  d : Od
  r : Od
  es : List AV
  X : List AObj
  S : List Nat

theorem cloneS_ok (a : Od) (hs : a.sz ≤ 1048576) : ∃ x M, Ct Try.prog 91 [av a] [] (.agg [x]) M ∧ Own M a x := by
  have hl := len_le a
  suffices h : ∃ r M, Ct Try.prog 91 [av a] [] r M ∧ (∃ x, r = .agg [x] ∧ Own M a x) by
    obtain ⟨r, M, h1, x, rfl, h2⟩ := h
    exact ⟨x, M, h1, h2⟩
  refine Ct.ex hmix [8000000, 2000000 + 91] Try.func91 rfl ?_
  simp only [run0, run1, run2, run3, run4, run5, run6, run7, run8, run9, run10, run11, run12, run13, run14, run15, run16, run17, run18, run19, run20, run21, run22, reduceCtorEq, Nat.reduceEqDiff, Nat.reduceAdd, Nat.reduceSub, Nat.reduceLeDiff, indexAddrA, indexRefA, appendA, strA, Nat.reduceMul, Nat.zero_mul, Nat.reduceMod, Int.reduceEq, Int.reduceLT, Int.reduceLE, Nat.reduceLT, Nat.lt_irrefl, Nat.reduceBEq, tys0, tys1, tys2, tys3, tys4, tys5, tys6, tys7, tys8, tys9, tys10, tys11, tys12, tys13, tys14, tys15, tys16, tys17, tys18, Try.ntmps91, Try.results91, av, elems_length]
  refine AWp.nilB_ex 2 0 88 2 rfl rfl ?_
  simp only [run0, run1, run2, run3, run4, run5, run6, run7, run8, run9, run10, run11, run12, run13, run14, run15, run16, run17, run18, run19, run20, run21, run22, reduceCtorEq, Nat.reduceEqDiff, Nat.reduceAdd, Nat.reduceSub, Nat.reduceLeDiff, indexAddrA, indexRefA, appendA, strA, Nat.reduceMul, Nat.zero_mul, Nat.reduceMod, Int.reduceEq, Int.reduceLT, Int.reduceLE, Nat.reduceLT, Nat.lt_irrefl, Nat.reduceBEq, tys0, tys1, tys2, tys3, tys4, tys5, tys6, tys7, tys8, tys9, tys10, tys11, tys12, tys13, tys14, tys15, tys16, tys17, tys18, Try.ntmps91, Try.results91]
  refine AWp.loop_exK (ι := ClS) (fun p => ⟨[.agg [.sl false (elems a)], .ptr 0 0, .ptr 1 0, .ptr 2 0, .junk, .junk, .junk, .junk, .sl false (elems a), .int .i64 a.len, .int .i64 p.d.len, .junk, .junk, .junk, .junk, .junk, .junk, .junk, .junk, .junk, .junk, .junk, .junk, .junk, .junk, .junk, .junk],
      .box 24 [.sl false (elems a)] :: .box 24 [.lit (.slice none 0 0)] :: .box 24 [.ref 3 [] p.d.len p.d.len] :: .vec 88 2 p.d.len p.es :: p.X⟩)
    (fun p => a = p.d.app p.r ∧ OwnE (.box 24 [.sl false (elems a)] :: .box 24 [.lit (.slice none 0 0)] :: .box 24 [.ref 3 [] p.d.len p.d.len] :: .vec 88 2 p.d.len p.es :: p.X) 88 2 p.d p.es p.S ∧ p.S.Nodup ∧ 3 ∉ p.S)
    (fun p => p.r.len) ⟨.nil, a, [], [], []⟩ ⟨rfl, ⟨rfl, rfl⟩, by simp, by simp⟩ ⟨by simp only [len, Int.natCast_zero]; repeat constructor, rfl⟩ ?_
  rintro ⟨d, r, es, X, S⟩ ⟨ha, ho, hn, h3⟩
  simp only at ha ho hn h3
  have hel := ho.length
  have hda : d.len + r.len = a.len := by rw [ha, len_app]
  cases r with
  | nil =>
    left
    obtain ⟨e1, e2⟩ := od_end ha
    subst e2
    refine ⟨.agg [.ref 3 [] a.len a.len], ?_⟩
    apply ex1
    · refine W.sound hmix (E := [8000000, 2000000 + 91]) ?_
      simp only [run0, run1, run2, run3, run4, run5, run6, run7, run8, run9, run10, run11, run12, run13, run14, run15, run16, run17, run18, run19, run20, run21, run22, reduceCtorEq, Nat.reduceEqDiff, Nat.reduceAdd, Nat.reduceSub, Nat.reduceLeDiff, indexAddrA, indexRefA, appendA, strA, Nat.reduceMul, Nat.zero_mul, Nat.reduceMod, Int.reduceEq, Int.reduceLT, Int.reduceLE, Nat.reduceLT, Nat.lt_irrefl, Nat.reduceBEq, tys0, tys1, tys2, tys3, tys4, tys5, tys6, tys7, tys8, tys9, tys10, tys11, tys12, tys13, tys14, tys15, tys16, tys17, tys18, Try.ntmps91, Try.results91, elems_length, e1]
      exact Fin.keep (3 :: S) rfl rfl
    · refine ⟨_, rfl, 3 :: S, OwnR.keep (.inr ⟨3, a.len, es, S, by rw [hel], rfl, rfl, ?_⟩) fun _ h => h, List.nodup_cons.2 ⟨h3, hn⟩, keepS_okSO _ _⟩
      refine ho.mono fun id hid g es1 hL => ?_
      rcases id with _ | _ | _ | _ | id
      · cases hL
      · cases hL
      · cases hL
      · exact absurd hid h3
      · exact hL
  | cons e c r =>
    right
    obtain ⟨e1, e2, e5, hlt, hnx, _⟩ := od_step ha hs
    simp only [len] at hda
    obtain ⟨x, M, hc, S1, hx, hn1, hM⟩ := cloneS_ok e (by omega)
    have f1 : (es.length + 1) ≤ 137438953472 := by omega
    have f2 : (d.len : Nat) + 1 ≤ 137438953472 := by omega
    have f3 := ho.form.2.1
    have hdl : (d.app (cons e c nil)).len = d.len + 1 := by rw [len_app]; rfl
    have hlt0 := ho.lt
    simp only [List.length_cons] at hlt0
    -- what the call leaves, by its shape
    have fin : ∀ x', x' = shA (X.length + 5) x → ∀ (t : List AV), 
        OwnE (.box 24 [.sl false (elems a)] :: .box 24 [.lit (.slice none 0 0)] :: .box 24 [.ref 3 [] (d.len + 1) (d.len + 1)] :: .vec 88 2 (d.len + 1) (es ++ [.agg [x', .int .i64 c]]) :: (X ++ (.box 88 [.sl false (elems e), .int .i64 c] :: M.map (shO (X.length + 5))))) 88 2 (d.app (cons e c nil)) (es ++ [.agg [x', .int .i64 c]]) (S ++ S1.map (· + (X.length + 5))) ∧
        (S ++ S1.map (· + (X.length + 5))).Nodup ∧ 3 ∉ (S ++ S1.map (· + (X.length + 5))) := by
      rintro x' rfl t
      refine ⟨OwnE.app (OwnE.one (OwnR.sh (fun id => ?_) hx) c) (ho.mono fun id hid g es1 hL => ?_), List.nodup_append.2 ⟨hn, nodup_add _ hn1, fun u hu v hv => ?_⟩, ?_⟩
      · rw [show id + (X.length + 5) = (id + X.length + 1) + 4 by omega]
        simp only [List.getElem?_cons_succ]
        rw [List.getElem?_append_right (by omega), show id + X.length + 1 - X.length = id + 1 by omega, List.getElem?_cons_succ, List.getElem?_map]
      · rcases id with _ | _ | _ | _ | id
        · cases hL
        · cases hL
        · cases hL
        · exact absurd hid h3
        · simp only [List.getElem?_cons_succ] at hL ⊢
          rw [List.getElem?_append_left (List.getElem?_eq_some_iff.1 hL).1]; exact hL
      · have := hlt0 u hu
        simp only [List.mem_map] at hv
        obtain ⟨q, _, rfl⟩ := hv
        omega
      · simp only [List.mem_append, not_or, List.mem_map]
        exact ⟨h3, fun ⟨q, _, hq⟩ => by omega⟩
    rcases hx.shape with rfl | ⟨id, g, n, rfl⟩
    · obtain ⟨q1, q2, q3⟩ := fin nilV rfl []
      refine ⟨⟨d.app (cons e c nil), r, es ++ [.agg [nilV, .int .i64 c]], X ++ (.box 88 [.sl false (elems e), .int .i64 c] :: M.map (shO (X.length + 5))), S ++ S1.map (· + (X.length + 5))⟩, ⟨hnx.symm, by rw [hdl]; exact q1, q2, q3⟩, by simp [len], ?_⟩
      refine W.sound hmix (E := [8000000, 2000000 + 91]) ?_
      simp only [run0, run1, run2, run3, run4, run5, run6, run7, run8, run9, run10, run11, run12, run13, run14, run15, run16, run17, run18, run19, run20, run21, run22, reduceCtorEq, Nat.reduceEqDiff, Nat.reduceAdd, Nat.reduceSub, Nat.reduceLeDiff, indexAddrA, indexRefA, appendA, strA, Nat.reduceMul, Nat.zero_mul, Nat.reduceMod, Int.reduceEq, Int.reduceLT, Int.reduceLE, Nat.reduceLT, Nat.lt_irrefl, Nat.reduceBEq, tys0, tys1, tys2, tys3, tys4, tys5, tys6, tys7, tys8, tys9, tys10, tys11, tys12, tys13, tys14, tys15, tys16, tys17, tys18, Try.ntmps91, Try.results91, elems_length, e1, e2, Int.toNat_natCast, Int.natCast_nonneg]
      refine ⟨[0,1,2,3,5,6,4,7,8,9,10,11], by kernel_rfl, ?_⟩
      simp only [run0, run1, run2, run3, run4, run5, run6, run7, run8, run9, run10, run11, run12, run13, run14, run15, run16, run17, run18, run19, run20, run21, run22, reduceCtorEq, Nat.reduceEqDiff, Nat.reduceAdd, Nat.reduceSub, Nat.reduceLeDiff, indexAddrA, indexRefA, appendA, strA, Nat.reduceMul, Nat.zero_mul, Nat.reduceMod, Int.reduceEq, Int.reduceLT, Int.reduceLE, Nat.reduceLT, Nat.lt_irrefl, Nat.reduceBEq, tys0, tys1, tys2, tys3, tys4, tys5, tys6, tys7, tys8, tys9, tys10, tys11, tys12, tys13, tys14, tys15, tys16, tys17, tys18, Try.ntmps91, Try.results91]
      refine RunL.callgp rfl rfl ok_f91 rfl hc (by simp only [pureL, pureB, av_pure, Bool.and_self]) rfl ?_
      simp only [run0, run1, run2, run3, run4, run5, run6, run7, run8, run9, run10, run11, run12, run13, run14, run15, run16, run17, run18, run19, run20, run21, run22, reduceCtorEq, Nat.reduceEqDiff, Nat.reduceAdd, Nat.reduceSub, Nat.reduceLeDiff, indexAddrA, indexRefA, appendA, strA, Nat.reduceMul, Nat.zero_mul, Nat.reduceMod, Int.reduceEq, Int.reduceLT, Int.reduceLE, Nat.reduceLT, Nat.lt_irrefl, Nat.reduceBEq, tys0, tys1, tys2, tys3, tys4, tys5, tys6, tys7, tys8, tys9, tys10, tys11, tys12, tys13, tys14, tys15, tys16, tys17, tys18, Try.ntmps91, Try.results91, nilV, shA, shL, hel, f2, f3, e5, hdl, eq_self]
      repeat constructor
    · obtain ⟨q1, q2, q3⟩ := fin (.ref (id + (X.length + 5)) [] g n) (by simp [shA]) []
      refine ⟨⟨d.app (cons e c nil), r, es ++ [.agg [.ref (id + (X.length + 5)) [] g n, .int .i64 c]], X ++ (.box 88 [.sl false (elems e), .int .i64 c] :: M.map (shO (X.length + 5))), S ++ S1.map (· + (X.length + 5))⟩, ⟨hnx.symm, by rw [hdl]; exact q1, q2, q3⟩, by simp [len], ?_⟩
      refine W.sound hmix (E := [8000000, 2000000 + 91]) ?_
      simp only [run0, run1, run2, run3, run4, run5, run6, run7, run8, run9, run10, run11, run12, run13, run14, run15, run16, run17, run18, run19, run20, run21, run22, reduceCtorEq, Nat.reduceEqDiff, Nat.reduceAdd, Nat.reduceSub, Nat.reduceLeDiff, indexAddrA, indexRefA, appendA, strA, Nat.reduceMul, Nat.zero_mul, Nat.reduceMod, Int.reduceEq, Int.reduceLT, Int.reduceLE, Nat.reduceLT, Nat.lt_irrefl, Nat.reduceBEq, tys0, tys1, tys2, tys3, tys4, tys5, tys6, tys7, tys8, tys9, tys10, tys11, tys12, tys13, tys14, tys15, tys16, tys17, tys18, Try.ntmps91, Try.results91, elems_length, e1, e2, Int.toNat_natCast, Int.natCast_nonneg]
      refine ⟨[0,1,2,3,5,6,4,7,8,9,10,11], by kernel_rfl, ?_⟩
      simp only [run0, run1, run2, run3, run4, run5, run6, run7, run8, run9, run10, run11, run12, run13, run14, run15, run16, run17, run18, run19, run20, run21, run22, reduceCtorEq, Nat.reduceEqDiff, Nat.reduceAdd, Nat.reduceSub, Nat.reduceLeDiff, indexAddrA, indexRefA, appendA, strA, Nat.reduceMul, Nat.zero_mul, Nat.reduceMod, Int.reduceEq, Int.reduceLT, Int.reduceLE, Nat.reduceLT, Nat.lt_irrefl, Nat.reduceBEq, tys0, tys1, tys2, tys3, tys4, tys5, tys6, tys7, tys8, tys9, tys10, tys11, tys12, tys13, tys14, tys15, tys16, tys17, tys18, Try.ntmps91, Try.results91]
      refine RunL.callgp rfl rfl ok_f91 rfl hc (by simp only [pureL, pureB, av_pure, Bool.and_self]) rfl ?_
      simp only [run0, run1, run2, run3, run4, run5, run6, run7, run8, run9, run10, run11, run12, run13, run14, run15, run16, run17, run18, run19, run20, run21, run22, reduceCtorEq, Nat.reduceEqDiff, Nat.reduceAdd, Nat.reduceSub, Nat.reduceLeDiff, indexAddrA, indexRefA, appendA, strA, Nat.reduceMul, Nat.zero_mul, Nat.reduceMod, Int.reduceEq, Int.reduceLT, Int.reduceLE, Nat.reduceLT, Nat.lt_irrefl, Nat.reduceBEq, tys0, tys1, tys2, tys3, tys4, tys5, tys6, tys7, tys8, tys9, tys10, tys11, tys12, tys13, tys14, tys15, tys16, tys17, tys18, Try.ntmps91, Try.results91, nilV, shA, shL, hel, f2, f3, e5, hdl, eq_self]
      repeat constructor
termination_by a.sz

structure ClS2 where
  d : Od
  r : Od
  es : List AV
  X : List AObj
  S : List Nat

theorem ownS_ok (a : Od) (hs : a.sz ≤ 1048576) : ∃ x M, Ct Try.prog 90 [av a] [] (.agg [x]) M ∧ Own M a x := by
  have hl := len_le a
  suffices h : ∃ r M, Ct Try.prog 90 [av a] [] r M ∧ (∃ x, r = .agg [x] ∧ Own M a x) by
    obtain ⟨r, M, h1, x, rfl, h2⟩ := h
    exact ⟨x, M, h1, h2⟩
  refine Ct.ex hmix [8000000, 2000000 + 90] Try.func90 rfl ?_
  simp only [run0, run1, run2, run3, run4, run5, run6, run7, run8, run9, run10, run11, run12, run13, run14, run15, run16, run17, run18, run19, run20, run21, run22, reduceCtorEq, Nat.reduceEqDiff, Nat.reduceAdd, Nat.reduceSub, Nat.reduceLeDiff, indexAddrA, indexRefA, appendA, strA, Nat.reduceMul, Nat.zero_mul, Nat.reduceMod, Int.reduceEq, Int.reduceLT, Int.reduceLE, Nat.reduceLT, Nat.lt_irrefl, Nat.reduceBEq, tys0, tys1, tys2, tys3, tys4, tys5, tys6, tys7, tys8, tys9, tys10, tys11, tys12, tys13, tys14, tys15, tys16, tys17, tys18, Try.ntmps90, Try.results90, av, elems_length]
  refine AWp.nilB_ex 2 0 88 2 rfl rfl ?_
  simp only [run0, run1, run2, run3, run4, run5, run6, run7, run8, run9, run10, run11, run12, run13, run14, run15, run16, run17, run18, run19, run20, run21, run22, reduceCtorEq, Nat.reduceEqDiff, Nat.reduceAdd, Nat.reduceSub, Nat.reduceLeDiff, indexAddrA, indexRefA, appendA, strA, Nat.reduceMul, Nat.zero_mul, Nat.reduceMod, Int.reduceEq, Int.reduceLT, Int.reduceLE, Nat.reduceLT, Nat.lt_irrefl, Nat.reduceBEq, tys0, tys1, tys2, tys3, tys4, tys5, tys6, tys7, tys8, tys9, tys10, tys11, tys12, tys13, tys14, tys15, tys16, tys17, tys18, Try.ntmps90, Try.results90]
  refine AWp.loop_exK (ι := ClS2) (fun p => ⟨[.agg [.sl false (elems a)], .ptr 0 0, .ptr 1 0, .ptr 2 0, .junk, .junk, .junk, .junk, .sl false (elems a), .int .i64 a.len, .int .i64 p.d.len, .junk, .junk, .junk, .junk, .junk, .junk, .junk, .junk, .junk, .junk, .junk, .junk, .junk, .junk, .junk, .junk],
      .box 24 [.sl false (elems a)] :: .box 24 [.lit (.slice none 0 0)] :: .box 24 [.ref 3 [] p.d.len p.d.len] :: .vec 88 2 p.d.len p.es :: p.X⟩)
    (fun p => a = p.d.app p.r ∧ OwnE (.box 24 [.sl false (elems a)] :: .box 24 [.lit (.slice none 0 0)] :: .box 24 [.ref 3 [] p.d.len p.d.len] :: .vec 88 2 p.d.len p.es :: p.X) 88 2 p.d p.es p.S ∧ p.S.Nodup ∧ 3 ∉ p.S)
    (fun p => p.r.len) ⟨.nil, a, [], [], []⟩ ⟨rfl, ⟨rfl, rfl⟩, by simp, by simp⟩ ⟨by simp only [len, Int.natCast_zero]; repeat constructor, rfl⟩ ?_
  rintro ⟨d, r, es, X, S⟩ ⟨ha, ho, hn, h3⟩
  simp only at ha ho hn h3
  have hel := ho.length
  have hda : d.len + r.len = a.len := by rw [ha, len_app]
  cases r with
  | nil =>
    left
    obtain ⟨e1, e2⟩ := od_end ha
    subst e2
    refine ⟨.agg [.ref 3 [] a.len a.len], ?_⟩
    apply ex1
    · refine W.sound hmix (E := [8000000, 2000000 + 90]) ?_
      simp only [run0, run1, run2, run3, run4, run5, run6, run7, run8, run9, run10, run11, run12, run13, run14, run15, run16, run17, run18, run19, run20, run21, run22, reduceCtorEq, Nat.reduceEqDiff, Nat.reduceAdd, Nat.reduceSub, Nat.reduceLeDiff, indexAddrA, indexRefA, appendA, strA, Nat.reduceMul, Nat.zero_mul, Nat.reduceMod, Int.reduceEq, Int.reduceLT, Int.reduceLE, Nat.reduceLT, Nat.lt_irrefl, Nat.reduceBEq, tys0, tys1, tys2, tys3, tys4, tys5, tys6, tys7, tys8, tys9, tys10, tys11, tys12, tys13, tys14, tys15, tys16, tys17, tys18, Try.ntmps90, Try.results90, elems_length, e1]
      exact Fin.keep (3 :: S) rfl rfl
    · refine ⟨_, rfl, 3 :: S, OwnR.keep (.inr ⟨3, a.len, es, S, by rw [hel], rfl, rfl, ?_⟩) fun _ h => h, List.nodup_cons.2 ⟨h3, hn⟩, keepS_okSO _ _⟩
      refine ho.mono fun id hid g es1 hL => ?_
      rcases id with _ | _ | _ | _ | id
      · cases hL
      · cases hL
      · cases hL
      · exact absurd hid h3
      · exact hL
  | cons e c r =>
    right
    obtain ⟨e1, e2, e5, hlt, hnx, _⟩ := od_step ha hs
    simp only [len] at hda
    obtain ⟨x, M, hc, S1, hx, hn1, hM⟩ := ownS_ok e (by omega)
    have f1 : (es.length + 1) ≤ 137438953472 := by omega
    have f2 : (d.len : Nat) + 1 ≤ 137438953472 := by omega
    have f3 := ho.form.2.1
    have hdl : (d.app (cons e c nil)).len = d.len + 1 := by rw [len_app]; rfl
    have hlt0 := ho.lt
    simp only [List.length_cons] at hlt0
    -- what the call leaves, by its shape
    have fin : ∀ x', x' = shA (X.length + 5) x → ∀ (t : List AV), 
        OwnE (.box 24 [.sl false (elems a)] :: .box 24 [.lit (.slice none 0 0)] :: .box 24 [.ref 3 [] (d.len + 1) (d.len + 1)] :: .vec 88 2 (d.len + 1) (es ++ [.agg [x', .int .i64 c]]) :: (X ++ (.box 88 [.sl false (elems e), .int .i64 c] :: M.map (shO (X.length + 5))))) 88 2 (d.app (cons e c nil)) (es ++ [.agg [x', .int .i64 c]]) (S ++ S1.map (· + (X.length + 5))) ∧
        (S ++ S1.map (· + (X.length + 5))).Nodup ∧ 3 ∉ (S ++ S1.map (· + (X.length + 5))) := by
      rintro x' rfl t
      refine ⟨OwnE.app (OwnE.one (OwnR.sh (fun id => ?_) hx) c) (ho.mono fun id hid g es1 hL => ?_), List.nodup_append.2 ⟨hn, nodup_add _ hn1, fun u hu v hv => ?_⟩, ?_⟩
      · rw [show id + (X.length + 5) = (id + X.length + 1) + 4 by omega]
        simp only [List.getElem?_cons_succ]
        rw [List.getElem?_append_right (by omega), show id + X.length + 1 - X.length = id + 1 by omega, List.getElem?_cons_succ, List.getElem?_map]
      · rcases id with _ | _ | _ | _ | id
        · cases hL
        · cases hL
        · cases hL
        · exact absurd hid h3
        · simp only [List.getElem?_cons_succ] at hL ⊢
          rw [List.getElem?_append_left (List.getElem?_eq_some_iff.1 hL).1]; exact hL
      · have := hlt0 u hu
        simp only [List.mem_map] at hv
        obtain ⟨q, _, rfl⟩ := hv
        omega
      · simp only [List.mem_append, not_or, List.mem_map]
        exact ⟨h3, fun ⟨q, _, hq⟩ => by omega⟩
    rcases hx.shape with rfl | ⟨id, g, n, rfl⟩
    · obtain ⟨q1, q2, q3⟩ := fin nilV rfl []
      refine ⟨⟨d.app (cons e c nil), r, es ++ [.agg [nilV, .int .i64 c]], X ++ (.box 88 [.sl false (elems e), .int .i64 c] :: M.map (shO (X.length + 5))), S ++ S1.map (· + (X.length + 5))⟩, ⟨hnx.symm, by rw [hdl]; exact q1, q2, q3⟩, by simp [len], ?_⟩
      refine W.sound hmix (E := [8000000, 2000000 + 90]) ?_
      simp only [run0, run1, run2, run3, run4, run5, run6, run7, run8, run9, run10, run11, run12, run13, run14, run15, run16, run17, run18, run19, run20, run21, run22, reduceCtorEq, Nat.reduceEqDiff, Nat.reduceAdd, Nat.reduceSub, Nat.reduceLeDiff, indexAddrA, indexRefA, appendA, strA, Nat.reduceMul, Nat.zero_mul, Nat.reduceMod, Int.reduceEq, Int.reduceLT, Int.reduceLE, Nat.reduceLT, Nat.lt_irrefl, Nat.reduceBEq, tys0, tys1, tys2, tys3, tys4, tys5, tys6, tys7, tys8, tys9, tys10, tys11, tys12, tys13, tys14, tys15, tys16, tys17, tys18, Try.ntmps90, Try.results90, elems_length, e1, e2, Int.toNat_natCast, Int.natCast_nonneg]
      refine ⟨[0,1,2,3,5,6,4,7,8,9,10,11], by kernel_rfl, ?_⟩
      simp only [run0, run1, run2, run3, run4, run5, run6, run7, run8, run9, run10, run11, run12, run13, run14, run15, run16, run17, run18, run19, run20, run21, run22, reduceCtorEq, Nat.reduceEqDiff, Nat.reduceAdd, Nat.reduceSub, Nat.reduceLeDiff, indexAddrA, indexRefA, appendA, strA, Nat.reduceMul, Nat.zero_mul, Nat.reduceMod, Int.reduceEq, Int.reduceLT, Int.reduceLE, Nat.reduceLT, Nat.lt_irrefl, Nat.reduceBEq, tys0, tys1, tys2, tys3, tys4, tys5, tys6, tys7, tys8, tys9, tys10, tys11, tys12, tys13, tys14, tys15, tys16, tys17, tys18, Try.ntmps90, Try.results90]
      refine RunL.callgp rfl rfl ok_f90 rfl hc (by simp only [pureL, pureB, av_pure, Bool.and_self]) rfl ?_
      simp only [run0, run1, run2, run3, run4, run5, run6, run7, run8, run9, run10, run11, run12, run13, run14, run15, run16, run17, run18, run19, run20, run21, run22, reduceCtorEq, Nat.reduceEqDiff, Nat.reduceAdd, Nat.reduceSub, Nat.reduceLeDiff, indexAddrA, indexRefA, appendA, strA, Nat.reduceMul, Nat.zero_mul, Nat.reduceMod, Int.reduceEq, Int.reduceLT, Int.reduceLE, Nat.reduceLT, Nat.lt_irrefl, Nat.reduceBEq, tys0, tys1, tys2, tys3, tys4, tys5, tys6, tys7, tys8, tys9, tys10, tys11, tys12, tys13, tys14, tys15, tys16, tys17, tys18, Try.ntmps90, Try.results90, nilV, shA, shL, hel, f2, f3, e5, hdl, eq_self]
      repeat constructor
    · obtain ⟨q1, q2, q3⟩ := fin (.ref (id + (X.length + 5)) [] g n) (by simp [shA]) []
      refine ⟨⟨d.app (cons e c nil), r, es ++ [.agg [.ref (id + (X.length + 5)) [] g n, .int .i64 c]], X ++ (.box 88 [.sl false (elems e), .int .i64 c] :: M.map (shO (X.length + 5))), S ++ S1.map (· + (X.length + 5))⟩, ⟨hnx.symm, by rw [hdl]; exact q1, q2, q3⟩, by simp [len], ?_⟩
      refine W.sound hmix (E := [8000000, 2000000 + 90]) ?_
      simp only [run0, run1, run2, run3, run4, run5, run6, run7, run8, run9, run10, run11, run12, run13, run14, run15, run16, run17, run18, run19, run20, run21, run22, reduceCtorEq, Nat.reduceEqDiff, Nat.reduceAdd, Nat.reduceSub, Nat.reduceLeDiff, indexAddrA, indexRefA, appendA, strA, Nat.reduceMul, Nat.zero_mul, Nat.reduceMod, Int.reduceEq, Int.reduceLT, Int.reduceLE, Nat.reduceLT, Nat.lt_irrefl, Nat.reduceBEq, tys0, tys1, tys2, tys3, tys4, tys5, tys6, tys7, tys8, tys9, tys10, tys11, tys12, tys13, tys14, tys15, tys16, tys17, tys18, Try.ntmps90, Try.results90, elems_length, e1, e2, Int.toNat_natCast, Int.natCast_nonneg]
      refine ⟨[0,1,2,3,5,6,4,7,8,9,10,11], by kernel_rfl, ?_⟩
      simp only [run0, run1, run2, run3, run4, run5, run6, run7, run8, run9, run10, run11, run12, run13, run14, run15, run16, run17, run18, run19, run20, run21, run22, reduceCtorEq, Nat.reduceEqDiff, Nat.reduceAdd, Nat.reduceSub, Nat.reduceLeDiff, indexAddrA, indexRefA, appendA, strA, Nat.reduceMul, Nat.zero_mul, Nat.reduceMod, Int.reduceEq, Int.reduceLT, Int.reduceLE, Nat.reduceLT, Nat.lt_irrefl, Nat.reduceBEq, tys0, tys1, tys2, tys3, tys4, tys5, tys6, tys7, tys8, tys9, tys10, tys11, tys12, tys13, tys14, tys15, tys16, tys17, tys18, Try.ntmps90, Try.results90]
      refine RunL.callgp rfl rfl ok_f90 rfl hc (by simp only [pureL, pureB, av_pure, Bool.and_self]) rfl ?_
      simp only [run0, run1, run2, run3, run4, run5, run6, run7, run8, run9, run10, run11, run12, run13, run14, run15, run16, run17, run18, run19, run20, run21, run22, reduceCtorEq, Nat.reduceEqDiff, Nat.reduceAdd, Nat.reduceSub, Nat.reduceLeDiff, indexAddrA, indexRefA, appendA, strA, Nat.reduceMul, Nat.zero_mul, Nat.reduceMod, Int.reduceEq, Int.reduceLT, Int.reduceLE, Nat.reduceLT, Nat.lt_irrefl, Nat.reduceBEq, tys0, tys1, tys2, tys3, tys4, tys5, tys6, tys7, tys8, tys9, tys10, tys11, tys12, tys13, tys14, tys15, tys16, tys17, tys18, Try.ntmps90, Try.results90, nilV, shA, shL, hel, f2, f3, e5, hdl, eq_self]
      repeat constructor
termination_by a.sz

end Go.Proofs.Ytphmkhaboghagaa
/-
  Ordinals: what is told as an ordinal of its own; degrees; powers.
-/
namespace Go.Proofs.Ytphmkhaboghagaa
open Go K Od
set_option linter.unusedSimpArgs false
set_option linter.unusedVariables false
set_option maxHeartbeats 400000

theorem Own.shape {M : List AObj} {a : Od} {x : AV} (h : Own M a x) : okT x = true ∧ M.all okSO = true ∧ x.cells = [x] := by
  obtain ⟨S, h1, h2, h3⟩ := h
  exact ⟨h1.form.1, h3, h1.form.2.1⟩
theorem Own.nil : Own [] .nil nilV := ⟨[], .inl ⟨rfl, rfl, rfl⟩, List.nodup_nil, rfl⟩

/-- The end of a function that gives a tree of its own, got by one call that gave one. -/
theorem Own.end {M L1 : List AObj} {a : Od} {x : AV} {k : Nat} (hg : ∀ id, L1[id + k]? = (M[id]?).map (shO k)) {S : List Nat} (h : OwnR M 88 2 a x S) (hn : S.Nodup) : Own (keepS (S.map (· + k)) L1) a (shA k x) :=
  ⟨S.map (· + k), (OwnR.sh hg h).keep fun _ h => h, nodup_add k hn, keepS_okSO _ _⟩
theorem okT_sh {L : List AObj} {a : Od} {x : AV} {k : Nat} {S : List Nat} {T : TypeId} {z : Nat} (h : OwnR L T z a x S) : okT (shA k x) = true := by
  rcases h.shape with rfl | ⟨id, g, n, rfl⟩ <;> rfl

theorem told_ok (a : Od) (hs : a.sz ≤ 1048576) : ∃ x M, Ct Try.prog 52 [av a] [] (.tup [.agg [x], .bool (goodT a)]) M ∧ Own M (if goodT a then a else .nil) x := by
  cases hg : goodT a
  · refine ⟨nilV, ?_⟩
    apply ex1
    · apply Ct.by_ hmix [] Try.func52 rfl
      simp only [run0, run1, run2, run3, run4, run5, run6, run7, run8, run9, run10, run11, run12, run13, run14, run15, run16, run17, run18, run19, run20, run21, run22, reduceCtorEq, Nat.reduceEqDiff, Nat.reduceAdd, Nat.reduceSub, Nat.reduceLeDiff, indexAddrA, indexRefA, appendA, strA, Nat.reduceMul, Nat.zero_mul, Nat.reduceMod, Int.reduceEq, Int.reduceLT, Int.reduceLE, Nat.reduceLT, Nat.lt_irrefl, Nat.reduceBEq, tys0, tys1, tys2, tys3, tys4, tys5, tys6, tys7, tys8, tys9, tys10, tys11, tys12, tys13, tys14, tys15, tys16, tys17, tys18, Try.ntmps52, Try.results52, av]
      refine RunL.callp rfl rfl ok_f63 (IsOrdinal_ok a hs) (by first | rfl | simp only [pureL, pureB, Bool.and_self, Bool.and_true, Bool.true_and, Od.elems_pure, Od.pay_pure, Od.av_pure]) rfl ?_
      simp only [run0, run1, run2, run3, run4, run5, run6, run7, run8, run9, run10, run11, run12, run13, run14, run15, run16, run17, run18, run19, run20, run21, run22, reduceCtorEq, Nat.reduceEqDiff, Nat.reduceAdd, Nat.reduceSub, Nat.reduceLeDiff, indexAddrA, indexRefA, appendA, strA, Nat.reduceMul, Nat.zero_mul, Nat.reduceMod, Int.reduceEq, Int.reduceLT, Int.reduceLE, Nat.reduceLT, Nat.lt_irrefl, Nat.reduceBEq, tys0, tys1, tys2, tys3, tys4, tys5, tys6, tys7, tys8, tys9, tys10, tys11, tys12, tys13, tys14, tys15, tys16, tys17, tys18, Try.ntmps52, Try.results52, hg]
      exact Fin.keep [] rfl rfl
    · exact ⟨[], .inl ⟨rfl, rfl, rfl⟩, List.nodup_nil, keepS_okSO _ _⟩
  · obtain ⟨x, M, hc, S, ho, hn, hM⟩ := cloneS_ok a hs
    refine ⟨shA 2 x, ?_⟩
    apply ex1
    · apply Ct.by_ hmix [] Try.func52 rfl
      simp only [run0, run1, run2, run3, run4, run5, run6, run7, run8, run9, run10, run11, run12, run13, run14, run15, run16, run17, run18, run19, run20, run21, run22, reduceCtorEq, Nat.reduceEqDiff, Nat.reduceAdd, Nat.reduceSub, Nat.reduceLeDiff, indexAddrA, indexRefA, appendA, strA, Nat.reduceMul, Nat.zero_mul, Nat.reduceMod, Int.reduceEq, Int.reduceLT, Int.reduceLE, Nat.reduceLT, Nat.lt_irrefl, Nat.reduceBEq, tys0, tys1, tys2, tys3, tys4, tys5, tys6, tys7, tys8, tys9, tys10, tys11, tys12, tys13, tys14, tys15, tys16, tys17, tys18, Try.ntmps52, Try.results52, av]
      refine RunL.callp rfl rfl ok_f63 (IsOrdinal_ok a hs) (by first | rfl | simp only [pureL, pureB, Bool.and_self, Bool.and_true, Bool.true_and, Od.elems_pure, Od.pay_pure, Od.av_pure]) rfl ?_
      simp only [run0, run1, run2, run3, run4, run5, run6, run7, run8, run9, run10, run11, run12, run13, run14, run15, run16, run17, run18, run19, run20, run21, run22, reduceCtorEq, Nat.reduceEqDiff, Nat.reduceAdd, Nat.reduceSub, Nat.reduceLeDiff, indexAddrA, indexRefA, appendA, strA, Nat.reduceMul, Nat.zero_mul, Nat.reduceMod, Int.reduceEq, Int.reduceLT, Int.reduceLE, Nat.reduceLT, Nat.lt_irrefl, Nat.reduceBEq, tys0, tys1, tys2, tys3, tys4, tys5, tys6, tys7, tys8, tys9, tys10, tys11, tys12, tys13, tys14, tys15, tys16, tys17, tys18, Try.ntmps52, Try.results52, hg]
      refine RunL.callgp rfl rfl ok_f91 rfl hc (by simp only [pureL, pureB, av_pure, Bool.and_self]) rfl ?_
      simp only [run0, run1, run2, run3, run4, run5, run6, run7, run8, run9, run10, run11, run12, run13, run14, run15, run16, run17, run18, run19, run20, run21, run22, reduceCtorEq, Nat.reduceEqDiff, Nat.reduceAdd, Nat.reduceSub, Nat.reduceLeDiff, indexAddrA, indexRefA, appendA, strA, Nat.reduceMul, Nat.zero_mul, Nat.reduceMod, Int.reduceEq, Int.reduceLT, Int.reduceLE, Nat.reduceLT, Nat.lt_irrefl, Nat.reduceBEq, tys0, tys1, tys2, tys3, tys4, tys5, tys6, tys7, tys8, tys9, tys10, tys11, tys12, tys13, tys14, tys15, tys16, tys17, tys18, Try.ntmps52, Try.results52, shA, shL]
      exact Fin.keep (S.map (· + 2)) (by simp [okT, okTL, okT_sh ho]) rfl
    · exact Own.end (k := 2) (fun id => by simp) ho hn
theorem odIf_ok (a : Od) (hs : a.sz ≤ 1048576) : Ct Try.prog 48 [av a] [] (.tup [av (if goodT a then a else .nil), .bool (goodT a)]) [] := by
  refine Ct.by_ hmix [] Try.func48 rfl ?_
  simp only [run0, run1, run2, run3, run4, run5, run6, run7, run8, run9, run10, run11, run12, run13, run14, run15, run16, run17, run18, run19, run20, run21, run22, reduceCtorEq, Nat.reduceEqDiff, Nat.reduceAdd, Nat.reduceSub, Nat.reduceLeDiff, indexAddrA, indexRefA, appendA, strA, Nat.reduceMul, Nat.zero_mul, Nat.reduceMod, Int.reduceEq, Int.reduceLT, Int.reduceLE, Nat.reduceLT, Nat.lt_irrefl, Nat.reduceBEq, tys0, tys1, tys2, tys3, tys4, tys5, tys6, tys7, tys8, tys9, tys10, tys11, tys12, tys13, tys14, tys15, tys16, tys17, tys18, Try.ntmps48, Try.results48, av]
  refine RunL.callp rfl rfl ok_f58 (odGood_ok a hs) (by first | rfl | simp only [pureL, pureB, Bool.and_self, Bool.and_true, Bool.true_and, Od.elems_pure, Od.pay_pure, Od.av_pure]) rfl ?_
  cases hg : goodT a
  · simp only [run0, run1, run2, run3, run4, run5, run6, run7, run8, run9, run10, run11, run12, run13, run14, run15, run16, run17, run18, run19, run20, run21, run22, reduceCtorEq, Nat.reduceEqDiff, Nat.reduceAdd, Nat.reduceSub, Nat.reduceLeDiff, indexAddrA, indexRefA, appendA, strA, Nat.reduceMul, Nat.zero_mul, Nat.reduceMod, Int.reduceEq, Int.reduceLT, Int.reduceLE, Nat.reduceLT, Nat.lt_irrefl, Nat.reduceBEq, tys0, tys1, tys2, tys3, tys4, tys5, tys6, tys7, tys8, tys9, tys10, tys11, tys12, tys13, tys14, tys15, tys16, tys17, tys18, Try.ntmps48, Try.results48]
    exact Fin.value (Vw.tup (.cons (Vw.agg (.cons (Vw.nil false) .nil)) (.cons (Vw.pur (Pur.bool _)) .nil)))
  · obtain ⟨x, M, hc, S, ho, hn, hM⟩ := ownS_ok a hs
    have hv : Ct Try.prog 90 [av a] [] (av a) [] := hc.toV (Vw.agg (.cons (ho.view false) .nil))
    simp only [run0, run1, run2, run3, run4, run5, run6, run7, run8, run9, run10, run11, run12, run13, run14, run15, run16, run17, run18, run19, run20, run21, run22, reduceCtorEq, Nat.reduceEqDiff, Nat.reduceAdd, Nat.reduceSub, Nat.reduceLeDiff, indexAddrA, indexRefA, appendA, strA, Nat.reduceMul, Nat.zero_mul, Nat.reduceMod, Int.reduceEq, Int.reduceLT, Int.reduceLE, Nat.reduceLT, Nat.lt_irrefl, Nat.reduceBEq, tys0, tys1, tys2, tys3, tys4, tys5, tys6, tys7, tys8, tys9, tys10, tys11, tys12, tys13, tys14, tys15, tys16, tys17, tys18, Try.ntmps48, Try.results48]
    refine RunL.callp rfl rfl ok_f90 (hv) (by first | rfl | simp only [pureL, pureB, Bool.and_self, Bool.and_true, Bool.true_and, Od.elems_pure, Od.pay_pure, Od.av_pure]) rfl ?_
    simp only [run0, run1, run2, run3, run4, run5, run6, run7, run8, run9, run10, run11, run12, run13, run14, run15, run16, run17, run18, run19, run20, run21, run22, reduceCtorEq, Nat.reduceEqDiff, Nat.reduceAdd, Nat.reduceSub, Nat.reduceLeDiff, indexAddrA, indexRefA, appendA, strA, Nat.reduceMul, Nat.zero_mul, Nat.reduceMod, Int.reduceEq, Int.reduceLT, Int.reduceLE, Nat.reduceLT, Nat.lt_irrefl, Nat.reduceBEq, tys0, tys1, tys2, tys3, tys4, tys5, tys6, tys7, tys8, tys9, tys10, tys11, tys12, tys13, tys14, tys15, tys16, tys17, tys18, Try.ntmps48, Try.results48, av]
    exact Fin.eq rfl (by simp only [pureB, pureL, elems_pure, Bool.and_self])

/-! ### degrees -/
def degT : Od → Od
  | .nil => .nil
  | .cons e _ _ => e
def degOk (a : Od) : Bool := goodT a && !isZ a
def degR (a : Od) : Od := if degOk a then degT a else .nil
theorem degT_sz (a : Od) : (degT a).sz ≤ a.sz := by cases a <;> simp [degT, sz]; omega

theorem degR_sz (a : Od) (h : a.sz ≤ 1048576) : (degR a).sz ≤ 1048576 := by
  have := degT_sz a
  unfold degR
  split
  · omega
  · simp [sz]
end Go.Proofs.Ytphmkhaboghagaa
/-
  Hereditary forms of numbers: the plain word for both, and how both are made.
-/
namespace Go.Proofs.Ytphmkhaboghagaa
open Go K Od
set_option linter.unusedSimpArgs false
set_option linter.unusedVariables false
set_option maxHeartbeats 1600000
set_option maxRecDepth 8000

theorem setXn {α : Type} (X ys : List α) (n : Nat) (y : α) : (X ++ ys).set (X.length + n) y = X ++ ys.set n y := by rw [List.set_append_right _ _ (by omega)]; congr 2; omega

/-- The digits of a number, the least first; the first number is fuel. -/
def digs (b : Nat) : Nat → Nat → List Nat
  | 0, _ => []
  | f + 1, n => if n = 0 then [] else n % b :: digs b f (n / b)
theorem digs_len (b : Nat) : ∀ f n, (digs b f n).length ≤ f
  | 0, n => by simp [digs]
  | f + 1, n => by
    unfold digs
    split
    · simp
    · have := digs_len b f (n / b); simp; omega
theorem div_lt {b n : Nat} (hb : 2 ≤ b) (hn : n ≠ 0) : n / b < n := Nat.div_lt_self (by omega) (by omega)
theorem digs_fuel {b : Nat} (hb : 2 ≤ b) : ∀ (f g n : Nat), n ≤ f → n ≤ g → digs b f n = digs b g n
  | 0, 0, n, _, _ => rfl
  | 0, g + 1, n, h, _ => by have : n = 0 := by omega
                            subst this; simp [digs]
  | f + 1, 0, n, _, h => by have : n = 0 := by omega
                            subst this; simp [digs]
  | f + 1, g + 1, n, h1, h2 => by
    unfold digs
    split
    · rfl
    · rename_i hn
      have := div_lt hb hn
      rw [digs_fuel hb f g (n / b) (by omega) (by omega)]
def dg (b n : Nat) : List Nat := digs b n n
theorem dg_zero (b : Nat) : dg b 0 = [] := rfl
theorem dg_pos {b n : Nat} (hb : 2 ≤ b) (hn : 0 < n) : dg b n = n % b :: dg b (n / b) := by
  obtain ⟨m, rfl⟩ : ∃ m, n = m + 1 := ⟨n - 1, by omega⟩
  have := div_lt hb (n := m + 1) (by omega)
  unfold dg
  rw [digs, if_neg (by omega), digs_fuel hb m ((m + 1) / b) _ (by omega) (by omega)]
theorem dg_len (b n : Nat) : (dg b n).length ≤ n := digs_len b n n
theorem dg_lt {b : Nat} (hb : 2 ≤ b) : ∀ f n, ∀ d ∈ digs b f n, d < b
  | 0, n, d, h => by simp [digs] at h
  | f + 1, n, d, h => by
    unfold digs at h
    split at h
    · simp at h
    · rcases List.mem_cons.1 h with rfl | h
      · exact Nat.mod_lt _ (by omega)
      · exact dg_lt hb f _ d h

/-- The terms of digits from the e-th on, ahead of 'acc'. -/
def herL (rec : Nat → Od) : List Nat → Nat → Od → Od
  | [], _, acc => acc
  | d :: ds, e, acc => herL rec ds (e + 1) (if d = 0 then acc else .cons (rec e) d acc)
/-- The hereditary form; the first number is fuel. -/
def her (b : Nat) : Nat → Nat → Od
  | 0, _ => .nil
  | f + 1, n => herL (her b f) (dg b n) 0 .nil
theorem her_succ (b f n : Nat) : her b (f + 1) n = herL (her b f) (dg b n) 0 .nil := rfl

theorem herL_app (rec : Nat → Od) : ∀ (ds : List Nat) (e : Nat) (acc : Od), herL rec ds e acc = (herL rec ds e .nil).app acc
  | [], e, acc => rfl
  | d :: ds, e, acc => by
    simp only [herL]
    rw [herL_app rec ds (e + 1) (if d = 0 then acc else _), herL_app rec ds (e + 1) (if d = 0 then .nil else _)]
    split
    · rw [app_nil]
    · rw [app_assoc]; rfl
/-- The terms of the digits from the i-th on. -/
def herQ (rec : Nat → Od) (ds : List Nat) (i : Nat) : Od := herL rec (ds.drop i) i .nil
theorem herQ_end (rec : Nat → Od) (ds : List Nat) : herQ rec ds ds.length = .nil := by simp [herQ, herL]
theorem herQ_step (rec : Nat → Od) (ds : List Nat) {i : Nat} (hi : i < ds.length) : herQ rec ds i = (herQ rec ds (i + 1)).app (if ds[i] = 0 then .nil else .cons (rec i) ds[i] .nil) := by
  unfold herQ
  rw [List.drop_eq_getElem_cons hi]
  simp only [herL]
  rw [herL_app]
theorem herL_len (rec : Nat → Od) : ∀ (ds : List Nat) (e : Nat) (acc : Od), (herL rec ds e acc).len ≤ ds.length + acc.len
  | [], e, acc => by simp [herL]
  | d :: ds, e, acc => by
    by_cases hd : d = 0
    · have := herL_len rec ds (e + 1) acc
      simp only [herL, if_pos hd, List.length_cons]; omega
    · have := herL_len rec ds (e + 1) (.cons (rec e) d acc)
      simp only [len] at this
      simp only [herL, if_neg hd, List.length_cons]; omega
theorem herQ_len (rec : Nat → Od) (ds : List Nat) (i : Nat) : (herQ rec ds i).len ≤ ds.length := by
  have := herL_len rec (ds.drop i) i .nil
  simp only [len, List.length_drop] at this
  unfold herQ; omega

abbrev nats (l : List Nat) : List Int := l.map Int.ofNat
theorem nats_get (l : List Nat) (i : Nat) (h : i < l.length) : (nats l)[i]?.getD 0 = (l[i] : Int) := by simp [h]

/-! ### slices.Backward -/
theorem back_ok (es : List Int) : Ct Try.prog 92 [.sl false (ints es)] [] (.fn 119 [.rptr (.agg [.sl false (ints es)]) 0]) [] := by
  refine Ct.by_ hmix [] Try.func92 rfl ?_
  simp only [run0, run1, run2, run3, run4, run5, run6, run7, run8, run9, run10, run11, run12, run13, run14, run15, run16, run17, run18, run19, run20, run21, run22, reduceCtorEq, Nat.reduceEqDiff, Nat.reduceAdd, Nat.reduceSub, Nat.reduceLeDiff, indexAddrA, indexRefA, appendA, strA, Nat.reduceMul, Nat.zero_mul, Nat.reduceMod, Int.reduceEq, Int.reduceLT, Int.reduceLE, Nat.reduceLT, Nat.lt_irrefl, Nat.reduceBEq, tys0, tys1, tys2, tys3, tys4, tys5, tys6, tys7, tys8, tys9, tys10, tys11, tys12, tys13, tys14, tys15, tys16, tys17, tys18, Try.ntmps92, Try.results92]
  exact Fin.value (Vw.fn (.cons (Vw.ptr rfl (by simp only [pureL, pureB, ints_pure, Bool.and_self])) .nil))

theorem backI_ok (es : List Int) (hes : es.length ≤ 1048576) (l : Nat) (r : Loop) (ts : List AV) (Ls : Nat → List AObj)
    (h : ∀ k, k < es.length → YC Try.prog l r ts [.int .i64 ((es.length - 1 - k : Nat) : Int), .int .i64 (es[es.length - 1 - k]?.getD 0)] (Ls k) (Ls (k + 1))) :
    Ct Try.prog 119 [.yld l r ts, .rptr (.agg [.sl false (ints es)]) 0] (Ls 0) (.tup []) (Ls es.length) := by
  refine Ct.by_ hmix [] Try.func119 rfl ?_
  have w0 : IntKind.i64.wrap ((es.length : Int) - 1) = (es.length : Int) - 1 - ((0 : Nat) : Int) := by rw [w64_id (by omega) (by omega)]; omega
  simp only [run0, run1, run2, run3, run4, run5, run6, run7, run8, run9, run10, run11, run12, run13, run14, run15, run16, run17, run18, run19, run20, run21, run22, reduceCtorEq, Nat.reduceEqDiff, Nat.reduceAdd, Nat.reduceSub, Nat.reduceLeDiff, indexAddrA, indexRefA, appendA, strA, Nat.reduceMul, Nat.zero_mul, Nat.reduceMod, Int.reduceEq, Int.reduceLT, Int.reduceLE, Nat.reduceLT, Nat.lt_irrefl, Nat.reduceBEq, tys0, tys1, tys2, tys3, tys4, tys5, tys6, tys7, tys8, tys9, tys10, tys11, tys12, tys13, tys14, tys15, tys16, tys17, tys18, Try.ntmps119, Try.results119, w0]
  refine AWp.loop_inv (ι := Nat) (fun k => ⟨[.yld l r ts, .rptr (.agg [.sl false (ints es)]) 0, .junk, .int .i64 ((es.length : Int) - 1 - (k : Int)), .junk, .junk, .junk, .junk, .junk, .junk, .junk, .junk, .junk, .junk, .junk, .junk, .junk, .junk, .junk], Ls k⟩)
    (fun k => k ≤ es.length) (fun k => es.length - k) 0 (Nat.zero_le _) ⟨by repeat constructor, rfl⟩ ?_
  intro k hk
  refine W.sound hmix (E := []) ?_
  by_cases hlt : k < es.length
  · have e1 : (0 : Int) ≤ (es.length : Int) - 1 - (k : Int) := by omega
    have e2 : (es.length : Int) - 1 - (k : Int) = ((es.length - 1 - k : Nat) : Int) := by omega
    have e3 : (ints es)[es.length - 1 - k]? = some (.int .i64 (es[es.length - 1 - k]?.getD 0)) := by
      have : es.length - 1 - k < es.length := by omega
      simp [this]
    have e4 : IntKind.i64.wrap (((es.length - 1 - k : Nat) : Int) - 1) = (es.length : Int) - 1 - ((k + 1 : Nat) : Int) := by rw [w64_id (by omega) (by omega)]; omega
    rw [e2] at e1
    rw [e2]
    simp only [run0, run1, run2, run3, run4, run5, run6, run7, run8, run9, run10, run11, run12, run13, run14, run15, run16, run17, run18, run19, run20, run21, run22, reduceCtorEq, Nat.reduceEqDiff, Nat.reduceAdd, Nat.reduceSub, Nat.reduceLeDiff, indexAddrA, indexRefA, appendA, strA, Nat.reduceMul, Nat.zero_mul, Nat.reduceMod, Int.reduceEq, Int.reduceLT, Int.reduceLE, Nat.reduceLT, Nat.lt_irrefl, Nat.reduceBEq, tys0, tys1, tys2, tys3, tys4, tys5, tys6, tys7, tys8, tys9, tys10, tys11, tys12, tys13, tys14, tys15, tys16, tys17, tys18, Try.ntmps119, Try.results119, e1, e3, Int.toNat_natCast, Int.natCast_nonneg]
    refine RunL.cally rfl rfl rfl rfl (.inl rfl) (h k hlt) ?_
    simp only [run0, run1, run2, run3, run4, run5, run6, run7, run8, run9, run10, run11, run12, run13, run14, run15, run16, run17, run18, run19, run20, run21, run22, reduceCtorEq, Nat.reduceEqDiff, Nat.reduceAdd, Nat.reduceSub, Nat.reduceLeDiff, indexAddrA, indexRefA, appendA, strA, Nat.reduceMul, Nat.zero_mul, Nat.reduceMod, Int.reduceEq, Int.reduceLT, Int.reduceLE, Nat.reduceLT, Nat.lt_irrefl, Nat.reduceBEq, tys0, tys1, tys2, tys3, tys4, tys5, tys6, tys7, tys8, tys9, tys10, tys11, tys12, tys13, tys14, tys15, tys16, tys17, tys18, Try.ntmps119, Try.results119, e4]
    exact ⟨k + 1, by omega, by omega, by repeat constructor, rfl⟩
  · have hk2 : k = es.length := by omega
    subst hk2
    have e1 : ¬ ((0 : Int) ≤ (es.length : Int) - 1 - (es.length : Int)) := by omega
    simp only [run0, run1, run2, run3, run4, run5, run6, run7, run8, run9, run10, run11, run12, run13, run14, run15, run16, run17, run18, run19, run20, run21, run22, reduceCtorEq, Nat.reduceEqDiff, Nat.reduceAdd, Nat.reduceSub, Nat.reduceLeDiff, indexAddrA, indexRefA, appendA, strA, Nat.reduceMul, Nat.zero_mul, Nat.reduceMod, Int.reduceEq, Int.reduceLT, Int.reduceLE, Nat.reduceLT, Nat.lt_irrefl, Nat.reduceBEq, tys0, tys1, tys2, tys3, tys4, tys5, tys6, tys7, tys8, tys9, tys10, tys11, tys12, tys13, tys14, tys15, tys16, tys17, tys18, Try.ntmps119, Try.results119, e1]
    exact Fin.own rfl rfl

end Go.Proofs.Ytphmkhaboghagaa
/-
  Hereditary forms of numbers: impl.hereditary, spec.deForm.
-/
namespace Go.Proofs.Ytphmkhaboghagaa
open Go K Od
set_option linter.unusedSimpArgs false
set_option linter.unusedVariables false
set_option maxHeartbeats 1600000
set_option maxRecDepth 8000

theorem VwF_ints {L : List AObj} {id g n : Nat} {T : TypeId} {l : List Int} (hL : L[id]? = some (.vec T 1 g (ints l))) (hn : n = l.length) : VwF id L (.ref id [] g n) (.sl false (ints l)) := by
  have := VwF.ref (o := false) (n := n) hL (by rw [hn]; simp) (fun e he c hc => by
    obtain ⟨x, _, rfl⟩ := List.mem_map.1 he
    simp only [AV.cells, List.mem_singleton] at hc
    subst hc
    exact ⟨Pur.int _ _, fun xs h => by cases h⟩)
  rwa [List.take_of_length_le (by rw [hn]; simp)] at this

theorem end_get (a : Od) (y : AV) : (elems a ++ [y])[a.len]? = some y := by rw [List.getElem?_append_right (by rw [elems_length]; exact Nat.le_refl _), elems_length, Nat.sub_self]; rfl
theorem end_set (a : Od) (y z : AV) : (elems a ++ [y]).set a.len z = elems a ++ [z] := by rw [List.set_append_right _ _ (by rw [elems_length]; exact Nat.le_refl _), elems_length, Nat.sub_self]; rfl
theorem end_noOwn (a : Od) : noOwn (elems a ++ [.agg [.lit (.slice none 0 0), .int .i64 0]]) = true := by
  have := elems_noOwn a
  simp only [noOwn, List.all_append, List.all_cons, List.all_nil, Bool.and_true] at this ⊢
  rw [this]; rfl
theorem hereditary_ok (b : Nat) (hb : 2 ≤ b) (hb2 : b ≤ 2000) : ∀ f n : Nat, n ≤ 1000000 → n < f → Ct Try.prog 53 [.int .i64 (n : Int), .int .i64 (b : Int)] [] (av (her b f n)) [] := by
  intro f
  induction f with
  | zero => intro n _ h; omega
  | succ f ih =>
  intro n hn hf
  have hdl := dg_len b n
  have hb0 : ¬ ((b : Int) = 0) := by omega
  refine Ct.by_ hmix [ 1000000 + 9] Try.func53 rfl ?_
  simp only [run0, run1, run2, run3, run4, run5, run6, run7, run8, run9, run10, run11, run12, run13, run14, run15, run16, run17, run18, run19, run20, run21, run22, reduceCtorEq, Nat.reduceEqDiff, Nat.reduceAdd, Nat.reduceSub, Nat.reduceLeDiff, indexAddrA, indexRefA, appendA, strA, Nat.reduceMul, Nat.zero_mul, Nat.reduceMod, Int.reduceEq, Int.reduceLT, Int.reduceLE, Nat.reduceLT, Nat.lt_irrefl, Nat.reduceBEq, tys0, tys1, tys2, tys3, tys4, tys5, tys6, tys7, tys8, tys9, tys10, tys11, tys12, tys13, tys14, tys15, tys16, tys17, tys18, Try.ntmps53, Try.results53]
  refine AWp.loop_inv (ι := List Nat × Nat) (fun p => ⟨[.int .i64 p.2, .int .i64 b, .junk, .ptr 0 0, .ptr 1 0, .ref 2 [] p.1.length p.1.length, .junk, .junk, .junk, .junk, .junk, .junk, .junk, .junk, .junk, .junk, .junk, .junk, .junk, .junk, .junk, .junk, .junk, .junk, .junk, .junk, .junk, .junk, .junk, .junk, .junk, .junk, .junk, .junk, .junk, .junk, .junk, .junk, .junk, .junk, .junk], [.box 3 [.int .i64 b], .box 24 [nilV], .vec 3 1 p.1.length (ints (nats p.1))]⟩)
    (fun p => dg b n = p.1 ++ dg b p.2 ∧ p.2 ≤ n) (fun p => p.2) ([], n) ⟨rfl, Nat.le_refl _⟩ ⟨by repeat constructor, rfl⟩ ?_
  rintro ⟨ds, m⟩ ⟨hd, hm⟩
  simp only at hd hm
  have hdd : ds.length + (dg b m).length = (dg b n).length := by rw [hd, List.length_append]
  by_cases h0 : m = 0
  · subst h0
    rw [dg_zero, List.append_nil] at hd
    refine W.sound hmix (E := []) ?_
    have e1 : ¬ ((0 : Int) < ((0 : Nat) : Int)) := by omega
    simp only [run0, run1, run2, run3, run4, run5, run6, run7, run8, run9, run10, run11, run12, run13, run14, run15, run16, run17, run18, run19, run20, run21, run22, reduceCtorEq, Nat.reduceEqDiff, Nat.reduceAdd, Nat.reduceSub, Nat.reduceLeDiff, indexAddrA, indexRefA, appendA, strA, Nat.reduceMul, Nat.zero_mul, Nat.reduceMod, Int.reduceEq, Int.reduceLT, Int.reduceLE, Nat.reduceLT, Nat.lt_irrefl, Nat.reduceBEq, tys0, tys1, tys2, tys3, tys4, tys5, tys6, tys7, tys8, tys9, tys10, tys11, tys12, tys13, tys14, tys15, tys16, tys17, tys18, Try.ntmps53, Try.results53, e1]
    refine RunL.give rfl rfl ok_f92 rfl rfl (back_ok (nats ds)) ⟨_, _, _, _, rfl⟩ (.cons (VwF_ints rfl (by simp)) .nil) rfl ?_
    simp only [run0, run1, run2, run3, run4, run5, run6, run7, run8, run9, run10, run11, run12, run13, run14, run15, run16, run17, run18, run19, run20, run21, run22, reduceCtorEq, Nat.reduceEqDiff, Nat.reduceAdd, Nat.reduceSub, Nat.reduceLeDiff, indexAddrA, indexRefA, appendA, strA, Nat.reduceMul, Nat.zero_mul, Nat.reduceMod, Int.reduceEq, Int.reduceLT, Int.reduceLE, Nat.reduceLT, Nat.lt_irrefl, Nat.reduceBEq, tys0, tys1, tys2, tys3, tys4, tys5, tys6, tys7, tys8, tys9, tys10, tys11, tys12, tys13, tys14, tys15, tys16, tys17, tys18, Try.ntmps53, Try.results53]
    refine AWp.nilB 3 0 88 2 rfl rfl ?_
    have hdl2 : ds.length ≤ n := by omega
    have hnl : (nats ds).length = ds.length := by simp
    refine AWp.range (F := 119) (z := .tup []) rfl ok_f119 ⟨by kernel_rfl, by kernel_rfl⟩ ds.length
      (fun k => [.box 3 [.int .i64 b], .box 24 [nilV], .dead, .box 24 [.ref 4 [] (herQ (her b f) ds (ds.length - k)).len (herQ (her b f) ds (ds.length - k)).len], .vec 88 2 (herQ (her b f) ds (ds.length - k)).len (elems (herQ (her b f) ds (ds.length - k)))])
      (fun k => [.int .i64 ((ds.length - 1 - k : Nat) : Int), .int .i64 ((nats ds)[ds.length - 1 - k]?.getD 0)]) ?h0 (fun _ _ => rfl) ?hny ?hnt (fun _ _ => rfl) ?hit ?hround ?hQ
    case h0 => simp only [Nat.sub_zero, herQ_end, len, elems]; rfl
    case hny =>
      intro k _
      simp only [List.all_cons, List.all_nil, noYO, noYL_of (elems_pure _), Bool.and_true]
      rfl
    case hnt =>
      simp only [noYL, noY, noYL_of (ints_pure _), Bool.and_true, Bool.and_self]
    case hit =>
      intro l r ts h
      have := backI_ok (nats ds) (by omega) l r ts
      rw [hnl] at this
      exact this _ h
    case hQ =>
      simp only [run0, run1, run2, run3, run4, run5, run6, run7, run8, run9, run10, run11, run12, run13, run14, run15, run16, run17, run18, run19, run20, run21, run22, reduceCtorEq, Nat.reduceEqDiff, Nat.reduceAdd, Nat.reduceSub, Nat.reduceLeDiff, indexAddrA, indexRefA, appendA, strA, Nat.reduceMul, Nat.zero_mul, Nat.reduceMod, Int.reduceEq, Int.reduceLT, Int.reduceLE, Nat.reduceLT, Nat.lt_irrefl, Nat.reduceBEq, tys0, tys1, tys2, tys3, tys4, tys5, tys6, tys7, tys8, tys9, tys10, tys11, tys12, tys13, tys14, tys15, tys16, tys17, tys18, Try.ntmps53, Try.results53]
      rw [show her b (f + 1) n = herQ (her b f) ds (ds.length - ds.length) by rw [her_succ, hd, Nat.sub_self]; rfl]
      exact Fin.value (Vw.agg (.cons (Vw_elems (T := 88) rfl rfl rfl) .nil))
    case hround =>
      intro k hk
      have hi : ds.length - 1 - k < ds.length := by omega
      have hstep := herQ_step (her b f) ds hi
      rw [show ds.length - 1 - k + 1 = ds.length - k by omega] at hstep
      have hlt : ds[ds.length - 1 - k] < b := dg_lt hb n n _ (by show _ ∈ dg b n; rw [hd]; exact List.getElem_mem hi)
      rw [nats_get ds _ hi]
      refine W.sound hmix (E := []) ?_
      simp only [setP, List.zip_cons_cons, List.zip_nil_left, List.foldl_cons, List.foldl_nil]
      simp only [run0, run1, run2, run3, run4, run5, run6, run7, run8, run9, run10, run11, run12, run13, run14, run15, run16, run17, run18, run19, run20, run21, run22, reduceCtorEq, Nat.reduceEqDiff, Nat.reduceAdd, Nat.reduceSub, Nat.reduceLeDiff, indexAddrA, indexRefA, appendA, strA, Nat.reduceMul, Nat.zero_mul, Nat.reduceMod, Int.reduceEq, Int.reduceLT, Int.reduceLE, Nat.reduceLT, Nat.lt_irrefl, Nat.reduceBEq, tys0, tys1, tys2, tys3, tys4, tys5, tys6, tys7, tys8, tys9, tys10, tys11, tys12, tys13, tys14, tys15, tys16, tys17, tys18, Try.ntmps53, Try.results53]
      refine W.sound hmix (E := [8000002, 1000000 + 32, 1000000 + 39, 5999999, 6000003, 7000000 + 39, 9000000 + 29]) ?_
      rw [show ds.length - (k + 1) = ds.length - 1 - k by omega, hstep]
      have hol := herQ_len (her b f) ds (ds.length - k)
      generalize herQ (her b f) ds (ds.length - k) = o at *
      generalize hD : ds[ds.length - 1 - k] = d at *
      by_cases hd0 : d = 0
      · subst hd0
        have e2 : ¬ ((0 : Int) < ((0 : Nat) : Int)) := by omega
        rw [if_pos rfl, app_nil]
        simp only [run0, run1, run2, run3, run4, run5, run6, run7, run8, run9, run10, run11, run12, run13, run14, run15, run16, run17, run18, run19, run20, run21, run22, reduceCtorEq, Nat.reduceEqDiff, Nat.reduceAdd, Nat.reduceSub, Nat.reduceLeDiff, indexAddrA, indexRefA, appendA, strA, Nat.reduceMul, Nat.zero_mul, Nat.reduceMod, Int.reduceEq, Int.reduceLT, Int.reduceLE, Nat.reduceLT, Nat.lt_irrefl, Nat.reduceBEq, tys0, tys1, tys2, tys3, tys4, tys5, tys6, tys7, tys8, tys9, tys10, tys11, tys12, tys13, tys14, tys15, tys16, tys17, tys18, Try.ntmps53, Try.results53, e2]
      · have e2 : (0 : Int) < (d : Int) := by omega
        have f3 : o.len ≤ 137438953471 := by omega
        have f4 : noOwn (elems o) = true := elems_noOwn o
        have g1 : ((o.len : Nat) : Int) < ((o.len + 1 : Nat) : Int) := by omega
        have hc := ih (ds.length - 1 - k) (by omega) (by omega)
        rw [if_neg hd0]
        simp only [run0, run1, run2, run3, run4, run5, run6, run7, run8, run9, run10, run11, run12, run13, run14, run15, run16, run17, run18, run19, run20, run21, run22, reduceCtorEq, Nat.reduceEqDiff, Nat.reduceAdd, Nat.reduceSub, Nat.reduceLeDiff, indexAddrA, indexRefA, appendA, strA, Nat.reduceMul, Nat.zero_mul, Nat.reduceMod, Int.reduceEq, Int.reduceLT, Int.reduceLE, Nat.reduceLT, Nat.lt_irrefl, Nat.reduceBEq, tys0, tys1, tys2, tys3, tys4, tys5, tys6, tys7, tys8, tys9, tys10, tys11, tys12, tys13, tys14, tys15, tys16, tys17, tys18, Try.ntmps53, Try.results53, e2]
        refine ⟨[0,1,2,3,4,5,6,7,8,9], [10,11,12,13], [10,12,13,11], 11, 13, by kernel_rfl, ?_⟩
        simp only [run0, run1, run2, run3, run4, run5, run6, run7, run8, run9, run10, run11, run12, run13, run14, run15, run16, run17, run18, run19, run20, run21, run22, reduceCtorEq, Nat.reduceEqDiff, Nat.reduceAdd, Nat.reduceSub, Nat.reduceLeDiff, indexAddrA, indexRefA, appendA, strA, Nat.reduceMul, Nat.zero_mul, Nat.reduceMod, Int.reduceEq, Int.reduceLT, Int.reduceLE, Nat.reduceLT, Nat.lt_irrefl, Nat.reduceBEq, tys0, tys1, tys2, tys3, tys4, tys5, tys6, tys7, tys8, tys9, tys10, tys11, tys12, tys13, tys14, tys15, tys16, tys17, tys18, Try.ntmps53, Try.results53]
        refine RunL.loadX (x := .ref 4 [] o.len o.len) rfl rfl ?_ ?_
        · rfl
        simp only [run0, run1, run2, run3, run4, run5, run6, run7, run8, run9, run10, run11, run12, run13, run14, run15, run16, run17, run18, run19, run20, run21, run22, reduceCtorEq, Nat.reduceEqDiff, Nat.reduceAdd, Nat.reduceSub, Nat.reduceLeDiff, indexAddrA, indexRefA, appendA, strA, Nat.reduceMul, Nat.zero_mul, Nat.reduceMod, Int.reduceEq, Int.reduceLT, Int.reduceLE, Nat.reduceLT, Nat.lt_irrefl, Nat.reduceBEq, tys0, tys1, tys2, tys3, tys4, tys5, tys6, tys7, tys8, tys9, tys10, tys11, tys12, tys13, tys14, tys15, tys16, tys17, tys18, Try.ntmps53, Try.results53]
        refine RunL.callp rfl rfl ok_f53 (hc) (by first | rfl | simp only [pureL, pureB, Bool.and_self, Bool.and_true, Bool.true_and, Od.elems_pure, Od.pay_pure, Od.av_pure]) rfl ?_
        simp only [run0, run1, run2, run3, run4, run5, run6, run7, run8, run9, run10, run11, run12, run13, run14, run15, run16, run17, run18, run19, run20, run21, run22, reduceCtorEq, Nat.reduceEqDiff, Nat.reduceAdd, Nat.reduceSub, Nat.reduceLeDiff, indexAddrA, indexRefA, appendA, strA, Nat.reduceMul, Nat.zero_mul, Nat.reduceMod, Int.reduceEq, Int.reduceLT, Int.reduceLE, Nat.reduceLT, Nat.lt_irrefl, Nat.reduceBEq, tys0, tys1, tys2, tys3, tys4, tys5, tys6, tys7, tys8, tys9, tys10, tys11, tys12, tys13, tys14, tys15, tys16, tys17, tys18, Try.ntmps53, Try.results53, av, f3, f4, elems_length, Int.toNat_natCast, Int.natCast_nonneg, len_app, elems_app, elems, pay, len, end_get, end_set, end_noOwn, g1, absG, absA, List.toList_toArray, List.all_cons, List.all_nil, List.map_cons, List.map_nil, Value.oneCell']
  · have e1 : (0 : Int) < (m : Int) := by omega
    have hp := dg_pos hb (n := m) (by omega)
    have hlt := div_lt hb h0
    have e3 : (0 : Int) ≤ (m : Int) := by omega
    have w1 : ((m : Int).tmod (b : Int)) = ((m % b : Nat) : Int) := by rw [Int.tmod_eq_emod_of_nonneg e3]; rfl
    have w2 : ((m : Int).tdiv (b : Int)) = ((m / b : Nat) : Int) := by rw [Int.tdiv_eq_ediv_of_nonneg e3]; rfl
    have w3 : IntKind.i64.wrap (((m / b : Nat) : Int)) = ((m / b : Nat) : Int) := by
      have := Nat.div_le_self m b
      generalize m / b = q at *
      exact w64_id (by omega) (by omega)
    have w4 : IntKind.i64.wrap (((m % b : Nat) : Int)) = ((m % b : Nat) : Int) := by
      have := Nat.mod_lt m (show b > 0 by omega)
      generalize m % b = q at *
      exact w64_id (by omega) (by omega)
    have f3 : ds.length + 1 ≤ 137438953472 := by omega
    have f4 : noOwn (ints (nats ds)) = true := ints_noOwn _
    refine W.sound hmix (E := []) ?_
    simp only [run0, run1, run2, run3, run4, run5, run6, run7, run8, run9, run10, run11, run12, run13, run14, run15, run16, run17, run18, run19, run20, run21, run22, reduceCtorEq, Nat.reduceEqDiff, Nat.reduceAdd, Nat.reduceSub, Nat.reduceLeDiff, indexAddrA, indexRefA, appendA, strA, Nat.reduceMul, Nat.zero_mul, Nat.reduceMod, Int.reduceEq, Int.reduceLT, Int.reduceLE, Nat.reduceLT, Nat.lt_irrefl, Nat.reduceBEq, tys0, tys1, tys2, tys3, tys4, tys5, tys6, tys7, tys8, tys9, tys10, tys11, tys12, tys13, tys14, tys15, tys16, tys17, tys18, Try.ntmps53, Try.results53, e1, hb0, w1, w2, w3, w4, f3, f4, List.length_map]
    exact ⟨(ds ++ [m % b], m / b), ⟨by simp only [List.append_assoc, List.singleton_append]; rw [hd, hp], by simp only; omega⟩, hlt, by simp only [List.length_append, List.length_cons, List.length_nil]; repeat constructor, by simp⟩

end Go.Proofs.Ytphmkhaboghagaa
/-
  Hydras of ordinals: what is grown (plain law) and the reference.
-/
namespace Go.Proofs.Ytphmkhaboghagaa
open Go K Od
set_option linter.unusedSimpArgs false
set_option linter.unusedVariables false
set_option maxHeartbeats 3200000
set_option maxRecDepth 8000

def growK (f : List Int → Option (List Int)) : Nat → List Int → Option (List Int)
  | 0, P => some P
  | k + 1, P => (f P).bind (growK f k)
/-- What hangs at the node 'n'. -/
def growL : Nat → Od → List Int → Option (List Int)
  | _, .nil, P => some P
  | n, .cons e k r, P => (growK (fun Q => if Q.length = 40 then none else growL Q.length e (Q ++ [(n : Int)])) k.toNat P).bind (growL n r)
def growT (at_ : Int) (t : Od) (Q : List Int) : Option (List Int) := if Q.length = 40 then none else growL Q.length t (Q ++ [at_])
theorem growL_cons (n : Nat) (e r : Od) (k : Int) (P : List Int) : growL n (.cons e k r) P = (growK (growT n e) k.toNat P).bind (growL n r) := rfl
theorem growK_len {f : List Int → Option (List Int)} (hf : ∀ P Q, P.length ≤ 40 → f P = some Q → Q.length ≤ 40) : ∀ (k : Nat) (P Q : List Int), P.length ≤ 40 → growK f k P = some Q → Q.length ≤ 40
  | 0, P, Q, h, e => by cases e; exact h
  | k + 1, P, Q, h, e => by
    obtain ⟨P', h1, h2⟩ := Option.bind_eq_some_iff.1 e
    exact growK_len hf k P' Q (hf P P' h h1) h2
theorem growL_len : ∀ (t : Od) (n : Nat) (P Q : List Int), P.length ≤ 40 → growL n t P = some Q → Q.length ≤ 40
  | .nil, n, P, Q, h, e => by cases e; exact h
  | .cons a k r, n, P, Q, h, e => by
    rw [growL_cons] at e
    obtain ⟨P', h1, h2⟩ := Option.bind_eq_some_iff.1 e
    refine growL_len r n P' Q (growK_len (fun A B hA hB => ?_) _ P P' h h1) h2
    unfold growT at hB
    split at hB
    · cases hB
    · exact growL_len a _ _ B (by simp; omega) hB
theorem growT_len {at_ : Int} {t : Od} {P Q : List Int} (h : P.length ≤ 40) (e : growT at_ t P = some Q) : Q.length ≤ 40 := by
  unfold growT at e
  split at e
  · cases e
  · exact growL_len t _ _ Q (by simp; omega) e

theorem ints_one (l : List Int) : ((ints l).all fun z => z.cells.length == 1) = true := by
  refine List.all_eq_true.2 fun e he => ?_
  obtain ⟨w, _, rfl⟩ := List.mem_map.1 he; rfl
theorem ints_sh (k : Nat) (l : List Int) : (ints l).map (shA k) = ints l := by
  simp only [ints, List.map_map]
  exact List.map_congr_left fun x _ => rfl
theorem l1OwnI_ok (l : List Int) (hl : l.length ≤ 1048576) : Ct Try.prog 115 [.sl false (ints l)] [] (.ref 0 [] 1 l.length) [.vec 3 1 1 (ints l)] := by
  have f3 : l.length ≤ 137438953472 := by omega
  have f4 := ints_noOwn l
  refine Ct.by_ hmix [] Try.func115 rfl ?_
  have f5 := ints_one l
  simp only [run0, run1, run2, run3, run4, run5, run6, run7, run8, run9, run10, run11, run12, run13, run14, run15, run16, run17, run18, run19, run20, run21, run22, reduceCtorEq, Nat.reduceEqDiff, Nat.reduceAdd, Nat.reduceSub, Nat.reduceLeDiff, indexAddrA, indexRefA, appendA, strA, Nat.reduceMul, Nat.zero_mul, Nat.reduceMod, Int.reduceEq, Int.reduceLT, Int.reduceLE, Nat.reduceLT, Nat.lt_irrefl, Nat.reduceBEq, tys0, tys1, tys2, tys3, tys4, tys5, tys6, tys7, tys8, tys9, tys10, tys11, tys12, tys13, tys14, tys15, tys16, tys17, tys18, Try.ntmps115, Try.results115, List.length_map, f3, f4, f5, Nat.zero_add, List.nil_append]
  exact Fin.own rfl rfl

structure DgS where
  d : Od
  r : Od
  Q : List Int
  y : AV
  o : AObj
  X : List AObj
structure DkS where
  k : Nat
  Q : List Int
  y : AV
  o : AObj
  Y : List AObj
def DgY (o : AObj) (Q : List Int) (y : AV) : Prop := (y = .ref 3 [] 2 Q.length ∧ o = .vec 3 1 2 (ints Q)) ∨ y = .sl false (ints Q)
theorem deGrow_ok (t : Od) (P : List Int) (at_ : Int) (hP : P.length ≤ 40) (hs : t.sz ≤ 1048576) (ra : rng t) : Ct Try.prog 83 [hyA P, .int .i64 at_, av t] [] (optH (growT at_ t P)) [] := by
  have hno := ints_noOwn P
  refine Ct.by_ hmix [] Try.func83 rfl ?_
  by_cases h40 : P.length = 40
  · have e1 : ((P.length : Int) == 40) = true := by simp [h40]
    simp only [run0, run1, run2, run3, run4, run5, run6, run7, run8, run9, run10, run11, run12, run13, run14, run15, run16, run17, run18, run19, run20, run21, run22, reduceCtorEq, Nat.reduceEqDiff, Nat.reduceAdd, Nat.reduceSub, Nat.reduceLeDiff, indexAddrA, indexRefA, appendA, strA, Nat.reduceMul, Nat.zero_mul, Nat.reduceMod, Int.reduceEq, Int.reduceLT, Int.reduceLE, Nat.reduceLT, Nat.lt_irrefl, Nat.reduceBEq, tys0, tys1, tys2, tys3, tys4, tys5, tys6, tys7, tys8, tys9, tys10, tys11, tys12, tys13, tys14, tys15, tys16, tys17, tys18, Try.ntmps83, Try.results83, hyA, av, e1, List.length_map]
    rw [show growT at_ t P = none from if_pos h40]
    exact Fin.value (vw_fail _)
  have e1 : ((P.length : Int) == 40) = false := by simp; omega
  have f3 : P.length + 1 ≤ 137438953472 := by omega
  simp only [run0, run1, run2, run3, run4, run5, run6, run7, run8, run9, run10, run11, run12, run13, run14, run15, run16, run17, run18, run19, run20, run21, run22, reduceCtorEq, Nat.reduceEqDiff, Nat.reduceAdd, Nat.reduceSub, Nat.reduceLeDiff, indexAddrA, indexRefA, appendA, strA, Nat.reduceMul, Nat.zero_mul, Nat.reduceMod, Int.reduceEq, Int.reduceLT, Int.reduceLE, Nat.reduceLT, Nat.lt_irrefl, Nat.reduceBEq, tys0, tys1, tys2, tys3, tys4, tys5, tys6, tys7, tys8, tys9, tys10, tys11, tys12, tys13, tys14, tys15, tys16, tys17, tys18, Try.ntmps83, Try.results83, hyA, av, e1, List.length_map]
  refine RunL.callgp rfl rfl ok_f115 rfl (l1OwnI_ok P (by omega)) (by simp only [pureL, pureB, ints_pure, Bool.and_self, Bool.and_true]) rfl ?_
  simp only [run0, run1, run2, run3, run4, run5, run6, run7, run8, run9, run10, run11, run12, run13, run14, run15, run16, run17, run18, run19, run20, run21, run22, reduceCtorEq, Nat.reduceEqDiff, Nat.reduceAdd, Nat.reduceSub, Nat.reduceLeDiff, indexAddrA, indexRefA, appendA, strA, Nat.reduceMul, Nat.zero_mul, Nat.reduceMod, Int.reduceEq, Int.reduceLT, Int.reduceLE, Nat.reduceLT, Nat.lt_irrefl, Nat.reduceBEq, tys0, tys1, tys2, tys3, tys4, tys5, tys6, tys7, tys8, tys9, tys10, tys11, tys12, tys13, tys14, tys15, tys16, tys17, tys18, Try.ntmps83, Try.results83, shA, shO, ints_sh, f3, hno, List.map_cons, List.map_nil, List.length_map, elems_length]
  have hg : ∀ R, growT at_ t P = R ↔ growL P.length t (P ++ [at_]) = R := fun R => by unfold growT; rw [if_neg h40]
  rw [show growT at_ t P = growL P.length t (P ++ [at_]) from (hg _).2 rfl]
  refine AWp.loop_inv (ι := DgS) (fun p => ⟨[.junk, .junk, .junk, .ptr 0 0, .junk, .ptr 1 0, .ptr 2 0, .bool false, .int .i64 P.length, .ptr 4 0, .junk, .junk, .junk, .junk, .junk, .junk, .junk, .junk, .junk, .junk, .junk, .junk, .junk, .junk, .junk, .junk, .junk, .junk, .junk, .sl false (elems t), .int .i64 t.len, .int .i64 p.d.len, .junk, .junk, .junk, .junk, .junk, .junk, .junk, .junk, .junk, .junk, .junk, .junk, .junk, .junk, .junk, .junk, .junk, .junk, .junk, .junk, .junk, .junk, .junk],
      .box 60 [.sl false (ints P)] :: .box 24 [.sl false (elems t)] :: .box 60 [nilV] :: p.o :: .box 60 [p.y] :: p.X⟩)
    (fun p => t = p.d.app p.r ∧ DgY p.o p.Q p.y ∧ p.Q.length ≤ 40 ∧ growL P.length p.r p.Q = growL P.length t (P ++ [at_])) (fun p => p.r.len)
    ⟨.nil, t, P ++ [at_], .ref 3 [] 2 (P.length + 1), .vec 3 1 2 (ints (P ++ [at_])), []⟩ ⟨rfl, .inl ⟨by simp, rfl⟩, by simp; omega, rfl⟩ ⟨by simp only [len, Int.natCast_zero]; repeat constructor, by simp [nilV]⟩ ?_
  rintro ⟨d, r, Q, y, o, X⟩ ⟨ha, hy, hQ, h4⟩
  refine W.sound hmix (E := []) ?_
  simp only at ha hy hQ h4
  cases r with
  | nil =>
    obtain ⟨e1, rfl⟩ := od_end ha
    rw [← h4]
    rcases hy with ⟨rfl, rfl⟩ | rfl
    · simp only [run0, run1, run2, run3, run4, run5, run6, run7, run8, run9, run10, run11, run12, run13, run14, run15, run16, run17, run18, run19, run20, run21, run22, reduceCtorEq, Nat.reduceEqDiff, Nat.reduceAdd, Nat.reduceSub, Nat.reduceLeDiff, indexAddrA, indexRefA, appendA, strA, Nat.reduceMul, Nat.zero_mul, Nat.reduceMod, Int.reduceEq, Int.reduceLT, Int.reduceLE, Nat.reduceLT, Nat.lt_irrefl, Nat.reduceBEq, tys0, tys1, tys2, tys3, tys4, tys5, tys6, tys7, tys8, tys9, tys10, tys11, tys12, tys13, tys14, tys15, tys16, tys17, tys18, Try.ntmps83, Try.results83, e1]
      exact Fin.value (.tup (.cons (.agg (.cons (Vw_intR rfl rfl rfl) .nil)) (.cons (.pur (.bool _)) .nil)))
    · simp only [run0, run1, run2, run3, run4, run5, run6, run7, run8, run9, run10, run11, run12, run13, run14, run15, run16, run17, run18, run19, run20, run21, run22, reduceCtorEq, Nat.reduceEqDiff, Nat.reduceAdd, Nat.reduceSub, Nat.reduceLeDiff, indexAddrA, indexRefA, appendA, strA, Nat.reduceMul, Nat.zero_mul, Nat.reduceMod, Int.reduceEq, Int.reduceLT, Int.reduceLE, Nat.reduceLT, Nat.lt_irrefl, Nat.reduceBEq, tys0, tys1, tys2, tys3, tys4, tys5, tys6, tys7, tys8, tys9, tys10, tys11, tys12, tys13, tys14, tys15, tys16, tys17, tys18, Try.ntmps83, Try.results83, e1]
      exact Fin.value (.tup (.cons (.agg (.cons (.pur (.of (by simp only [pureB, ints_pure]))) .nil)) (.cons (.pur (.bool _)) .nil)))
  | cons e c r =>
    obtain ⟨e1, e2, e5, hlt, hn, _⟩ := od_step ha hs
    have ra2 := ra
    rw [ha] at ra2
    have ra2 := rng_app ra2
    have hc : 1 ≤ c ∧ c ≤ 1000000 := ⟨ra2.1, ra2.2.1⟩
    obtain ⟨k0, hk0⟩ : ∃ k : Nat, c = (k : Int) := ⟨c.toNat, by omega⟩
    subst hk0
    rw [growL_cons, Int.toNat_natCast] at h4
    simp only [run0, run1, run2, run3, run4, run5, run6, run7, run8, run9, run10, run11, run12, run13, run14, run15, run16, run17, run18, run19, run20, run21, run22, reduceCtorEq, Nat.reduceEqDiff, Nat.reduceAdd, Nat.reduceSub, Nat.reduceLeDiff, indexAddrA, indexRefA, appendA, strA, Nat.reduceMul, Nat.zero_mul, Nat.reduceMod, Int.reduceEq, Int.reduceLT, Int.reduceLE, Nat.reduceLT, Nat.lt_irrefl, Nat.reduceBEq, tys0, tys1, tys2, tys3, tys4, tys5, tys6, tys7, tys8, tys9, tys10, tys11, tys12, tys13, tys14, tys15, tys16, tys17, tys18, Try.ntmps83, Try.results83, e1, e2, Int.toNat_natCast, Int.natCast_nonneg]
    refine AWp.loop_inv (ι := DkS) (fun p => ⟨[.junk, .junk, .junk, .ptr 0 0, .junk, .ptr 1 0, .ptr 2 0, .bool false, .int .i64 P.length, .ptr 4 0, .junk, .ptr (X.length + 1 + 1 + 1 + 1 + 1) 0, .int .i64 p.k, .junk, .junk, .junk, .junk, .junk, .junk, .junk, .junk, .junk, .junk, .junk, .junk, .junk, .junk, .junk, .junk, .sl false (elems t), .int .i64 t.len, .int .i64 d.len, .junk, .junk, .junk, .junk, .junk, .junk, .junk, .junk, .junk, .junk, .junk, .junk, .junk, .junk, .junk, .junk, .junk, .junk, .junk, .junk, .junk, .junk, .junk],
        .box 60 [.sl false (ints P)] :: .box 24 [.sl false (elems t)] :: .box 60 [nilV] :: p.o :: .box 60 [p.y] :: (X ++ .box 88 [.sl false (elems e), .int .i64 (k0 : Int)] :: p.Y)⟩)
      (fun p => DgY p.o p.Q p.y ∧ p.Q.length ≤ 40 ∧ (p.k : Int) ≤ 1000000 ∧ (growK (growT P.length e) p.k p.Q).bind (growL P.length r) = growL P.length t (P ++ [at_])) (fun p => p.k)
      ⟨k0, Q, y, o, []⟩ ⟨hy, hQ, hc.2, h4⟩ ⟨by repeat constructor, rfl⟩ ?_
    clear hy hQ h4 y o Q
    rintro ⟨k, Q, y, o, Y⟩ ⟨hy, hQ, hk, h4⟩
    refine W.sound hmix (E := []) ?_
    simp only at hy hQ hk h4
    cases k with
    | zero =>
      have f1 : ¬ ((0 : Int) < ((0 : Nat) : Int)) := by omega
      simp only [run0, run1, run2, run3, run4, run5, run6, run7, run8, run9, run10, run11, run12, run13, run14, run15, run16, run17, run18, run19, run20, run21, run22, reduceCtorEq, Nat.reduceEqDiff, Nat.reduceAdd, Nat.reduceSub, Nat.reduceLeDiff, indexAddrA, indexRefA, appendA, strA, Nat.reduceMul, Nat.zero_mul, Nat.reduceMod, Int.reduceEq, Int.reduceLT, Int.reduceLE, Nat.reduceLT, Nat.lt_irrefl, Nat.reduceBEq, tys0, tys1, tys2, tys3, tys4, tys5, tys6, tys7, tys8, tys9, tys10, tys11, tys12, tys13, tys14, tys15, tys16, tys17, tys18, Try.ntmps83, Try.results83, f1, e5]
      exact ⟨⟨d.app (cons e k0 nil), r, Q, y, o, _⟩, ⟨hn.symm, hy, hQ, h4⟩, by simp [len], by repeat constructor, rfl⟩
    | succ k =>
      have f1 : (0 : Int) < ((k + 1 : Nat) : Int) := by omega
      have f2 : IntKind.i64.wrap (((k + 1 : Nat) : Int) - 1) = (k : Int) := by rw [w64_id (by omega) (by omega)]; omega
      have hrec := deGrow_ok e Q P.length hQ (by omega) ra2.2.2.1
      have getB : ∀ B : AObj, (X ++ B :: Y)[X.length]? = some B := fun B => by simp
      have hgk : growK (growT P.length e) (k + 1) Q = (growT P.length e Q).bind (growK (growT P.length e) k) := rfl
      rw [hgk] at h4
      cases hG : growT P.length e Q with
      | none =>
        rw [hG] at h4 hrec
        rw [← h4]
        simp only [optH, hyA, av, Option.getD_none, Option.isSome_none] at hrec
        rcases hy with ⟨rfl, rfl⟩ | rfl
        · simp only [run0, run1, run2, run3, run4, run5, run6, run7, run8, run9, run10, run11, run12, run13, run14, run15, run16, run17, run18, run19, run20, run21, run22, reduceCtorEq, Nat.reduceEqDiff, Nat.reduceAdd, Nat.reduceSub, Nat.reduceLeDiff, indexAddrA, indexRefA, appendA, strA, Nat.reduceMul, Nat.zero_mul, Nat.reduceMod, Int.reduceEq, Int.reduceLT, Int.reduceLE, Nat.reduceLT, Nat.lt_irrefl, Nat.reduceBEq, tys0, tys1, tys2, tys3, tys4, tys5, tys6, tys7, tys8, tys9, tys10, tys11, tys12, tys13, tys14, tys15, tys16, tys17, tys18, Try.ntmps83, Try.results83, f1, getB]
          refine RunL.give rfl rfl ok_f83 rfl rfl hrec ⟨_, _, _, _, rfl⟩ (.cons (VwF.agg (.cons (VwF_ints rfl rfl) .nil)) (.cons (.pur rfl) (.cons (.pur (by simp only [pureB, pureL, elems_pure, Bool.and_self])) .nil))) rfl ?_
          simp only [run0, run1, run2, run3, run4, run5, run6, run7, run8, run9, run10, run11, run12, run13, run14, run15, run16, run17, run18, run19, run20, run21, run22, reduceCtorEq, Nat.reduceEqDiff, Nat.reduceAdd, Nat.reduceSub, Nat.reduceLeDiff, indexAddrA, indexRefA, appendA, strA, Nat.reduceMul, Nat.zero_mul, Nat.reduceMod, Int.reduceEq, Int.reduceLT, Int.reduceLE, Nat.reduceLT, Nat.lt_irrefl, Nat.reduceBEq, tys0, tys1, tys2, tys3, tys4, tys5, tys6, tys7, tys8, tys9, tys10, tys11, tys12, tys13, tys14, tys15, tys16, tys17, tys18, Try.ntmps83, Try.results83, f1, getB]
          exact Fin.value (vw_fail _)
        · simp only [run0, run1, run2, run3, run4, run5, run6, run7, run8, run9, run10, run11, run12, run13, run14, run15, run16, run17, run18, run19, run20, run21, run22, reduceCtorEq, Nat.reduceEqDiff, Nat.reduceAdd, Nat.reduceSub, Nat.reduceLeDiff, indexAddrA, indexRefA, appendA, strA, Nat.reduceMul, Nat.zero_mul, Nat.reduceMod, Int.reduceEq, Int.reduceLT, Int.reduceLE, Nat.reduceLT, Nat.lt_irrefl, Nat.reduceBEq, tys0, tys1, tys2, tys3, tys4, tys5, tys6, tys7, tys8, tys9, tys10, tys11, tys12, tys13, tys14, tys15, tys16, tys17, tys18, Try.ntmps83, Try.results83, f1, getB]
          refine RunL.callp rfl rfl ok_f83 hrec (by simp only [pureL, pureB, ints_pure, elems_pure, Bool.and_self, Bool.and_true, Bool.true_and]) rfl ?_
          simp only [run0, run1, run2, run3, run4, run5, run6, run7, run8, run9, run10, run11, run12, run13, run14, run15, run16, run17, run18, run19, run20, run21, run22, reduceCtorEq, Nat.reduceEqDiff, Nat.reduceAdd, Nat.reduceSub, Nat.reduceLeDiff, indexAddrA, indexRefA, appendA, strA, Nat.reduceMul, Nat.zero_mul, Nat.reduceMod, Int.reduceEq, Int.reduceLT, Int.reduceLE, Nat.reduceLT, Nat.lt_irrefl, Nat.reduceBEq, tys0, tys1, tys2, tys3, tys4, tys5, tys6, tys7, tys8, tys9, tys10, tys11, tys12, tys13, tys14, tys15, tys16, tys17, tys18, Try.ntmps83, Try.results83, f1, getB]
          exact Fin.value (vw_fail _)
      | some Q2 =>
        have hQ2 := growT_len hQ hG
        rw [hG] at h4 hrec
        simp only [optH, hyA, av, Option.getD_some, Option.isSome_some] at hrec
        have setT : ∀ B Z Z' : AObj, (X ++ B :: (Y ++ [Z])).set (X.length + (Y.length + 1)) Z' = X ++ B :: (Y ++ [Z']) := fun B Z Z' => by
          rw [List.set_append_right _ _ (by omega), Nat.add_sub_cancel_left, List.set_cons_succ, List.set_append_right _ _ (Nat.le_refl _), Nat.sub_self]; rfl
        have getT : ∀ B Z : AObj, (X ++ B :: (Y ++ [Z]))[X.length + (Y.length + 1)]? = some Z := fun B Z => by
          rw [List.getElem?_append_right (by omega), Nat.add_sub_cancel_left, List.getElem?_cons_succ]; simp
        rcases hy with ⟨rfl, rfl⟩ | rfl
        · simp only [run0, run1, run2, run3, run4, run5, run6, run7, run8, run9, run10, run11, run12, run13, run14, run15, run16, run17, run18, run19, run20, run21, run22, reduceCtorEq, Nat.reduceEqDiff, Nat.reduceAdd, Nat.reduceSub, Nat.reduceLeDiff, indexAddrA, indexRefA, appendA, strA, Nat.reduceMul, Nat.zero_mul, Nat.reduceMod, Int.reduceEq, Int.reduceLT, Int.reduceLE, Nat.reduceLT, Nat.lt_irrefl, Nat.reduceBEq, tys0, tys1, tys2, tys3, tys4, tys5, tys6, tys7, tys8, tys9, tys10, tys11, tys12, tys13, tys14, tys15, tys16, tys17, tys18, Try.ntmps83, Try.results83, f1, getB]
          refine RunL.give rfl rfl ok_f83 rfl rfl hrec ⟨_, _, _, _, rfl⟩ (.cons (VwF.agg (.cons (VwF_ints rfl rfl) .nil)) (.cons (.pur rfl) (.cons (.pur (by simp only [pureB, pureL, elems_pure, Bool.and_self])) .nil))) rfl ?_
          simp only [run0, run1, run2, run3, run4, run5, run6, run7, run8, run9, run10, run11, run12, run13, run14, run15, run16, run17, run18, run19, run20, run21, run22, reduceCtorEq, Nat.reduceEqDiff, Nat.reduceAdd, Nat.reduceSub, Nat.reduceLeDiff, indexAddrA, indexRefA, appendA, strA, Nat.reduceMul, Nat.zero_mul, Nat.reduceMod, Int.reduceEq, Int.reduceLT, Int.reduceLE, Nat.reduceLT, Nat.lt_irrefl, Nat.reduceBEq, tys0, tys1, tys2, tys3, tys4, tys5, tys6, tys7, tys8, tys9, tys10, tys11, tys12, tys13, tys14, tys15, tys16, tys17, tys18, Try.ntmps83, Try.results83, f1, f2, getB, setT, getT]
          exact ⟨⟨k, Q2, .sl false (ints Q2), .dead, Y ++ [.box 60 [.sl false (ints Q2)]]⟩, ⟨.inr rfl, hQ2, by simp only; omega, h4⟩, by simp, by repeat constructor, rfl⟩
        · simp only [run0, run1, run2, run3, run4, run5, run6, run7, run8, run9, run10, run11, run12, run13, run14, run15, run16, run17, run18, run19, run20, run21, run22, reduceCtorEq, Nat.reduceEqDiff, Nat.reduceAdd, Nat.reduceSub, Nat.reduceLeDiff, indexAddrA, indexRefA, appendA, strA, Nat.reduceMul, Nat.zero_mul, Nat.reduceMod, Int.reduceEq, Int.reduceLT, Int.reduceLE, Nat.reduceLT, Nat.lt_irrefl, Nat.reduceBEq, tys0, tys1, tys2, tys3, tys4, tys5, tys6, tys7, tys8, tys9, tys10, tys11, tys12, tys13, tys14, tys15, tys16, tys17, tys18, Try.ntmps83, Try.results83, f1, getB]
          refine RunL.callp rfl rfl ok_f83 hrec (by simp only [pureL, pureB, ints_pure, elems_pure, Bool.and_self, Bool.and_true, Bool.true_and]) rfl ?_
          simp only [run0, run1, run2, run3, run4, run5, run6, run7, run8, run9, run10, run11, run12, run13, run14, run15, run16, run17, run18, run19, run20, run21, run22, reduceCtorEq, Nat.reduceEqDiff, Nat.reduceAdd, Nat.reduceSub, Nat.reduceLeDiff, indexAddrA, indexRefA, appendA, strA, Nat.reduceMul, Nat.zero_mul, Nat.reduceMod, Int.reduceEq, Int.reduceLT, Int.reduceLE, Nat.reduceLT, Nat.lt_irrefl, Nat.reduceBEq, tys0, tys1, tys2, tys3, tys4, tys5, tys6, tys7, tys8, tys9, tys10, tys11, tys12, tys13, tys14, tys15, tys16, tys17, tys18, Try.ntmps83, Try.results83, f1, f2, getB, setT, getT]
          exact ⟨⟨k, Q2, .sl false (ints Q2), o, Y ++ [.box 60 [.sl false (ints Q2)]]⟩, ⟨.inr rfl, hQ2, by simp only; omega, h4⟩, by simp, by repeat constructor, rfl⟩
termination_by t.sz

end Go.Proofs.Ytphmkhaboghagaa
/-
  Hydras of ordinals: trees with a bound, and their lists of parents (plain law).
-/
namespace Go.Proofs.Ytphmkhaboghagaa
open Go K Od
set_option linter.unusedSimpArgs false
set_option linter.unusedVariables false
set_option maxHeartbeats 1600000
set_option maxRecDepth 8000

/-- Trees, at most so many nodes. -/
def gK (f : Nat → Option (Fo × Nat)) : Nat → Nat → Option (Fo × Nat)
  | 0, n => some (.nil, n)
  | k + 1, n => (f n).bind fun q => (gK f k q.2).map fun p => (.cons 0 q.1 p.1, p.2)
def gL : Od → Nat → Option (Fo × Nat)
  | .nil, n => some (.nil, n)
  | .cons e k r, n => (gK (fun m => if m = 0 then none else gL e (m - 1)) k.toNat n).bind fun q => (gL r q.2).map fun p => (q.1.app p.1, p.2)
def gN (t : Od) (m : Nat) : Option (Fo × Nat) := if m = 0 then none else gL t (m - 1)
theorem gL_cons (e r : Od) (k : Int) (n : Nat) : gL (.cons e k r) n = (gK (gN e) k.toNat n).bind fun q => (gL r q.2).map fun p => (q.1.app p.1, p.2) := rfl
/-- The list of parents of a tree. -/
def flatL : Nat → Fo → List Int → Bool × List Int
  | _, .nil, P => (true, P)
  | n, .cons _ ch r, P =>
    match (if 40 ≤ P.length then (false, P ++ [(n : Int)]) else flatL P.length ch (P ++ [(n : Int)])) with
    | (true, Q) => flatL n r Q
    | (false, Q) => (false, Q)
def flat1 (at_ : Int) (ch : Fo) (P : List Int) : Bool × List Int := if 40 ≤ P.length then (false, P ++ [at_]) else flatL P.length ch (P ++ [at_])
theorem flatL_cons (n : Nat) (z : Int) (ch r : Fo) (P : List Int) : flatL n (.cons z ch r) P = match flat1 n ch P with | (true, Q) => flatL n r Q | (false, Q) => (false, Q) := rfl
theorem flatL_app : ∀ (a b : Fo) (n : Nat) (P Q : List Int), flatL n a P = (true, Q) → flatL n (a.app b) P = flatL n b Q
  | .nil, b, n, P, Q, h => by simp only [flatL, Prod.mk.injEq, true_and] at h; subst h; rfl
  | .cons z ch r, b, n, P, Q, h => by
    rw [flatL_cons] at h
    show flatL n (.cons z ch (r.app b)) P = _
    rw [flatL_cons]
    cases hf : flat1 n ch P with
    | mk o Q1 =>
      rw [hf] at h
      cases o with
      | false => simp at h
      | true => simp only at h ⊢; exact flatL_app r b n Q1 Q h
/-- Both ways to grow agree. -/
def Agr2 (g : Option (List Int)) (m : Option (Fo × Nat)) (fl : Fo → Bool × List Int) : Prop :=
  match m with
  | none => g = none
  | some (F, b) => ∃ Q, g = some Q ∧ fl F = (true, Q) ∧ b + Q.length = 40
theorem agr_K {f : List Int → Option (List Int)} {g : Nat → Option (Fo × Nat)} {n : Nat} (h : ∀ P b, b + P.length = 40 → Agr2 (f P) (g b) fun ch => flat1 n ch P) :
    ∀ (k : Nat) (P : List Int) (b : Nat), b + P.length = 40 → Agr2 (growK f k P) (gK g k b) fun F => flatL n F P
  | 0, P, b, hb => ⟨P, rfl, rfl, hb⟩
  | k + 1, P, b, hb => by
    have h1 := h P b hb
    show Agr2 ((f P).bind (growK f k)) ((g b).bind fun q => (gK g k q.2).map fun p => (.cons 0 q.1 p.1, p.2)) _
    cases hg : g b with
    | none => rw [hg] at h1; rw [show f P = none from h1]; rfl
    | some q =>
      obtain ⟨ch, b2⟩ := q
      rw [hg] at h1
      obtain ⟨Q, e1, e2, e3⟩ := h1
      rw [e1]
      have h2 := agr_K h k Q b2 e3
      show Agr2 (growK f k Q) ((gK g k b2).map fun p => (.cons 0 ch p.1, p.2)) _
      cases hg2 : gK g k b2 with
      | none => rw [hg2] at h2; exact h2
      | some p =>
        obtain ⟨F, b3⟩ := p
        rw [hg2] at h2
        obtain ⟨Q2, q1, q2, q3⟩ := h2
        refine ⟨Q2, q1, ?_, q3⟩
        show flatL n (.cons 0 ch F) P = _
        rw [flatL_cons, show flat1 n ch P = (true, Q) from e2]
        exact q2
theorem agr_N {t : Od} (h : ∀ (n : Nat) (P : List Int) (b : Nat), b + P.length = 40 → Agr2 (growL n t P) (gL t b) fun F => flatL n F P) (at_ : Int) (P : List Int) (b : Nat) (hb : b + P.length = 40) : Agr2 (growT at_ t P) (gN t b) fun ch => flat1 at_ ch P := by
  unfold growT gN
  by_cases h0 : b = 0
  · rw [if_pos h0, if_pos (by omega)]; rfl
  · have h2 := h P.length (P ++ [at_]) (b - 1) (by simp; omega)
    rw [if_neg h0, if_neg (by omega)]
    cases hg : gL t (b - 1) with
    | none => rw [hg] at h2; exact h2
    | some p =>
      obtain ⟨F, b3⟩ := p
      rw [hg] at h2
      obtain ⟨Q2, q1, q2, q3⟩ := h2
      exact ⟨Q2, q1, (if_neg (by omega)).trans q2, q3⟩
theorem agr_L : ∀ (t : Od) (n : Nat) (P : List Int) (b : Nat), b + P.length = 40 → Agr2 (growL n t P) (gL t b) fun F => flatL n F P
  | .nil, n, P, b, hb => ⟨P, rfl, rfl, hb⟩
  | .cons e k r, n, P, b, hb => by
    have h1 := agr_K (n := n) (fun Q c hc => agr_N (fun m Q c hc => agr_L e m Q c hc) n Q c hc) k.toNat P b hb
    rw [growL_cons, gL_cons]
    cases hg : gK (gN e) k.toNat b with
    | none => rw [hg] at h1; rw [show growK (growT n e) k.toNat P = none from h1]; rfl
    | some q =>
      obtain ⟨F, b2⟩ := q
      rw [hg] at h1
      obtain ⟨Q, e1, e2, e3⟩ := h1
      rw [e1]
      have h2 := agr_L r n Q b2 e3
      show Agr2 (growL n r Q) ((gL r b2).map fun p => (F.app p.1, p.2)) _
      cases hg2 : gL r b2 with
      | none => rw [hg2] at h2; exact h2
      | some p =>
        obtain ⟨G, b3⟩ := p
        rw [hg2] at h2
        obtain ⟨Q2, q1, q2, q3⟩ := h2
        exact ⟨Q2, q1, (flatL_app F G n P Q e2).trans q2, q3⟩
theorem agr_0 (t : Od) : Agr2 (growT (-1) t []) (gN t 40) fun ch => flat1 (-1) ch [] := agr_N (fun n P b hb => agr_L t n P b hb) (-1) [] 40 (by simp)

end Go.Proofs.Ytphmkhaboghagaa
/-
  Hydras of ordinals: a tree's list of parents (impl.hydraOf, its closure).
-/
namespace Go.Proofs.Ytphmkhaboghagaa
open Go K Od
set_option linter.unusedSimpArgs false
set_option linter.unusedVariables false
set_option maxHeartbeats 3200000
set_option maxRecDepth 8000

def hyFn : AV := .fn 116 [.ptr 1 0, .ptr 2 0]
def hyL (P : List Int) : List AObj := [.box 60 [nilV], .box 60 [.ref 3 [] P.length P.length], .box 134 [hyFn], .vec 3 1 P.length (ints P)]
def hyL0 : List AObj := [.box 60 [nilV], .box 60 [nilV], .box 134 [hyFn]]
mutual
theorem flatL_len : ∀ (F : Fo) (n : Nat) (P Q : List Int), P.length ≤ 40 → flatL n F P = (true, Q) → Q.length ≤ 40
  | .nil, n, P, Q, h, e => by simp only [flatL, Prod.mk.injEq, true_and] at e; subst e; exact h
  | .cons z ch r, n, P, Q, h, e => by
    rw [flatL_cons] at e
    cases hf : flat1 n ch P with
    | mk o Q1 =>
      rw [hf] at e
      cases o with
      | false => simp at e
      | true => exact flatL_len r n Q1 Q (flat1_len ch n P Q1 h hf) e
theorem flat1_len : ∀ (ch : Fo) (at_ : Int) (P Q : List Int), P.length ≤ 40 → flat1 at_ ch P = (true, Q) → Q.length ≤ 40
  | ch, at_, P, Q, h, e => by
    unfold flat1 at e
    split at e
    · simp at e
    · exact flatL_len ch _ _ Q (by simp; omega) e
end

theorem t134 : (Try.prog.underlying 134).isSome = true ∧ (Try.prog.info? 134).isSome = true ∧ aggT Try.prog 134 = false := ⟨by kernel_rfl, by kernel_rfl, by kernel_rfl⟩
structure HyS where
  d : Fo
  r : Fo
  Q : List Int
theorem hyNode_ok (ch : Fo) (P : List Int) (at_ z : Int) (hP : P.length ≤ 40) (hs : ch.sz ≤ 1000) :
    Ct Try.prog 116 [.rptr (.agg [.int .i64 z, .sl false (Fo.els ch)]) 0, .int .i64 at_, .ptr 1 0, .ptr 2 0] (hyL P) (.bool (flat1 at_ ch P).1) (hyL (flat1 at_ ch P).2) := by
  have f3 : P.length + 1 ≤ 137438953472 := by omega
  have hno := ints_noOwn P
  have hcl := len_sz ch
  refine Ct.by_ hmix [] Try.func116 rfl ?_
  by_cases h40 : 40 ≤ P.length
  · have e1 : (40 : Int) ≤ (P.length : Int) := by omega
    have hf : flat1 at_ ch P = (false, P ++ [at_]) := if_pos h40
    rw [hf]
    simp only [run0, run1, run2, run3, run4, run5, run6, run7, run8, run9, run10, run11, run12, run13, run14, run15, run16, run17, run18, run19, run20, run21, run22, reduceCtorEq, Nat.reduceEqDiff, Nat.reduceAdd, Nat.reduceSub, Nat.reduceLeDiff, indexAddrA, indexRefA, appendA, strA, Nat.reduceMul, Nat.zero_mul, Nat.reduceMod, Int.reduceEq, Int.reduceLT, Int.reduceLE, Nat.reduceLT, Nat.lt_irrefl, Nat.reduceBEq, tys0, tys1, tys2, tys3, tys4, tys5, tys6, tys7, tys8, tys9, tys10, tys11, tys12, tys13, tys14, tys15, tys16, tys17, tys18, Try.ntmps116, Try.results116, hyL, f3, hno, e1, List.length_map]
    exact Fin.own (by simp) rfl
  have e1 : ¬ (40 : Int) ≤ (P.length : Int) := by omega
  have hf : flat1 at_ ch P = flatL P.length ch (P ++ [at_]) := if_neg h40
  rw [hf]
  simp only [run0, run1, run2, run3, run4, run5, run6, run7, run8, run9, run10, run11, run12, run13, run14, run15, run16, run17, run18, run19, run20, run21, run22, reduceCtorEq, Nat.reduceEqDiff, Nat.reduceAdd, Nat.reduceSub, Nat.reduceLeDiff, indexAddrA, indexRefA, appendA, strA, Nat.reduceMul, Nat.zero_mul, Nat.reduceMod, Int.reduceEq, Int.reduceLT, Int.reduceLE, Nat.reduceLT, Nat.lt_irrefl, Nat.reduceBEq, tys0, tys1, tys2, tys3, tys4, tys5, tys6, tys7, tys8, tys9, tys10, tys11, tys12, tys13, tys14, tys15, tys16, tys17, tys18, Try.ntmps116, Try.results116, hyL, f3, hno, e1, List.length_map, Fo.els_length]
  refine AWp.loop_inv (ι := HyS) (fun p => ⟨[.junk, .junk, .ptr 1 0, .ptr 2 0, .junk, .junk, .bool false, .int .i64 ((P.length : Nat) : Int), .junk, .junk, .junk, .junk, .junk, .junk, .junk, .junk, .junk, .junk, .junk, .junk, .junk, .junk, .junk, .junk, .sl false (Fo.els ch), .int .i64 ch.len, .int .i64 p.d.len, .junk, .junk, .junk, .junk, .junk, .junk, .junk, .junk, .junk], hyL p.Q⟩)
    (fun p => ch = p.d.app p.r ∧ p.Q.length ≤ 40 ∧ flatL P.length p.r p.Q = flatL P.length ch (P ++ [at_])) (fun p => p.r.len) ⟨.nil, ch, (P ++ [at_])⟩ ⟨rfl, by simp; try omega, rfl⟩ ⟨by simp only [Fo.len, Int.natCast_zero]; repeat constructor, by simp [hyL, nilV]⟩ ?_
  rintro ⟨d, r, Q⟩ ⟨ha, hQ, h4⟩
  refine W.sound hmix (E := []) ?_
  simp only at ha hQ h4
  obtain ⟨hl, hz⟩ := fo_split ch d r ha
  rw [← h4]
  cases r with
  | nil =>
    have g1 : ¬ ((d.len : Int) < (ch.len : Int)) := by simp [Fo.len] at hl; omega
    simp only [run0, run1, run2, run3, run4, run5, run6, run7, run8, run9, run10, run11, run12, run13, run14, run15, run16, run17, run18, run19, run20, run21, run22, reduceCtorEq, Nat.reduceEqDiff, Nat.reduceAdd, Nat.reduceSub, Nat.reduceLeDiff, indexAddrA, indexRefA, appendA, strA, Nat.reduceMul, Nat.zero_mul, Nat.reduceMod, Int.reduceEq, Int.reduceLT, Int.reduceLE, Nat.reduceLT, Nat.lt_irrefl, Nat.reduceBEq, tys0, tys1, tys2, tys3, tys4, tys5, tys6, tys7, tys8, tys9, tys10, tys11, tys12, tys13, tys14, tys15, tys16, tys17, tys18, Try.ntmps116, Try.results116, hyL, g1]
    exact Fin.own rfl rfl
  | cons k c2 r =>
    simp only [Fo.len, Fo.sz] at hl hz
    have g1 : (d.len : Int) < (ch.len : Int) := by omega
    have g2 : (Fo.els ch)[d.len]? = some (.rptr (.agg [.int .i64 k, .sl false (Fo.els c2)]) 0) := by rw [ha]; exact els_at d k c2 r
    have g5 : IntKind.i64.wrap ((d.len : Int) + 1) = ((d.app (.cons k c2 .nil)).len : Int) := by
      rw [i64_id (by omega) (by omega), Fo.len_app]; rfl
    have hrec := hyNode_ok c2 Q ((P.length : Nat) : Int) k hQ (by omega)
    rw [flatL_cons] at h4 ⊢
    cases hf : flat1 ((P.length : Nat) : Int) c2 Q with
    | mk o Q2 =>
      rw [hf] at h4 hrec
      simp only [hyL, hyFn] at hrec
      cases o with
      | false =>
        simp only [run0, run1, run2, run3, run4, run5, run6, run7, run8, run9, run10, run11, run12, run13, run14, run15, run16, run17, run18, run19, run20, run21, run22, reduceCtorEq, Nat.reduceEqDiff, Nat.reduceAdd, Nat.reduceSub, Nat.reduceLeDiff, indexAddrA, indexRefA, appendA, strA, Nat.reduceMul, Nat.zero_mul, Nat.reduceMod, Int.reduceEq, Int.reduceLT, Int.reduceLE, Nat.reduceLT, Nat.lt_irrefl, Nat.reduceBEq, tys0, tys1, tys2, tys3, tys4, tys5, tys6, tys7, tys8, tys9, tys10, tys11, tys12, tys13, tys14, tys15, tys16, tys17, tys18, Try.ntmps116, Try.results116, hyL, hyFn, t134, g1, g2, Int.toNat_natCast, Int.natCast_nonneg]
        refine RunL.callc rfl rfl rfl rfl ok_f116 rfl (.inl rfl) hrec ?_
        simp only [run0, run1, run2, run3, run4, run5, run6, run7, run8, run9, run10, run11, run12, run13, run14, run15, run16, run17, run18, run19, run20, run21, run22, reduceCtorEq, Nat.reduceEqDiff, Nat.reduceAdd, Nat.reduceSub, Nat.reduceLeDiff, indexAddrA, indexRefA, appendA, strA, Nat.reduceMul, Nat.zero_mul, Nat.reduceMod, Int.reduceEq, Int.reduceLT, Int.reduceLE, Nat.reduceLT, Nat.lt_irrefl, Nat.reduceBEq, tys0, tys1, tys2, tys3, tys4, tys5, tys6, tys7, tys8, tys9, tys10, tys11, tys12, tys13, tys14, tys15, tys16, tys17, tys18, Try.ntmps116, Try.results116, hyL]
        exact Fin.own rfl rfl
      | true =>
        have hQ2 := flat1_len _ _ _ _ hQ hf
        simp only [run0, run1, run2, run3, run4, run5, run6, run7, run8, run9, run10, run11, run12, run13, run14, run15, run16, run17, run18, run19, run20, run21, run22, reduceCtorEq, Nat.reduceEqDiff, Nat.reduceAdd, Nat.reduceSub, Nat.reduceLeDiff, indexAddrA, indexRefA, appendA, strA, Nat.reduceMul, Nat.zero_mul, Nat.reduceMod, Int.reduceEq, Int.reduceLT, Int.reduceLE, Nat.reduceLT, Nat.lt_irrefl, Nat.reduceBEq, tys0, tys1, tys2, tys3, tys4, tys5, tys6, tys7, tys8, tys9, tys10, tys11, tys12, tys13, tys14, tys15, tys16, tys17, tys18, Try.ntmps116, Try.results116, hyL, hyFn, t134, g1, g2, Int.toNat_natCast, Int.natCast_nonneg]
        refine RunL.callc rfl rfl rfl rfl ok_f116 rfl (.inl rfl) hrec ?_
        simp only [run0, run1, run2, run3, run4, run5, run6, run7, run8, run9, run10, run11, run12, run13, run14, run15, run16, run17, run18, run19, run20, run21, run22, reduceCtorEq, Nat.reduceEqDiff, Nat.reduceAdd, Nat.reduceSub, Nat.reduceLeDiff, indexAddrA, indexRefA, appendA, strA, Nat.reduceMul, Nat.zero_mul, Nat.reduceMod, Int.reduceEq, Int.reduceLT, Int.reduceLE, Nat.reduceLT, Nat.lt_irrefl, Nat.reduceBEq, tys0, tys1, tys2, tys3, tys4, tys5, tys6, tys7, tys8, tys9, tys10, tys11, tys12, tys13, tys14, tys15, tys16, tys17, tys18, Try.ntmps116, Try.results116, hyL, g5]
        refine ⟨⟨d.app (.cons k c2 .nil), r, Q2⟩, ⟨by rw [ha, Fo.app_assoc]; rfl, hQ2, rfl⟩, by simp [Fo.len], by repeat constructor, rfl⟩
termination_by ch.sz
decreasing_by all_goals (subst ha; simp only [Fo.sz_app, Fo.sz]; omega)

theorem hyRoot_ok (ch : Fo) (at_ z : Int) (hs : ch.sz ≤ 1000) :
    Ct Try.prog 116 [.rptr (.agg [.int .i64 z, .sl false (Fo.els ch)]) 0, .int .i64 at_, .ptr 1 0, .ptr 2 0] hyL0 (.bool (flat1 at_ ch []).1) (hyL (flat1 at_ ch []).2) := by
  have hcl := len_sz ch
  refine Ct.by_ hmix [] Try.func116 rfl ?_
  have hf : flat1 at_ ch [] = flatL 0 ch [at_] := rfl
  rw [hf]
  simp only [run0, run1, run2, run3, run4, run5, run6, run7, run8, run9, run10, run11, run12, run13, run14, run15, run16, run17, run18, run19, run20, run21, run22, reduceCtorEq, Nat.reduceEqDiff, Nat.reduceAdd, Nat.reduceSub, Nat.reduceLeDiff, indexAddrA, indexRefA, appendA, strA, Nat.reduceMul, Nat.zero_mul, Nat.reduceMod, Int.reduceEq, Int.reduceLT, Int.reduceLE, Nat.reduceLT, Nat.lt_irrefl, Nat.reduceBEq, tys0, tys1, tys2, tys3, tys4, tys5, tys6, tys7, tys8, tys9, tys10, tys11, tys12, tys13, tys14, tys15, tys16, tys17, tys18, Try.ntmps116, Try.results116, hyL0, nilV, Fo.els_length]
  refine AWp.loop_inv (ι := HyS) (fun p => ⟨[.junk, .junk, .ptr 1 0, .ptr 2 0, .junk, .junk, .bool false, .int .i64 ((0 : Nat) : Int), .junk, .junk, .junk, .junk, .junk, .junk, .junk, .junk, .junk, .junk, .junk, .junk, .junk, .junk, .junk, .junk, .sl false (Fo.els ch), .int .i64 ch.len, .int .i64 p.d.len, .junk, .junk, .junk, .junk, .junk, .junk, .junk, .junk, .junk], hyL p.Q⟩)
    (fun p => ch = p.d.app p.r ∧ p.Q.length ≤ 40 ∧ flatL 0 p.r p.Q = flatL 0 ch [at_]) (fun p => p.r.len) ⟨.nil, ch, [at_]⟩ ⟨rfl, by simp; try omega, rfl⟩ ⟨by simp only [Fo.len, Int.natCast_zero]; repeat constructor, by simp [hyL, nilV]⟩ ?_
  rintro ⟨d, r, Q⟩ ⟨ha, hQ, h4⟩
  refine W.sound hmix (E := []) ?_
  simp only at ha hQ h4
  obtain ⟨hl, hz⟩ := fo_split ch d r ha
  rw [← h4]
  cases r with
  | nil =>
    have g1 : ¬ ((d.len : Int) < (ch.len : Int)) := by simp [Fo.len] at hl; omega
    simp only [run0, run1, run2, run3, run4, run5, run6, run7, run8, run9, run10, run11, run12, run13, run14, run15, run16, run17, run18, run19, run20, run21, run22, reduceCtorEq, Nat.reduceEqDiff, Nat.reduceAdd, Nat.reduceSub, Nat.reduceLeDiff, indexAddrA, indexRefA, appendA, strA, Nat.reduceMul, Nat.zero_mul, Nat.reduceMod, Int.reduceEq, Int.reduceLT, Int.reduceLE, Nat.reduceLT, Nat.lt_irrefl, Nat.reduceBEq, tys0, tys1, tys2, tys3, tys4, tys5, tys6, tys7, tys8, tys9, tys10, tys11, tys12, tys13, tys14, tys15, tys16, tys17, tys18, Try.ntmps116, Try.results116, hyL, g1]
    exact Fin.own rfl rfl
  | cons k c2 r =>
    simp only [Fo.len, Fo.sz] at hl hz
    have g1 : (d.len : Int) < (ch.len : Int) := by omega
    have g2 : (Fo.els ch)[d.len]? = some (.rptr (.agg [.int .i64 k, .sl false (Fo.els c2)]) 0) := by rw [ha]; exact els_at d k c2 r
    have g5 : IntKind.i64.wrap ((d.len : Int) + 1) = ((d.app (.cons k c2 .nil)).len : Int) := by
      rw [i64_id (by omega) (by omega), Fo.len_app]; rfl
    have hrec := hyNode_ok c2 Q ((0 : Nat) : Int) k hQ (by omega)
    rw [flatL_cons] at h4 ⊢
    cases hf : flat1 ((0 : Nat) : Int) c2 Q with
    | mk o Q2 =>
      rw [hf] at h4 hrec
      simp only [hyL, hyFn] at hrec
      cases o with
      | false =>
        simp only [run0, run1, run2, run3, run4, run5, run6, run7, run8, run9, run10, run11, run12, run13, run14, run15, run16, run17, run18, run19, run20, run21, run22, reduceCtorEq, Nat.reduceEqDiff, Nat.reduceAdd, Nat.reduceSub, Nat.reduceLeDiff, indexAddrA, indexRefA, appendA, strA, Nat.reduceMul, Nat.zero_mul, Nat.reduceMod, Int.reduceEq, Int.reduceLT, Int.reduceLE, Nat.reduceLT, Nat.lt_irrefl, Nat.reduceBEq, tys0, tys1, tys2, tys3, tys4, tys5, tys6, tys7, tys8, tys9, tys10, tys11, tys12, tys13, tys14, tys15, tys16, tys17, tys18, Try.ntmps116, Try.results116, hyL, hyFn, t134, g1, g2, Int.toNat_natCast, Int.natCast_nonneg]
        refine RunL.callc rfl rfl rfl rfl ok_f116 rfl (.inl rfl) hrec ?_
        simp only [run0, run1, run2, run3, run4, run5, run6, run7, run8, run9, run10, run11, run12, run13, run14, run15, run16, run17, run18, run19, run20, run21, run22, reduceCtorEq, Nat.reduceEqDiff, Nat.reduceAdd, Nat.reduceSub, Nat.reduceLeDiff, indexAddrA, indexRefA, appendA, strA, Nat.reduceMul, Nat.zero_mul, Nat.reduceMod, Int.reduceEq, Int.reduceLT, Int.reduceLE, Nat.reduceLT, Nat.lt_irrefl, Nat.reduceBEq, tys0, tys1, tys2, tys3, tys4, tys5, tys6, tys7, tys8, tys9, tys10, tys11, tys12, tys13, tys14, tys15, tys16, tys17, tys18, Try.ntmps116, Try.results116, hyL]
        exact Fin.own rfl rfl
      | true =>
        have hQ2 := flat1_len _ _ _ _ hQ hf
        simp only [run0, run1, run2, run3, run4, run5, run6, run7, run8, run9, run10, run11, run12, run13, run14, run15, run16, run17, run18, run19, run20, run21, run22, reduceCtorEq, Nat.reduceEqDiff, Nat.reduceAdd, Nat.reduceSub, Nat.reduceLeDiff, indexAddrA, indexRefA, appendA, strA, Nat.reduceMul, Nat.zero_mul, Nat.reduceMod, Int.reduceEq, Int.reduceLT, Int.reduceLE, Nat.reduceLT, Nat.lt_irrefl, Nat.reduceBEq, tys0, tys1, tys2, tys3, tys4, tys5, tys6, tys7, tys8, tys9, tys10, tys11, tys12, tys13, tys14, tys15, tys16, tys17, tys18, Try.ntmps116, Try.results116, hyL, hyFn, t134, g1, g2, Int.toNat_natCast, Int.natCast_nonneg]
        refine RunL.callc rfl rfl rfl rfl ok_f116 rfl (.inl rfl) hrec ?_
        simp only [run0, run1, run2, run3, run4, run5, run6, run7, run8, run9, run10, run11, run12, run13, run14, run15, run16, run17, run18, run19, run20, run21, run22, reduceCtorEq, Nat.reduceEqDiff, Nat.reduceAdd, Nat.reduceSub, Nat.reduceLeDiff, indexAddrA, indexRefA, appendA, strA, Nat.reduceMul, Nat.zero_mul, Nat.reduceMod, Int.reduceEq, Int.reduceLT, Int.reduceLE, Nat.reduceLT, Nat.lt_irrefl, Nat.reduceBEq, tys0, tys1, tys2, tys3, tys4, tys5, tys6, tys7, tys8, tys9, tys10, tys11, tys12, tys13, tys14, tys15, tys16, tys17, tys18, Try.ntmps116, Try.results116, hyL, g5]
        refine ⟨⟨d.app (.cons k c2 .nil), r, Q2⟩, ⟨by rw [ha, Fo.app_assoc]; rfl, hQ2, rfl⟩, by simp [Fo.len], by repeat constructor, rfl⟩

end Go.Proofs.Ytphmkhaboghagaa
/-
  Hydras of ordinals: impl.hydraOf.
-/
namespace Go.Proofs.Ytphmkhaboghagaa
open Go K Od
set_option linter.unusedSimpArgs false
set_option linter.unusedVariables false
set_option maxHeartbeats 3200000
set_option maxRecDepth 8000

theorem z134 : zeroOf Try.prog 134 = some .nilFunc := by kernel_rfl
theorem c134 : Try.prog.cellsOf 134 = 1 := by kernel_rfl
def optF (x : Bool × List Int) : Option (List Int) := if x.1 then some x.2 else none
theorem hydraOf_ok (ch : Fo) (z : Int) (hs : ch.sz ≤ 1000) : Ct Try.prog 85 [.rptr (.agg [.int .i64 z, .sl false (Fo.els ch)]) 0] [] (rI (optF (flat1 (-1) ch []))) (mI (optF (flat1 (-1) ch []))) := by
  have hr := hyRoot_ok ch (-1) z hs
  simp only [hyL0, nilV, hyFn] at hr
  refine Ct.by_ hmix [] Try.func85 rfl ?_
  simp only [run0, run1, run2, run3, run4, run5, run6, run7, run8, run9, run10, run11, run12, run13, run14, run15, run16, run17, run18, run19, run20, run21, run22, reduceCtorEq, Nat.reduceEqDiff, Nat.reduceAdd, Nat.reduceSub, Nat.reduceLeDiff, indexAddrA, indexRefA, appendA, strA, Nat.reduceMul, Nat.zero_mul, Nat.reduceMod, Int.reduceEq, Int.reduceLT, Int.reduceLE, Nat.reduceLT, Nat.lt_irrefl, Nat.reduceBEq, tys0, tys1, tys2, tys3, tys4, tys5, tys6, tys7, tys8, tys9, tys10, tys11, tys12, tys13, tys14, tys15, tys16, tys17, tys18, Try.ntmps85, Try.results85, t134, z134, c134]
  refine RunL.callc rfl rfl rfl rfl ok_f116 rfl (.inl rfl) hr ?_
  cases hf : flat1 (-1) ch [] with
  | mk o Q =>
    cases o with
    | false =>
      simp only [run0, run1, run2, run3, run4, run5, run6, run7, run8, run9, run10, run11, run12, run13, run14, run15, run16, run17, run18, run19, run20, run21, run22, reduceCtorEq, Nat.reduceEqDiff, Nat.reduceAdd, Nat.reduceSub, Nat.reduceLeDiff, indexAddrA, indexRefA, appendA, strA, Nat.reduceMul, Nat.zero_mul, Nat.reduceMod, Int.reduceEq, Int.reduceLT, Int.reduceLE, Nat.reduceLT, Nat.lt_irrefl, Nat.reduceBEq, tys0, tys1, tys2, tys3, tys4, tys5, tys6, tys7, tys8, tys9, tys10, tys11, tys12, tys13, tys14, tys15, tys16, tys17, tys18, Try.ntmps85, Try.results85, hyL]
      exact fail_fin rfl
    | true =>
      simp only [run0, run1, run2, run3, run4, run5, run6, run7, run8, run9, run10, run11, run12, run13, run14, run15, run16, run17, run18, run19, run20, run21, run22, reduceCtorEq, Nat.reduceEqDiff, Nat.reduceAdd, Nat.reduceSub, Nat.reduceLeDiff, indexAddrA, indexRefA, appendA, strA, Nat.reduceMul, Nat.zero_mul, Nat.reduceMod, Int.reduceEq, Int.reduceLT, Int.reduceLE, Nat.reduceLT, Nat.lt_irrefl, Nat.reduceBEq, tys0, tys1, tys2, tys3, tys4, tys5, tys6, tys7, tys8, tys9, tys10, tys11, tys12, tys13, tys14, tys15, tys16, tys17, tys18, Try.ntmps85, Try.results85, hyL, nilV]
      have := Fin.keep (L1 := [.box 60 [.ref 3 [] Q.length Q.length], .box 60 [.ref 3 [] Q.length Q.length], .box 134 [hyFn], .vec 3 1 Q.length (ints Q)]) (r := rI (some Q)) [3] rfl rfl
      rw [keep3] at this
      exact this

end Go.Proofs.Ytphmkhaboghagaa
/-
  Hydras of ordinals: what impl.grown leaves (plain law).
-/
namespace Go.Proofs.Ytphmkhaboghagaa
open Go K Od
set_option linter.unusedSimpArgs false
set_option linter.unusedVariables false
set_option maxHeartbeats 1600000
set_option maxRecDepth 8000

def cntL (L : List AObj) (c : Nat) : Int := match L[c]? with | some (.box _ [.int _ n]) => n | _ => 0
/-- The node 'q' with one more child. -/
def hang (q id : Nat) (L : List AObj) : List AObj :=
  match L[q]? with
  | some (.box _ [_, .ref rid _ g n]) =>
    match L[rid]? with
    | some (.vec _ _ _ es) => (L.set rid (.vec 97 1 (g + 1) (es ++ [.ptr id 0]))).set q (.box 131 [.int .i64 0, .ref rid [] (g + 1) (n + 1)])
    | _ => L
  | _ => (L ++ [AObj.vec 97 1 1 [.ptr id 0]]).set q (.box 131 [.int .i64 0, .ref L.length [] 1 1])
def grK (f : List AObj → Option Nat × List AObj) (q : Nat) : Nat → List AObj → Bool × List AObj
  | 0, L => (true, L)
  | k + 1, L => match f L with | (some id, L2) => grK f q k (hang q id L2) | (none, L2) => (false, L2)
def tickL (c : Nat) (t : Od) (L : List AObj) : List AObj := (L ++ [AObj.box 24 [.sl false (elems t)]]).set c (.box 3 [.int .i64 (cntL L c - 1)])
def grL (c : Nat) : Nat → Od → List AObj → Bool × List AObj
  | _, .nil, L => (true, L)
  | q, .cons e k r, L =>
    match grK (fun L => if cntL L c - 1 < 0 then (none, tickL c e L) else
      match grL c (tickL c e L).length e (tickL c e L ++ [.box 131 [.int .i64 0, nilV]]) with
      | (true, L2) => (some (tickL c e L).length, L2)
      | (false, L2) => (none, L2)) q k.toNat (L ++ [AObj.box 88 [.sl false (elems e), .int .i64 k]]) with
    | (true, L2) => grL c q r L2
    | (false, L2) => (false, L2)
def grT (c : Nat) (t : Od) (L : List AObj) : Option Nat × List AObj :=
  if cntL L c - 1 < 0 then (none, tickL c t L) else
    match grL c (tickL c t L).length t (tickL c t L ++ [.box 131 [.int .i64 0, nilV]]) with
    | (true, L2) => (some (tickL c t L).length, L2)
    | (false, L2) => (none, L2)
theorem grL_cons (c q : Nat) (e r : Od) (k : Int) (L : List AObj) : grL c q (.cons e k r) L =
    match grK (grT c e) q k.toNat (L ++ [AObj.box 88 [.sl false (elems e), .int .i64 k]]) with
    | (true, L2) => grL c q r L2
    | (false, L2) => (false, L2) := rfl

/-! ### trees of own variables -/
/-- The nodes 'ids' with all that hangs at them, the objects of which are 'S'. -/
def OwnTs (L : List AObj) : Fo → List Nat → List Nat → Prop
  | .nil, ids, S => ids = [] ∧ S = []
  | .cons z ch r, ids, S => z = 0 ∧ ∃ id ids' cv S1 S2, ids = id :: ids' ∧ S = id :: (S1 ++ S2) ∧ L[id]? = some (.box 131 [.int .i64 0, cv]) ∧
      ((ch = .nil ∧ cv = nilV ∧ S1 = []) ∨ ∃ rid g ids1 S', cv = .ref rid [] g ids1.length ∧ L[rid]? = some (.vec 97 1 g (ptrs ids1)) ∧ S1 = rid :: S' ∧ OwnTs L ch ids1 S') ∧ OwnTs L r ids' S2
def OwnC (L : List AObj) (ch : Fo) (cv : AV) (S1 : List Nat) : Prop :=
  (ch = .nil ∧ cv = nilV ∧ S1 = []) ∨ ∃ rid g ids1 S', cv = .ref rid [] g ids1.length ∧ L[rid]? = some (.vec 97 1 g (ptrs ids1)) ∧ S1 = rid :: S' ∧ OwnTs L ch ids1 S'
theorem OwnTs.mono {L L' : List AObj} : ∀ {F : Fo} {ids S : List Nat}, OwnTs L F ids S → (∀ x ∈ S, L'[x]? = L[x]?) → OwnTs L' F ids S
  | .nil, _, _, h, _ => h
  | .cons z ch r, _, _, ⟨hz, id, ids', cv, S1, S2, h1, h2, h3, h4, h5⟩, hS => by
    subst h2
    refine ⟨hz, id, ids', cv, S1, S2, h1, rfl, by rw [hS id (by simp)]; exact h3, ?_, h5.mono fun x hx => hS x (by simp [hx])⟩
    rcases h4 with h4 | ⟨rid, g, ids1, S', e1, e2, e3, e4⟩
    · exact .inl h4
    · subst e3
      exact .inr ⟨rid, g, ids1, S', e1, by rw [hS rid (by simp)]; exact e2, rfl, e4.mono fun x hx => hS x (by simp [hx])⟩
theorem OwnC.mono {L L' : List AObj} {F : Fo} {cv : AV} {S : List Nat} (h : OwnC L F cv S) (hS : ∀ x ∈ S, L'[x]? = L[x]?) : OwnC L' F cv S := by
  rcases h with h4 | ⟨rid, g, ids1, S', e1, e2, e3, e4⟩
  · exact .inl h4
  · subst e3
    exact .inr ⟨rid, g, ids1, S', e1, by rw [hS rid (by simp)]; exact e2, rfl, e4.mono fun x hx => hS x (by simp [hx])⟩
theorem OwnTs.snoc {L : List AObj} {ch : Fo} {id : Nat} {cv : AV} {S1 : List Nat} (hid : L[id]? = some (.box 131 [.int .i64 0, cv])) (hc : OwnC L ch cv S1) : ∀ {F : Fo} {ids S : List Nat}, OwnTs L F ids S →
    OwnTs L (F.app (.cons 0 ch .nil)) (ids ++ [id]) (S ++ id :: S1)
  | .nil, _, _, ⟨h1, h2⟩ => by subst h1 h2; exact ⟨rfl, id, [], cv, S1, [], rfl, by simp, hid, hc, rfl, rfl⟩
  | .cons z c2 r, _, _, ⟨hz, id2, ids', cv2, T1, T2, h1, h2, h3, h4, h5⟩ => by
    subst h1 h2
    exact ⟨hz, id2, ids' ++ [id], cv2, T1, T2 ++ id :: S1, rfl, by simp, h3, h4, h5.snoc hid hc⟩
theorem OwnTs.len {L : List AObj} : ∀ {F : Fo} {ids S : List Nat}, OwnTs L F ids S → ids.length = F.len
  | .nil, _, _, ⟨h1, _⟩ => by subst h1; rfl
  | .cons z c2 r, _, _, ⟨hz, id2, ids', cv2, T1, T2, h1, h2, h3, h4, h5⟩ => by subst h1; simp [Fo.len, h5.len]

theorem els_rptr : ∀ {F : Fo} {i : Nat} {y : AV}, (Fo.els F)[i]? = some y → ∃ x, y = .rptr x 0
  | .nil, i, y, h => by simp [Fo.els] at h
  | .cons z ch r, 0, y, h => by simp [Fo.els] at h; exact ⟨_, h.symm⟩
  | .cons z ch r, i + 1, y, h => by simp only [Fo.els, List.getElem?_cons_succ] at h; exact els_rptr h
/-- What a built tree is as a value. -/
theorem OwnTs.view {L : List AObj} : ∀ {F : Fo} {ids S : List Nat}, OwnTs L F ids S → ∀ (i : Nat) e y, (ptrs ids)[i]? = some e → (Fo.els F)[i]? = some y → Vw L e y
  | .nil, _, _, ⟨h1, _⟩, i, e, y, he, hy => by subst h1; simp [ptrs] at he
  | .cons z ch r, _, _, ⟨hz, id, ids', cv, S1, S2, h1, h2, h3, h4, h5⟩, i, e, y, he, hy => by
    subst h1 hz
    cases i with
    | succ i =>
      simp only [ptrs, List.map_cons, List.getElem?_cons_succ, Fo.els] at he hy
      exact h5.view i e y he hy
    | zero =>
      simp only [ptrs, List.map_cons, List.getElem?_cons_zero, Fo.els, Option.some.injEq] at he hy
      subst he hy
      refine Vw.ptrV h3 (.cons (.pur (.int _ _)) (.cons ?_ .nil))
      rcases h4 with ⟨rfl, rfl, _⟩ | ⟨rid, g, ids1, S', rfl, e2, _, e4⟩
      · exact Vw.nil false
      · refine Vw.ref e2 rfl (by rw [Fo.els_length, e4.len]) fun i e y he hy => ?_
        have hv := e4.view i e y he hy
        obtain ⟨id1, hid1⟩ : ∃ id1, e = .ptr id1 0 := by
          simp only [ptrs, List.getElem?_map, Option.map_eq_some_iff] at he
          obtain ⟨a, _, rfl⟩ := he; exact ⟨a, rfl⟩
        subst hid1
        obtain ⟨x, rfl⟩ := els_rptr hy
        refine ⟨rfl, fun q u v hu hw => ?_⟩
        cases q with
        | succ q => simp [AV.cells] at hu
        | zero =>
          simp [AV.cells] at hu hw
          subst hu hw
          simpa [viewC] using hv
theorem OwnC.view {L : List AObj} {F : Fo} {id : Nat} {cv : AV} {S : List Nat} (hid : L[id]? = some (.box 131 [.int .i64 0, cv])) (hc : OwnC L F cv S) : Vw L (.ptr id 0) (.rptr (.agg [.int .i64 0, .sl false (Fo.els F)]) 0) := by
  have h : OwnTs L (.cons 0 F .nil) [id] (id :: (S ++ [])) := ⟨rfl, id, [], cv, S, [], rfl, rfl, hid, hc, rfl, rfl⟩
  exact h.view 0 _ _ rfl rfl

/-! ### what is left -/
def GrT (c : Nat) (L : List AObj) (n : Nat) (g : Option (Fo × Nat)) (R : Option Nat × List AObj) : Prop :=
  (∀ i, i < L.length → i ≠ c → R.2[i]? = L[i]?) ∧ L.length ≤ R.2.length ∧
  match g with
  | none => R.1 = none
  | some (F, m) => ∃ id cv S, R.1 = some id ∧ R.2[c]? = some (.box 3 [.int .i64 (m : Int)]) ∧ R.2[id]? = some (.box 131 [.int .i64 0, cv]) ∧ OwnC R.2 F cv S ∧ L.length ≤ id ∧ (id :: S).Nodup ∧ (∀ x ∈ S, L.length ≤ x) ∧ m < n
/-- A node 'q' that is being built. -/
structure NdI (c q : Nat) (L : List AObj) (n : Nat) (D : Fo) (cv : AV) (S : List Nat) : Prop where
  cnt : L[c]? = some (.box 3 [.int .i64 (n : Int)])
  box : L[q]? = some (.box 131 [.int .i64 0, cv])
  own : OwnC L D cv S
  cq : c < q
  nq : ∀ x ∈ S, q < x
  nd : S.Nodup
def GrL (c q : Nat) (L : List AObj) (D : Fo) (n : Nat) (g : Option (Fo × Nat)) (R : Bool × List AObj) : Prop :=
  (∀ i, i < q → i ≠ c → R.2[i]? = L[i]?) ∧ L.length ≤ R.2.length ∧
  match g with
  | none => R.1 = false
  | some (F, m) => R.1 = true ∧ m ≤ n ∧ ∃ cv S, NdI c q R.2 m (D.app F) cv S
theorem OwnTs.lt {L : List AObj} : ∀ {F : Fo} {ids S : List Nat}, OwnTs L F ids S → ∀ x ∈ S, x < L.length
  | .nil, _, _, ⟨_, h2⟩, x, hx => by subst h2; cases hx
  | .cons z ch r, _, _, ⟨hz, id, ids', cv, S1, S2, h1, h2, h3, h4, h5⟩, x, hx => by
    subst h2
    simp only [List.mem_cons, List.mem_append] at hx
    rcases hx with rfl | hx | hx
    · exact (List.getElem?_eq_some_iff.1 h3).1
    · rcases h4 with ⟨_, _, rfl⟩ | ⟨rid, g, ids1, S', _, e2, rfl, e4⟩
      · cases hx
      · rcases List.mem_cons.1 hx with rfl | hx
        · exact (List.getElem?_eq_some_iff.1 e2).1
        · exact e4.lt x hx
    · exact h5.lt x hx
theorem OwnC.lt {L : List AObj} {F : Fo} {cv : AV} {S : List Nat} (h : OwnC L F cv S) : ∀ x ∈ S, x < L.length := fun x hx => by
  rcases h with ⟨_, _, rfl⟩ | ⟨rid, g, ids1, S', _, e2, rfl, e4⟩
  · cases hx
  · rcases List.mem_cons.1 hx with rfl | hx
    · exact (List.getElem?_eq_some_iff.1 e2).1
    · exact e4.lt x hx
theorem NdI.hang {c q : Nat} {L : List AObj} {n : Nat} {D : Fo} {cv : AV} {S : List Nat} (h : NdI c q L n D cv S) {L2 : List AObj} {m id : Nat} {ch : Fo} {cw : AV} {S1 : List Nat} (h1 : ∀ i, i < L.length → i ≠ c → L2[i]? = L[i]?) (h2 : L.length ≤ L2.length)
    (hc : L2[c]? = some (.box 3 [.int .i64 (m : Int)])) (hid : L2[id]? = some (.box 131 [.int .i64 0, cw])) (ho : OwnC L2 ch cw S1) (hl : L.length ≤ id) (hn : (id :: S1).Nodup) (hS : ∀ x ∈ S1, L.length ≤ x) :
    ∃ cv' S', NdI c q (hang q id L2) m (D.app (.cons 0 ch .nil)) cv' S' ∧ (∀ i, i < q → i ≠ c → (Go.Proofs.Ytphmkhaboghagaa.hang q id L2)[i]? = L[i]?) ∧ L.length ≤ (Go.Proofs.Ytphmkhaboghagaa.hang q id L2).length := by
  obtain ⟨k1, k2, k3, k4, k5, k6⟩ := h
  have hq := (List.getElem?_eq_some_iff.1 k2).1
  have hq2 : L2[q]? = some (.box 131 [.int .i64 0, cv]) := by rw [h1 q hq (by omega)]; exact k2
  have hidl := (List.getElem?_eq_some_iff.1 hid).1
  have hlt := ho.lt
  rcases k3 with ⟨rfl, rfl, rfl⟩ | ⟨rid, g, ids1, S', rfl, e2, rfl, e4⟩
  · have e : Go.Proofs.Ytphmkhaboghagaa.hang q id L2 = (L2 ++ [AObj.vec 97 1 1 [.ptr id 0]]).set q (.box 131 [.int .i64 0, .ref L2.length [] 1 1]) := by
      unfold Go.Proofs.Ytphmkhaboghagaa.hang; rw [hq2]; rfl
    rw [e]
    have old : ∀ x, x ≠ q → x < L2.length → ((L2 ++ [AObj.vec 97 1 1 [.ptr id 0]]).set q (.box 131 [.int .i64 0, .ref L2.length [] 1 1]))[x]? = L2[x]? := fun x hx hxl => by
      rw [List.getElem?_set_ne (fun e => hx e.symm), List.getElem?_append_left hxl]
    have hS2 : ∀ x ∈ S1, L2[x]? = L2[x]? ∧ x ≠ q ∧ x < L2.length := fun x hx => ⟨rfl, by have := hS x hx; omega, hlt x hx⟩
    refine ⟨.ref L2.length [] 1 1, L2.length :: (id :: (S1 ++ [])), ⟨by rw [old c (by omega) (by omega)]; exact hc, List.getElem?_set_self (by simp; omega), .inr ⟨L2.length, 1, [id], _, rfl, ?_, rfl, ?_⟩, k4, ?_, ?_⟩, fun i hi hic => ?_, by simp; omega⟩
    · rw [List.getElem?_set_ne (by omega)]; simp [ptrs]
    · exact ⟨rfl, id, [], cw, S1, [], rfl, rfl, by rw [old id (by omega) hidl]; exact hid, ho.mono fun x hx => old x (hS2 x hx).2.1 (hS2 x hx).2.2, rfl, rfl⟩
    · intro x hx
      simp only [List.append_nil, List.mem_cons] at hx
      rcases hx with rfl | rfl | hx
      · omega
      · omega
      · have := hS x hx; omega
    · rw [List.append_nil, List.nodup_cons]
      refine ⟨fun hx => ?_, hn⟩
      rcases List.mem_cons.1 hx with e | hx
      · omega
      · have := hlt _ hx; omega
    · rw [old i (by omega) (by omega), h1 i (by omega) hic]
  · have hrl := (List.getElem?_eq_some_iff.1 e2).1
    have hqr : q < rid := k5 rid (by simp)
    have hr2 : L2[rid]? = some (.vec 97 1 g (ptrs ids1)) := by rw [h1 rid hrl (by omega)]; exact e2
    have e : Go.Proofs.Ytphmkhaboghagaa.hang q id L2 = (L2.set rid (AObj.vec 97 1 (g + 1) (ptrs ids1 ++ [.ptr id 0]))).set q (.box 131 [.int .i64 0, .ref rid [] (g + 1) (ids1.length + 1)]) := by
      unfold Go.Proofs.Ytphmkhaboghagaa.hang; rw [hq2]; simp only; rw [hr2]
    rw [e]
    have old : ∀ x, x ≠ q → x ≠ rid → ((L2.set rid (AObj.vec 97 1 (g + 1) (ptrs ids1 ++ [.ptr id 0]))).set q (.box 131 [.int .i64 0, .ref rid [] (g + 1) (ids1.length + 1)]))[x]? = L2[x]? := fun x hx hxl => by
      rw [List.getElem?_set_ne (fun e => hx e.symm), List.getElem?_set_ne (fun e => hxl e.symm)]
    obtain ⟨hr', hn'⟩ := List.nodup_cons.1 k6
    have hS2 : ∀ x ∈ S1, x ≠ q ∧ x ≠ rid := fun x hx => by have := hS x hx; omega
    have hlt' := e4.lt
    refine ⟨.ref rid [] (g + 1) (ids1 ++ [id]).length, rid :: (S' ++ id :: S1), ⟨by rw [old c (by omega) (by omega)]; exact hc, ?_, .inr ⟨rid, g + 1, ids1 ++ [id], _, rfl, ?_, rfl, ?_⟩, k4, ?_, ?_⟩, fun i hi hic => ?_, by simp; omega⟩
    · rw [List.getElem?_set_self (by simp; omega)]; simp
    · rw [List.getElem?_set_ne (by omega), List.getElem?_set_self (by omega)]; simp [ptrs]
    · refine OwnTs.snoc (by rw [old id (by omega) (by omega)]; exact hid) (ho.mono fun x hx => old x (hS2 x hx).1 (hS2 x hx).2) (e4.mono fun x hx => ?_)
      have := k5 x (by simp [hx])
      rw [old x (by omega) (fun e => hr' (e ▸ hx)), h1 x (hlt' x hx) (by omega)]
    · intro x hx
      simp only [List.mem_cons, List.mem_append] at hx
      rcases hx with rfl | hx | rfl | hx
      · exact hqr
      · exact k5 x (by simp [hx])
      · omega
      · have := hS x hx; omega
    · rw [List.nodup_cons, List.nodup_append]
      refine ⟨fun hx => ?_, hn', hn, fun a ha b hb => ?_⟩
      · simp only [List.mem_append, List.mem_cons] at hx
        rcases hx with hx | e | hx
        · exact hr' hx
        · omega
        · have := hS _ hx; omega
      · have := hlt' a ha
        rcases List.mem_cons.1 hb with rfl | hb
        · omega
        · have := hS b hb; omega
    · rw [old i (by omega) (by omega), h1 i (by omega) hic]

end Go.Proofs.Ytphmkhaboghagaa
/-
  Hydras of ordinals: what impl.grown leaves is the tree.
-/
namespace Go.Proofs.Ytphmkhaboghagaa
open Go K Od
set_option linter.unusedSimpArgs false
set_option linter.unusedVariables false
set_option maxHeartbeats 1600000
set_option maxRecDepth 8000

theorem fo_app_nil : ∀ a : Fo, a.app .nil = a
  | .nil => rfl
  | .cons z ch r => by simp only [Fo.app, fo_app_nil r]
theorem NdI.more {c q : Nat} {L : List AObj} {n : Nat} {D : Fo} {cv : AV} {S : List Nat} (h : NdI c q L n D cv S) (X : List AObj) : NdI c q (L ++ X) n D cv S := by
  have old : ∀ x, x < L.length → (L ++ X)[x]? = L[x]? := fun x hx => List.getElem?_append_left hx
  exact ⟨by rw [old c (List.getElem?_eq_some_iff.1 h.cnt).1]; exact h.cnt, by rw [old q (List.getElem?_eq_some_iff.1 h.box).1]; exact h.box, h.own.mono fun x hx => old x (h.own.lt x hx), h.cq, h.nq, h.nd⟩
theorem grK_spec {c q : Nat} {f : List AObj → Option Nat × List AObj} {g : Nat → Option (Fo × Nat)} (hf : ∀ L (n : Nat), L[c]? = some (.box 3 [.int .i64 (n : Int)]) → GrT c L n (g n) (f L)) :
    ∀ (k : Nat) (L : List AObj) (n : Nat) (D : Fo) (cv : AV) (S : List Nat), NdI c q L n D cv S → GrL c q L D n (gK g k n) (grK f q k L)
  | 0, L, n, D, cv, S, h => ⟨fun _ _ _ => rfl, Nat.le_refl _, rfl, Nat.le_refl _, cv, S, by rw [fo_app_nil]; exact h⟩
  | k + 1, L, n, D, cv, S, h => by
    obtain ⟨h1, h2, h3⟩ := hf L n h.cnt
    have hql := (List.getElem?_eq_some_iff.1 h.box).1
    show GrL c q L D n ((g n).bind fun q => (gK g k q.2).map fun p => (.cons 0 q.1 p.1, p.2)) (match f L with | (some id, L2) => grK f q k (hang q id L2) | (none, L2) => (false, L2))
    cases hR : f L with
    | mk o L2 =>
      rw [hR] at h1 h2 h3
      simp only at h1 h2 h3
      cases hg : g n with
      | none =>
        rw [hg] at h3
        simp only at h3
        subst h3
        exact ⟨fun i hi hic => h1 i (by omega) hic, h2, rfl⟩
      | some p =>
        obtain ⟨ch, m⟩ := p
        rw [hg] at h3
        obtain ⟨id, cw, S1, rfl, k1, k2, k3, k4, k5, k6, k7⟩ := h3
        try simp only at k1 k2 k3
        obtain ⟨cv', S', h4, h5, h6⟩ := h.hang h1 h2 k1 k2 k3 k4 k5 k6
        obtain ⟨j1, j2, j3⟩ := grK_spec hf k _ m _ cv' S' h4
        try simp only [Option.bind_some]
        refine ⟨fun i hi hic => (j1 i hi hic).trans (h5 i hi hic), Nat.le_trans h6 j2, ?_⟩
        cases hg2 : gK g k m with
        | none => rw [hg2] at j3; exact j3
        | some p2 =>
          obtain ⟨F, m2⟩ := p2
          rw [hg2] at j3
          obtain ⟨q1, q2, cv2, S2, q3⟩ := j3
          exact ⟨q1, by simp only; omega, cv2, S2, by rw [Fo.app_assoc] at q3; exact q3⟩
theorem grT_of {c : Nat} {t : Od} (h : ∀ (q : Nat) (L : List AObj) (n : Nat) (D : Fo) (cv : AV) (S : List Nat), NdI c q L n D cv S → GrL c q L D n (gL t n) (grL c q t L)) (L : List AObj) (n : Nat) (hc : L[c]? = some (.box 3 [.int .i64 (n : Int)])) :
    GrT c L n (gN t n) (grT c t L) := by
  have hcl := (List.getElem?_eq_some_iff.1 hc).1
  have hcn : cntL L c = n := by unfold cntL; rw [hc]
  have hlen : (tickL c t L).length = L.length + 1 := by simp [tickL]
  have old : ∀ i, i < L.length → i ≠ c → (tickL c t L)[i]? = L[i]? := fun i hi hic => by
    unfold tickL; rw [List.getElem?_set_ne (fun e => hic e.symm), List.getElem?_append_left hi]
  unfold gN grT
  rw [hcn]
  by_cases h0 : n = 0
  · rw [if_pos h0, if_pos (by omega)]
    exact ⟨old, by show L.length ≤ (tickL c t L).length; omega, rfl⟩
  · rw [if_neg h0, if_neg (by omega)]
    have hI : NdI c (tickL c t L).length (tickL c t L ++ [AObj.box 131 [.int .i64 0, nilV]]) (n - 1) .nil nilV [] := by
      refine ⟨?_, by simp, .inl ⟨rfl, rfl, rfl⟩, by omega, by simp, List.nodup_nil⟩
      rw [List.getElem?_append_left (by omega)]
      unfold tickL
      rw [List.getElem?_set_self (by simp; omega), hcn, show ((n : Int) - 1) = ((n - 1 : Nat) : Int) by omega]
    obtain ⟨h1, h2, h3⟩ := h _ _ _ _ _ _ hI
    cases hR : grL c (tickL c t L).length t (tickL c t L ++ [AObj.box 131 [.int .i64 0, nilV]]) with
    | mk o L2 =>
      rw [hR] at h1 h2 h3
      simp only [List.length_append, List.length_cons, List.length_nil] at h1 h2 h3
      have fr : ∀ i, i < L.length → i ≠ c → L2[i]? = L[i]? := fun i hi hic => by
        rw [h1 i (by omega) hic, List.getElem?_append_left (by omega)]; exact old i hi hic
      cases hg : gL t (n - 1) with
      | none =>
        rw [hg] at h3
        simp only at h3
        subst h3
        exact ⟨fr, by simp only; omega, rfl⟩
      | some p =>
        obtain ⟨F, m⟩ := p
        rw [hg] at h3
        obtain ⟨rfl, q2, cv2, S2, q3⟩ := h3
        refine ⟨fr, by simp only; omega, (tickL c t L).length, cv2, S2, rfl, q3.cnt, q3.box, q3.own, by omega, List.nodup_cons.2 ⟨fun hx => by have := q3.nq _ hx; omega, q3.nd⟩, fun x hx => by have := q3.nq x hx; omega, by omega⟩
theorem grL_spec (c : Nat) : ∀ (t : Od) (q : Nat) (L : List AObj) (n : Nat) (D : Fo) (cv : AV) (S : List Nat), NdI c q L n D cv S → GrL c q L D n (gL t n) (grL c q t L)
  | .nil, q, L, n, D, cv, S, h => ⟨fun _ _ _ => rfl, Nat.le_refl _, rfl, Nat.le_refl _, cv, S, by rw [fo_app_nil]; exact h⟩
  | .cons e k r, q, L, n, D, cv, S, h => by
    have hql := (List.getElem?_eq_some_iff.1 h.box).1
    obtain ⟨h1, h2, h3⟩ := grK_spec (fun L n hc => grT_of (fun q L n D cv S h => grL_spec c e q L n D cv S h) L n hc) k.toNat _ n D cv S (h.more [.box 88 [.sl false (elems e), .int .i64 k]])
    rw [grL_cons, gL_cons]
    cases hR : grK (grT c e) q k.toNat (L ++ [AObj.box 88 [.sl false (elems e), .int .i64 k]]) with
    | mk o L2 =>
      rw [hR] at h1 h2 h3
      simp only [List.length_append, List.length_cons, List.length_nil] at h1 h2 h3
      have fr : ∀ i, i < q → i ≠ c → L2[i]? = L[i]? := fun i hi hic => by
        rw [h1 i hi hic, List.getElem?_append_left (by omega)]
      cases hg : gK (gN e) k.toNat n with
      | none =>
        rw [hg] at h3
        simp only at h3
        subst h3
        exact ⟨fr, by simp only; omega, rfl⟩
      | some p =>
        obtain ⟨F, m⟩ := p
        rw [hg] at h3
        obtain ⟨rfl, q2, cv2, S2, q3⟩ := h3
        obtain ⟨j1, j2, j3⟩ := grL_spec c r q L2 m _ cv2 S2 q3
        refine ⟨fun i hi hic => (j1 i hi hic).trans (fr i hi hic), by simp only; omega, ?_⟩
        try simp only [Option.bind_some]
        cases hg2 : gL r m with
        | none => rw [hg2] at j3; exact j3
        | some p2 =>
          obtain ⟨G, m2⟩ := p2
          rw [hg2] at j3
          obtain ⟨q1, q4, cv3, S3, q5⟩ := j3
          exact ⟨q1, by simp only; omega, cv3, S3, by rw [Fo.app_assoc] at q5; exact q5⟩
theorem grT_spec (c : Nat) (t : Od) (L : List AObj) (n : Nat) (hc : L[c]? = some (.box 3 [.int .i64 (n : Int)])) : GrT c L n (gN t n) (grT c t L) := grT_of (fun q L n D cv S h => grL_spec c t q L n D cv S h) L n hc

end Go.Proofs.Ytphmkhaboghagaa
/-
  Hydras of ordinals: impl.grown.
-/
namespace Go.Proofs.Ytphmkhaboghagaa
open Go K Od
set_option linter.unusedSimpArgs false
set_option linter.unusedVariables false
set_option maxHeartbeats 3200000
set_option maxRecDepth 8000

theorem tree_ptr : Try.prog.underlying 97 = some (.pointer 131) := by kernel_rfl
def rTr : Option Nat → AV
  | none => .lit (.pointer none)
  | some id => .ptr id 0
def finT (q : Nat) : Bool × List AObj → Option Nat × List AObj
  | (true, L2) => (some q, L2)
  | (false, L2) => (none, L2)
theorem grT_fin {c : Nat} {t : Od} {L : List AObj} {n : Nat} (hc : L[c]? = some (.box 3 [.int .i64 ((n + 1 : Nat) : Int)])) :
    grT c t L = finT (tickL c t L).length (grL c (tickL c t L).length t (tickL c t L ++ [.box 131 [.int .i64 0, nilV]])) := by
  have hcn : cntL L c = ((n + 1 : Nat) : Int) := by unfold cntL; rw [hc]
  unfold grT
  rw [hcn, if_neg (by omega)]
  rfl
structure GwS where
  d : Od
  r : Od
  L : List AObj
  n : Nat
  D : Fo
  cv : AV
  S : List Nat
structure GiS where
  i : Nat
  j : Nat
  L : List AObj
  n : Nat
  D : Fo
  cv : AV
  S : List Nat
theorem grown_ok (t : Od) (L : List AObj) (c n : Nat) (hc : L[c]? = some (.box 3 [.int .i64 (n : Int)])) (hn : n ≤ 40) (hs : t.sz ≤ 1048576) (ra : rng t) :
    Ct Try.prog 84 [av t, .ptr c 0] L (rTr (grT c t L).1) (grT c t L).2 := by
  have hcl := (List.getElem?_eq_some_iff.1 hc).1
  have hcn : cntL L c = n := by unfold cntL; rw [hc]
  have hA : ∀ B : AObj, (L ++ [B])[c]? = some (.box 3 [.int .i64 (n : Int)]) := fun B => by rw [List.getElem?_append_left hcl]; exact hc
  have hw : IntKind.i64.wrap ((n : Int) - 1) = (n : Int) - 1 := i64_id (by omega) (by omega)
  have hT : (L ++ [AObj.box 24 [.sl false (elems t)]]).set c (.box 3 [.int .i64 ((n : Int) - 1)]) = tickL c t L := by unfold tickL; rw [hcn]
  have hTc : (tickL c t L)[c]? = some (.box 3 [.int .i64 ((n : Int) - 1)]) := by rw [← hT]; exact List.getElem?_set_self (by simp; omega)
  have hTl : (tickL c t L).length = L.length + 1 := by simp [tickL]
  have hTb : (tickL c t L)[L.length]? = some (.box 24 [.sl false (elems t)]) := by rw [← hT, List.getElem?_set_ne (by omega)]; simp
  refine Ct.by_ hmix [] Try.func84 rfl ?_
  cases n with
  | zero =>
    have e1 : (((0 : Nat) : Int) - 1 < 0) := by omega
    have hg : grT c t L = (none, tickL c t L) := by unfold grT; rw [hcn, if_pos (by omega)]
    rw [hg]
    simp only [run0, run1, run2, run3, run4, run5, run6, run7, run8, run9, run10, run11, run12, run13, run14, run15, run16, run17, run18, run19, run20, run21, run22, reduceCtorEq, Nat.reduceEqDiff, Nat.reduceAdd, Nat.reduceSub, Nat.reduceLeDiff, indexAddrA, indexRefA, appendA, strA, Nat.reduceMul, Nat.zero_mul, Nat.reduceMod, Int.reduceEq, Int.reduceLT, Int.reduceLE, Nat.reduceLT, Nat.lt_irrefl, Nat.reduceBEq, tys0, tys1, tys2, tys3, tys4, tys5, tys6, tys7, tys8, tys9, tys10, tys11, tys12, tys13, tys14, tys15, tys16, tys17, tys18, Try.ntmps84, Try.results84, av, hA, hw, hT, hTc, e1]
    exact Fin.own rfl rfl
  | succ n =>
    have e1 : ¬ (((n + 1 : Nat) : Int) - 1 < 0) := by omega
    rw [grT_fin hc]
    generalize hTT : tickL c t L = T at *
    have hTb2 : ∀ B : AObj, (T ++ [B])[L.length]? = some (.box 24 [.sl false (elems t)]) := fun B => by rw [List.getElem?_append_left (by omega)]; exact hTb
    obtain ⟨fs, u1, u2⟩ := strU (P := Try.prog) (t := 131) (by kernel_rfl)
    simp only [run0, run1, run2, run3, run4, run5, run6, run7, run8, run9, run10, run11, run12, run13, run14, run15, run16, run17, run18, run19, run20, run21, run22, reduceCtorEq, Nat.reduceEqDiff, Nat.reduceAdd, Nat.reduceSub, Nat.reduceLeDiff, indexAddrA, indexRefA, appendA, strA, Nat.reduceMul, Nat.zero_mul, Nat.reduceMod, Int.reduceEq, Int.reduceLT, Int.reduceLE, Nat.reduceLT, Nat.lt_irrefl, Nat.reduceBEq, tys0, tys1, tys2, tys3, tys4, tys5, tys6, tys7, tys8, tys9, tys10, tys11, tys12, tys13, tys14, tys15, tys16, tys17, tys18, Try.ntmps84, Try.results84, av, hA, hw, hT, hTc, e1, hTb2, u1, u2, elems_length]
    have hTq : NdI c T.length (T ++ [AObj.box 131 [.int .i64 0, nilV]]) n .nil nilV [] := by
      refine ⟨?_, by simp, .inl ⟨rfl, rfl, rfl⟩, by omega, by simp, List.nodup_nil⟩
      rw [List.getElem?_append_left (by omega), hTc, show (((n + 1 : Nat) : Int) - 1) = (n : Int) by omega]
    clear hA hT hTc hTb hTb2 hcn hc hw
    generalize hq : T.length = q at *
    generalize hR : grL c q t (T ++ [AObj.box 131 [.int .i64 0, nilV]]) = R0
    refine AWp.loop_inv (ι := GwS) (fun p => ⟨[.junk, .ptr c 0, .junk, .junk, .junk, .ptr q 0, .junk, .junk, .junk, .junk, .junk, .junk, .junk, .junk, .junk, .junk, .junk, .junk, .junk, .junk, .junk, .sl false (elems t), .int .i64 t.len, .int .i64 p.d.len, .junk, .junk, .junk, .junk, .junk, .junk, .junk, .junk, .junk, .junk, .junk, .junk, .junk, .junk, .junk, .junk, .junk, .junk, .junk, .junk, .junk, .junk, .junk, .junk, .junk, .junk], p.L⟩)
      (fun p => t = p.d.app p.r ∧ NdI c q p.L p.n p.D p.cv p.S ∧ p.D.len + p.n ≤ 40 ∧ grL c q p.r p.L = R0) (fun p => p.r.len) ⟨.nil, t, T ++ [AObj.box 131 [.int .i64 0, nilV]], n, .nil, nilV, []⟩
      ⟨rfl, hTq, by simp only [Fo.len]; omega, hR⟩ ⟨by simp only [len, Int.natCast_zero]; repeat constructor, rfl⟩ ?_
    clear hTq hR
    rintro ⟨d, r, X, m, D, cv, S⟩ ⟨ha, hI, hD, h4⟩
    refine W.sound hmix (E := []) ?_
    simp only at ha hI hD h4
    cases r with
    | nil =>
      obtain ⟨g1, rfl⟩ := od_end ha
      have h5 : R0 = (true, X) := h4.symm
      subst h5
      simp only [run0, run1, run2, run3, run4, run5, run6, run7, run8, run9, run10, run11, run12, run13, run14, run15, run16, run17, run18, run19, run20, run21, run22, reduceCtorEq, Nat.reduceEqDiff, Nat.reduceAdd, Nat.reduceSub, Nat.reduceLeDiff, indexAddrA, indexRefA, appendA, strA, Nat.reduceMul, Nat.zero_mul, Nat.reduceMod, Int.reduceEq, Int.reduceLT, Int.reduceLE, Nat.reduceLT, Nat.lt_irrefl, Nat.reduceBEq, tys0, tys1, tys2, tys3, tys4, tys5, tys6, tys7, tys8, tys9, tys10, tys11, tys12, tys13, tys14, tys15, tys16, tys17, tys18, Try.ntmps84, Try.results84, g1]
      exact Fin.own rfl rfl
    | cons e k r =>
      obtain ⟨g1, g2, g5, hlt, hnx, _⟩ := od_step ha hs
      have ra2 := ra
      rw [ha] at ra2
      have ra2 := rng_app ra2
      have hk : 1 ≤ k ∧ k ≤ 1000000 := ⟨ra2.1, ra2.2.1⟩
      obtain ⟨k0, hk0⟩ : ∃ k1 : Nat, k = (k1 : Int) := ⟨k.toNat, by omega⟩
      subst hk0
      rw [grL_cons, Int.toNat_natCast] at h4
      have hql := (List.getElem?_eq_some_iff.1 hI.box).1
      simp only [run0, run1, run2, run3, run4, run5, run6, run7, run8, run9, run10, run11, run12, run13, run14, run15, run16, run17, run18, run19, run20, run21, run22, reduceCtorEq, Nat.reduceEqDiff, Nat.reduceAdd, Nat.reduceSub, Nat.reduceLeDiff, indexAddrA, indexRefA, appendA, strA, Nat.reduceMul, Nat.zero_mul, Nat.reduceMod, Int.reduceEq, Int.reduceLT, Int.reduceLE, Nat.reduceLT, Nat.lt_irrefl, Nat.reduceBEq, tys0, tys1, tys2, tys3, tys4, tys5, tys6, tys7, tys8, tys9, tys10, tys11, tys12, tys13, tys14, tys15, tys16, tys17, tys18, Try.ntmps84, Try.results84, g1, g2, Int.toNat_natCast, Int.natCast_nonneg]
      generalize hK : grK (grT c e) q k0 (X ++ [AObj.box 88 [.sl false (elems e), .int .i64 (k0 : Int)]]) = K0 at h4
      refine AWp.loop_inv (ι := GiS) (fun p => ⟨[.junk, .ptr c 0, .junk, .junk, .junk, .ptr q 0, .junk, .ptr X.length 0, .junk, .junk, .junk, .junk, .junk, .junk, .junk, .junk, .junk, .junk, .junk, .junk, .junk, .sl false (elems t), .int .i64 t.len, .int .i64 d.len, .junk, .junk, .junk, .junk, .int .i64 k0, .int .i64 p.i, .junk, .junk, .junk, .junk, .junk, .junk, .junk, .junk, .junk, .junk, .junk, .junk, .junk, .junk, .junk, .junk, .junk, .junk, .junk, .junk], p.L⟩)
        (fun p => p.i + p.j = k0 ∧ NdI c q p.L p.n p.D p.cv p.S ∧ p.D.len + p.n ≤ 40 ∧ p.L[X.length]? = some (.box 88 [.sl false (elems e), .int .i64 (k0 : Int)]) ∧ grK (grT c e) q p.j p.L = K0) (fun p => p.j)
        ⟨0, k0, X ++ [AObj.box 88 [.sl false (elems e), .int .i64 (k0 : Int)]], m, D, cv, S⟩ ⟨by simp, hI.more _, hD, by simp, hK⟩ ⟨by simp only [Int.natCast_zero]; repeat constructor, rfl⟩ ?_
      clear hK hI hD cv S D m
      rintro ⟨i, j, X2, m, D, cv, S⟩ ⟨hij, hI, hD, htb, hK⟩
      refine W.sound hmix (E := []) ?_
      simp only at hij hI hD htb hK
      cases j with
      | zero =>
        have f1 : ¬ ((i : Int) < (k0 : Int)) := by omega
        have h5 : K0 = (true, X2) := hK.symm
        subst h5
        simp only [run0, run1, run2, run3, run4, run5, run6, run7, run8, run9, run10, run11, run12, run13, run14, run15, run16, run17, run18, run19, run20, run21, run22, reduceCtorEq, Nat.reduceEqDiff, Nat.reduceAdd, Nat.reduceSub, Nat.reduceLeDiff, indexAddrA, indexRefA, appendA, strA, Nat.reduceMul, Nat.zero_mul, Nat.reduceMod, Int.reduceEq, Int.reduceLT, Int.reduceLE, Nat.reduceLT, Nat.lt_irrefl, Nat.reduceBEq, tys0, tys1, tys2, tys3, tys4, tys5, tys6, tys7, tys8, tys9, tys10, tys11, tys12, tys13, tys14, tys15, tys16, tys17, tys18, Try.ntmps84, Try.results84, f1, g5]
        exact ⟨⟨d.app (cons e k0 nil), r, X2, m, D, cv, S⟩, ⟨hnx.symm, hI, hD, h4⟩, by simp [len], by repeat constructor, rfl⟩
      | succ j =>
        have f1 : (i : Int) < (k0 : Int) := by omega
        have f2 : IntKind.i64.wrap ((i : Int) + 1) = ((i + 1 : Nat) : Int) := by rw [i64_id (by omega) (by omega)]; simp
        have hrec := grown_ok e X2 c m hI.cnt (by omega) (by omega) ra2.2.2.1
        obtain ⟨h1, h2, h3⟩ := grT_spec c e X2 m hI.cnt
        have hK2 : grK (grT c e) q (j + 1) X2 = (match grT c e X2 with | (some id, L2) => grK (grT c e) q j (hang q id L2) | (none, L2) => (false, L2)) := rfl
        rw [hK2] at hK
        cases hG : grT c e X2 with
        | mk o L3 =>
          rw [hG] at hrec h1 h2 h3 hK
          simp only [av] at hrec
          cases o with
          | none =>
            have h5 : K0 = (false, L3) := hK.symm
            subst h5
            have h6 : R0 = (false, L3) := h4.symm
            subst h6
            simp only [run0, run1, run2, run3, run4, run5, run6, run7, run8, run9, run10, run11, run12, run13, run14, run15, run16, run17, run18, run19, run20, run21, run22, reduceCtorEq, Nat.reduceEqDiff, Nat.reduceAdd, Nat.reduceSub, Nat.reduceLeDiff, indexAddrA, indexRefA, appendA, strA, Nat.reduceMul, Nat.zero_mul, Nat.reduceMod, Int.reduceEq, Int.reduceLT, Int.reduceLE, Nat.reduceLT, Nat.lt_irrefl, Nat.reduceBEq, tys0, tys1, tys2, tys3, tys4, tys5, tys6, tys7, tys8, tys9, tys10, tys11, tys12, tys13, tys14, tys15, tys16, tys17, tys18, Try.ntmps84, Try.results84, f1, htb]
            refine RunL.callM rfl rfl ok_f84 rfl rfl hrec rfl ?_
            simp only [run0, run1, run2, run3, run4, run5, run6, run7, run8, run9, run10, run11, run12, run13, run14, run15, run16, run17, run18, run19, run20, run21, run22, reduceCtorEq, Nat.reduceEqDiff, Nat.reduceAdd, Nat.reduceSub, Nat.reduceLeDiff, indexAddrA, indexRefA, appendA, strA, Nat.reduceMul, Nat.zero_mul, Nat.reduceMod, Int.reduceEq, Int.reduceLT, Int.reduceLE, Nat.reduceLT, Nat.lt_irrefl, Nat.reduceBEq, tys0, tys1, tys2, tys3, tys4, tys5, tys6, tys7, tys8, tys9, tys10, tys11, tys12, tys13, tys14, tys15, tys16, tys17, tys18, Try.ntmps84, Try.results84, rTr]
            refine RunL.opC (x := .bool true) (L' := L3) rfl rfl rfl (fun s1 q1 q2 => ?_) ?_
            · have e1 := q2 (.tmp 35) (by simp [Op.operands, Call.operands])
              exact withL (eqNil_sound (b := true) rfl tree_ptr (.inl ⟨e1.trans rfl, rfl⟩)) q1
            simp only [run0, run1, run2, run3, run4, run5, run6, run7, run8, run9, run10, run11, run12, run13, run14, run15, run16, run17, run18, run19, run20, run21, run22, reduceCtorEq, Nat.reduceEqDiff, Nat.reduceAdd, Nat.reduceSub, Nat.reduceLeDiff, indexAddrA, indexRefA, appendA, strA, Nat.reduceMul, Nat.zero_mul, Nat.reduceMod, Int.reduceEq, Int.reduceLT, Int.reduceLE, Nat.reduceLT, Nat.lt_irrefl, Nat.reduceBEq, tys0, tys1, tys2, tys3, tys4, tys5, tys6, tys7, tys8, tys9, tys10, tys11, tys12, tys13, tys14, tys15, tys16, tys17, tys18, Try.ntmps84, Try.results84]
            exact Fin.own rfl rfl
          | some id =>
            cases hgN : gN e m with
            | none => rw [hgN] at h3; cases h3
            | some p =>
              obtain ⟨F, m2⟩ := p
              rw [hgN] at h3
              obtain ⟨id2, cw, S1, e0, k1, k2, k3, k4, k5, k6, k7⟩ := h3
              simp only [Option.some.injEq] at e0
              subst e0
              simp only at k1 k2 k3 h1 h2 hK hrec
              obtain ⟨cv', S', n4, n5, n6⟩ := hI.hang h1 h2 k1 k2 k3 k4 k5 k6
              have hq2l := (List.getElem?_eq_some_iff.1 hI.box).1
              have hcq := hI.cq
              have htl := (List.getElem?_eq_some_iff.1 htb).1
              have hq3 : L3[q]? = some (.box 131 [.int .i64 0, cv]) := by rw [h1 q hq2l (by omega)]; exact hI.box
              have htb3 : L3[X.length]? = some (.box 88 [.sl false (elems e), .int .i64 (k0 : Int)]) := by rw [h1 _ htl (by omega)]; exact htb
              have hDl : (D.app (.cons 0 F .nil)).len = D.len + 1 := by rw [Fo.len_app]; rfl
              have hq3b : ∀ B : AObj, (L3 ++ [B])[q]? = some (.box 131 [.int .i64 0, cv]) := fun B => by rw [List.getElem?_append_left (by omega)]; exact hq3
              rcases hI.own with ⟨rfl, rfl, rfl⟩ | ⟨rid, g, ids1, S2, rfl, r2, rfl, r4⟩
              · have hh : hang q id L3 = (L3 ++ [AObj.vec 97 1 1 [.ptr id 0]]).set q (.box 131 [.int .i64 0, .ref L3.length [] 1 1]) := by
                  unfold hang; rw [hq3]; rfl
                have htb4 : (hang q id L3)[X.length]? = some (.box 88 [.sl false (elems e), .int .i64 (k0 : Int)]) := by
                  rw [hh, List.getElem?_set_ne (by omega), List.getElem?_append_left (by omega)]; exact htb3
                simp only [nilV] at hq3 hq3b
                simp only [run0, run1, run2, run3, run4, run5, run6, run7, run8, run9, run10, run11, run12, run13, run14, run15, run16, run17, run18, run19, run20, run21, run22, reduceCtorEq, Nat.reduceEqDiff, Nat.reduceAdd, Nat.reduceSub, Nat.reduceLeDiff, indexAddrA, indexRefA, appendA, strA, Nat.reduceMul, Nat.zero_mul, Nat.reduceMod, Int.reduceEq, Int.reduceLT, Int.reduceLE, Nat.reduceLT, Nat.lt_irrefl, Nat.reduceBEq, tys0, tys1, tys2, tys3, tys4, tys5, tys6, tys7, tys8, tys9, tys10, tys11, tys12, tys13, tys14, tys15, tys16, tys17, tys18, Try.ntmps84, Try.results84, f1, htb]
                refine RunL.callM rfl rfl ok_f84 rfl rfl hrec rfl ?_
                simp only [run0, run1, run2, run3, run4, run5, run6, run7, run8, run9, run10, run11, run12, run13, run14, run15, run16, run17, run18, run19, run20, run21, run22, reduceCtorEq, Nat.reduceEqDiff, Nat.reduceAdd, Nat.reduceSub, Nat.reduceLeDiff, indexAddrA, indexRefA, appendA, strA, Nat.reduceMul, Nat.zero_mul, Nat.reduceMod, Int.reduceEq, Int.reduceLT, Int.reduceLE, Nat.reduceLT, Nat.lt_irrefl, Nat.reduceBEq, tys0, tys1, tys2, tys3, tys4, tys5, tys6, tys7, tys8, tys9, tys10, tys11, tys12, tys13, tys14, tys15, tys16, tys17, tys18, Try.ntmps84, Try.results84, rTr]
                refine RunL.opC (x := .bool false) (L' := L3) rfl rfl rfl (fun s1 q1 q2 => ?_) ?_
                · have e1 := q2 (.tmp 35) (by simp [Op.operands, Call.operands])
                  exact withL (eqNil_sound (b := false) rfl tree_ptr (.inr ⟨⟨id, 0, e1.trans rfl⟩, rfl⟩)) q1
                simp only [run0, run1, run2, run3, run4, run5, run6, run7, run8, run9, run10, run11, run12, run13, run14, run15, run16, run17, run18, run19, run20, run21, run22, reduceCtorEq, Nat.reduceEqDiff, Nat.reduceAdd, Nat.reduceSub, Nat.reduceLeDiff, indexAddrA, indexRefA, appendA, strA, Nat.reduceMul, Nat.zero_mul, Nat.reduceMod, Int.reduceEq, Int.reduceLT, Int.reduceLE, Nat.reduceLT, Nat.lt_irrefl, Nat.reduceBEq, tys0, tys1, tys2, tys3, tys4, tys5, tys6, tys7, tys8, tys9, tys10, tys11, tys12, tys13, tys14, tys15, tys16, tys17, tys18, Try.ntmps84, Try.results84, hq3, hq3b, f2, Int.toNat_natCast, Int.natCast_nonneg]
                refine ⟨⟨i + 1, j, hang q id L3, m2, _, cv', S'⟩, ⟨by simp only; omega, n4, by have h9 := hDl; show (Fo.app .nil (.cons 0 F .nil)).len + m2 ≤ 40; omega, htb4, hK⟩, by simp, by repeat constructor, ?_⟩
                rw [hh]
              · have hrl := (List.getElem?_eq_some_iff.1 r2).1
                have hqr := hI.nq rid (by simp)
                have hr3 : L3[rid]? = some (.vec 97 1 g (ptrs ids1)) := by rw [h1 rid hrl (by omega)]; exact r2
                have hh : hang q id L3 = (L3.set rid (AObj.vec 97 1 (g + 1) (ptrs ids1 ++ [.ptr id 0]))).set q (.box 131 [.int .i64 0, .ref rid [] (g + 1) (ids1.length + 1)]) := by
                  unfold hang; rw [hq3]; simp only; rw [hr3]
                have hne : rid ≠ X.length := fun e => by rw [e, htb3] at hr3; cases hr3
                have htb4 : (hang q id L3)[X.length]? = some (.box 88 [.sl false (elems e), .int .i64 (k0 : Int)]) := by
                  rw [hh, List.getElem?_set_ne (by omega), List.getElem?_set_ne hne]; exact htb3
                have hq3c : ∀ B : AObj, (L3.set rid B)[q]? = some (.box 131 [.int .i64 0, .ref rid [] g ids1.length]) := fun B => by rw [List.getElem?_set_ne (by omega)]; exact hq3
                have hil := r4.len
                have f7 : ids1.length + 1 ≤ 137438953472 := by omega
                have f8 := ptrs_noOwn ids1
                have f9 : (ptrs ids1).length = ids1.length := by simp [ptrs]
                simp only [run0, run1, run2, run3, run4, run5, run6, run7, run8, run9, run10, run11, run12, run13, run14, run15, run16, run17, run18, run19, run20, run21, run22, reduceCtorEq, Nat.reduceEqDiff, Nat.reduceAdd, Nat.reduceSub, Nat.reduceLeDiff, indexAddrA, indexRefA, appendA, strA, Nat.reduceMul, Nat.zero_mul, Nat.reduceMod, Int.reduceEq, Int.reduceLT, Int.reduceLE, Nat.reduceLT, Nat.lt_irrefl, Nat.reduceBEq, tys0, tys1, tys2, tys3, tys4, tys5, tys6, tys7, tys8, tys9, tys10, tys11, tys12, tys13, tys14, tys15, tys16, tys17, tys18, Try.ntmps84, Try.results84, f1, htb]
                refine RunL.callM rfl rfl ok_f84 rfl rfl hrec rfl ?_
                simp only [run0, run1, run2, run3, run4, run5, run6, run7, run8, run9, run10, run11, run12, run13, run14, run15, run16, run17, run18, run19, run20, run21, run22, reduceCtorEq, Nat.reduceEqDiff, Nat.reduceAdd, Nat.reduceSub, Nat.reduceLeDiff, indexAddrA, indexRefA, appendA, strA, Nat.reduceMul, Nat.zero_mul, Nat.reduceMod, Int.reduceEq, Int.reduceLT, Int.reduceLE, Nat.reduceLT, Nat.lt_irrefl, Nat.reduceBEq, tys0, tys1, tys2, tys3, tys4, tys5, tys6, tys7, tys8, tys9, tys10, tys11, tys12, tys13, tys14, tys15, tys16, tys17, tys18, Try.ntmps84, Try.results84, rTr]
                refine RunL.opC (x := .bool false) (L' := L3) rfl rfl rfl (fun s1 q1 q2 => ?_) ?_
                · have e1 := q2 (.tmp 35) (by simp [Op.operands, Call.operands])
                  exact withL (eqNil_sound (b := false) rfl tree_ptr (.inr ⟨⟨id, 0, e1.trans rfl⟩, rfl⟩)) q1
                simp only [run0, run1, run2, run3, run4, run5, run6, run7, run8, run9, run10, run11, run12, run13, run14, run15, run16, run17, run18, run19, run20, run21, run22, reduceCtorEq, Nat.reduceEqDiff, Nat.reduceAdd, Nat.reduceSub, Nat.reduceLeDiff, indexAddrA, indexRefA, appendA, strA, Nat.reduceMul, Nat.zero_mul, Nat.reduceMod, Int.reduceEq, Int.reduceLT, Int.reduceLE, Nat.reduceLT, Nat.lt_irrefl, Nat.reduceBEq, tys0, tys1, tys2, tys3, tys4, tys5, tys6, tys7, tys8, tys9, tys10, tys11, tys12, tys13, tys14, tys15, tys16, tys17, tys18, Try.ntmps84, Try.results84, hq3, hq3c, hr3, f7, f8, f9, f2, Int.toNat_natCast, Int.natCast_nonneg]
                refine ⟨⟨i + 1, j, hang q id L3, m2, _, cv', S'⟩, ⟨by simp only; omega, n4, by simp only; rw [hDl]; omega, htb4, hK⟩, by simp, by repeat constructor, ?_⟩
                rw [hh]
termination_by t.sz

end Go.Proofs.Ytphmkhaboghagaa
/-
  Hydras of ordinals: both sides.
-/
namespace Go.Proofs.Ytphmkhaboghagaa
open Go K Od
set_option linter.unusedSimpArgs false
set_option linter.unusedVariables false
set_option maxHeartbeats 3200000
set_option maxRecDepth 8000

def hydO (a : Od) : Option (List Int) := if goodT a then growT (-1) a [] else none
theorem hydO_len {a : Od} {P : List Int} (h : hydO a = some P) : P.length ≤ 40 := by
  unfold hydO at h
  split at h
  · exact growT_len (by simp) h
  · cases h
theorem Ct.weakH {P : Program} {f : FuncId} {xs ys : List AV} {L L' : List AObj} {r : AV} (h : Ct P f ys L r L') (hv : ∀ γ vs, ArgsR γ L xs vs → ArgsR γ L ys vs) : Ct P f xs L r L' :=
  fun γ w vs hI ha => h γ w vs hI (hv γ vs ha)
theorem rv_nilH {γ : Nat → Gh} {L : List AObj} {v : Value} (h : RV γ L (.agg [nilV]) v) : RV γ L (.agg [.sl false []]) v := by
  cases h with
  | agg _ vs hn h1 h =>
    refine .agg _ _ hn h1 fun i x hi => ?_
    cases i with
    | zero =>
      simp only [List.getElem?_cons_zero, Option.some.injEq] at hi
      subst hi
      have := h 0 nilV rfl
      generalize vs.getD 0 undef = u at this ⊢
      cases this
      exact .sl false [] none 0 0 0 (fun _ _ => undef) rfl (Nat.le_refl _) (by simp) (by simp) (by simp) (by simp)
    | succ i => simp at hi
theorem args_nilH {γ : Nat → Gh} {L : List AObj} {vs : Array Value} {y z : AV} (h : ArgsR γ L [.agg [nilV], y, z] vs) : ArgsR γ L [.agg [.sl false []], y, z] vs :=
  ⟨h.1, fun i x hi => by
    cases i with
    | zero => simp at hi; subst hi; exact rv_nilH (h.2 0 _ rfl)
    | succ i => exact h.2 (i + 1) x (by simpa using hi)⟩
theorem specHydraOf_ok (a : Od) (hs : a.sz ≤ 1048576) : Ct Try.prog 39 [av a] [] (optH (hydO a)) [] := by
  refine Ct.by_ hmix [] Try.func39 rfl ?_
  simp only [run0, run1, run2, run3, run4, run5, run6, run7, run8, run9, run10, run11, run12, run13, run14, run15, run16, run17, run18, run19, run20, run21, run22, reduceCtorEq, Nat.reduceEqDiff, Nat.reduceAdd, Nat.reduceSub, Nat.reduceLeDiff, indexAddrA, indexRefA, appendA, strA, Nat.reduceMul, Nat.zero_mul, Nat.reduceMod, Int.reduceEq, Int.reduceLT, Int.reduceLE, Nat.reduceLT, Nat.lt_irrefl, Nat.reduceBEq, tys0, tys1, tys2, tys3, tys4, tys5, tys6, tys7, tys8, tys9, tys10, tys11, tys12, tys13, tys14, tys15, tys16, tys17, tys18, Try.ntmps39, Try.results39, av]
  refine RunL.callp rfl rfl ok_f58 (odGood_ok a hs) (by first | rfl | simp only [pureL, pureB, Bool.and_self, Bool.and_true, Bool.true_and, Od.elems_pure, Od.pay_pure, Od.av_pure]) rfl ?_
  cases hg : goodT a
  · simp only [run0, run1, run2, run3, run4, run5, run6, run7, run8, run9, run10, run11, run12, run13, run14, run15, run16, run17, run18, run19, run20, run21, run22, reduceCtorEq, Nat.reduceEqDiff, Nat.reduceAdd, Nat.reduceSub, Nat.reduceLeDiff, indexAddrA, indexRefA, appendA, strA, Nat.reduceMul, Nat.zero_mul, Nat.reduceMod, Int.reduceEq, Int.reduceLT, Int.reduceLE, Nat.reduceLT, Nat.lt_irrefl, Nat.reduceBEq, tys0, tys1, tys2, tys3, tys4, tys5, tys6, tys7, tys8, tys9, tys10, tys11, tys12, tys13, tys14, tys15, tys16, tys17, tys18, Try.ntmps39, Try.results39]
    rw [show hydO a = none by unfold hydO; rw [hg]; rfl]
    exact Fin.value (vw_fail _)
  · have hd := Ct.weakH (deGrow_ok a [] (-1) (by simp) hs (goodT_rng hg)) (xs := [.agg [nilV], .int .i64 (-1), av a]) fun γ vs h => args_nilH h
    simp only [nilV, av] at hd
    rw [show hydO a = growT (-1) a [] by unfold hydO; rw [hg]; rfl]
    simp only [run0, run1, run2, run3, run4, run5, run6, run7, run8, run9, run10, run11, run12, run13, run14, run15, run16, run17, run18, run19, run20, run21, run22, reduceCtorEq, Nat.reduceEqDiff, Nat.reduceAdd, Nat.reduceSub, Nat.reduceLeDiff, indexAddrA, indexRefA, appendA, strA, Nat.reduceMul, Nat.zero_mul, Nat.reduceMod, Int.reduceEq, Int.reduceLT, Int.reduceLE, Nat.reduceLT, Nat.lt_irrefl, Nat.reduceBEq, tys0, tys1, tys2, tys3, tys4, tys5, tys6, tys7, tys8, tys9, tys10, tys11, tys12, tys13, tys14, tys15, tys16, tys17, tys18, Try.ntmps39, Try.results39]
    refine RunL.callp rfl rfl ok_f83 hd (by simp only [pureL, pureB, elems_pure, Bool.and_self, Bool.and_true, Bool.true_and]) rfl ?_
    simp only [run0, run1, run2, run3, run4, run5, run6, run7, run8, run9, run10, run11, run12, run13, run14, run15, run16, run17, run18, run19, run20, run21, run22, reduceCtorEq, Nat.reduceEqDiff, Nat.reduceAdd, Nat.reduceSub, Nat.reduceLeDiff, indexAddrA, indexRefA, appendA, strA, Nat.reduceMul, Nat.zero_mul, Nat.reduceMod, Int.reduceEq, Int.reduceLT, Int.reduceLE, Nat.reduceLT, Nat.lt_irrefl, Nat.reduceBEq, tys0, tys1, tys2, tys3, tys4, tys5, tys6, tys7, tys8, tys9, tys10, tys11, tys12, tys13, tys14, tys15, tys16, tys17, tys18, Try.ntmps39, Try.results39, optH, hyA]
    exact Fin.eq rfl (by simp only [pureB, pureL, ints_pure, Bool.and_self])

theorem flatL_sz : ∀ (F : Fo) (n : Nat) (P Q : List Int), flatL n F P = (true, Q) → Q.length = P.length + F.sz
  | .nil, n, P, Q, e => by simp only [flatL, Prod.mk.injEq, true_and] at e; subst e; rfl
  | .cons z ch r, n, P, Q, e => by
    rw [flatL_cons] at e
    cases hf : flat1 n ch P with
    | mk o Q1 =>
      rw [hf] at e
      cases o with
      | false => simp at e
      | true =>
        have h1 := flatL_sz r n Q1 Q e
        unfold flat1 at hf
        split at hf
        · simp at hf
        · have h2 := flatL_sz ch _ _ _ hf
          simp at h2
          simp only [Fo.sz]; omega

def HoR (o : Option (List Int)) (M : List AObj) (r : AV) : Prop :=
  M.all okSO = true ∧ match o with
  | none => r = .tup [.agg [nilV], .bool false]
  | some P => ∃ id, r = .tup [.agg [.ref id [] P.length P.length], .bool true] ∧ M[id]? = some (.vec 3 1 P.length (ints P))
theorem okTO_ints (P : List Int) (g : Nat) : okTO (.vec 3 1 g (ints P)) = true := by
  have : okTL (ints P) = true := by
    induction P with
    | nil => rfl
    | cons x P ih => simp only [ints, List.map_cons, okTL, okT, Bool.true_and]; exact ih
  simp [okTO, this, ints_noOwn]
theorem implHydraOf_ok (a : Od) (hs : a.sz ≤ 1048576) : ∃ r M, Ct Try.prog 40 [av a] [] r M ∧ HoR (hydO a) M r := by
  cases hg : goodT a
  · refine ⟨.tup [.agg [nilV], .bool false], ?_⟩
    apply ex1
    · apply Ct.by_ hmix [] Try.func40 rfl
      simp only [run0, run1, run2, run3, run4, run5, run6, run7, run8, run9, run10, run11, run12, run13, run14, run15, run16, run17, run18, run19, run20, run21, run22, reduceCtorEq, Nat.reduceEqDiff, Nat.reduceAdd, Nat.reduceSub, Nat.reduceLeDiff, indexAddrA, indexRefA, appendA, strA, Nat.reduceMul, Nat.zero_mul, Nat.reduceMod, Int.reduceEq, Int.reduceLT, Int.reduceLE, Nat.reduceLT, Nat.lt_irrefl, Nat.reduceBEq, tys0, tys1, tys2, tys3, tys4, tys5, tys6, tys7, tys8, tys9, tys10, tys11, tys12, tys13, tys14, tys15, tys16, tys17, tys18, Try.ntmps40, Try.results40, av]
      refine RunL.callp rfl rfl ok_f63 (IsOrdinal_ok a hs) (by first | rfl | simp only [pureL, pureB, Bool.and_self, Bool.and_true, Bool.true_and, Od.elems_pure, Od.pay_pure, Od.av_pure]) rfl ?_
      simp only [run0, run1, run2, run3, run4, run5, run6, run7, run8, run9, run10, run11, run12, run13, run14, run15, run16, run17, run18, run19, run20, run21, run22, reduceCtorEq, Nat.reduceEqDiff, Nat.reduceAdd, Nat.reduceSub, Nat.reduceLeDiff, indexAddrA, indexRefA, appendA, strA, Nat.reduceMul, Nat.zero_mul, Nat.reduceMod, Int.reduceEq, Int.reduceLT, Int.reduceLE, Nat.reduceLT, Nat.lt_irrefl, Nat.reduceBEq, tys0, tys1, tys2, tys3, tys4, tys5, tys6, tys7, tys8, tys9, tys10, tys11, tys12, tys13, tys14, tys15, tys16, tys17, tys18, Try.ntmps40, Try.results40, hg]
      exact Fin.keep [] rfl rfl
    · rw [show hydO a = none by unfold hydO; rw [hg]; rfl]
      exact ⟨keepS_okSO _ _, rfl⟩
  rw [show hydO a = growT (-1) a [] by unfold hydO; rw [hg]; rfl]
  have hag := agr_0 a
  have hgr := grown_ok a [.box 24 [.sl false (elems a)], .box 60 [nilV], .box 3 [.int .i64 40]] 2 40 rfl (by omega) hs (goodT_rng hg)
  obtain ⟨h1, h2, h3⟩ := grT_spec 2 a [.box 24 [.sl false (elems a)], .box 60 [nilV], .box 3 [.int .i64 40]] 40 rfl
  cases hG : grT 2 a [.box 24 [.sl false (elems a)], .box 60 [nilV], .box 3 [.int .i64 40]] with
  | mk o L3 =>
    rw [hG] at hgr h1 h2 h3
    simp only at hgr h1 h2 h3
    have p1 : L3[1]? = some (.box 60 [nilV]) := h1 1 (by simp) (by decide)
    have p1l := (List.getElem?_eq_some_iff.1 p1).1
    simp only [nilV] at hgr p1
    have s1 : ∀ B : AObj, (L3.set 1 B)[1]? = some B := fun B => List.getElem?_set_self p1l
    cases hgN : gN a 40 with
    | none =>
      rw [hgN] at hag h3
      simp only at h3
      subst h3
      simp only [rTr, av] at hgr
      refine ⟨.tup [.agg [nilV], .bool false], ?_⟩
      apply ex1
      · apply Ct.by_ hmix [] Try.func40 rfl
        simp only [run0, run1, run2, run3, run4, run5, run6, run7, run8, run9, run10, run11, run12, run13, run14, run15, run16, run17, run18, run19, run20, run21, run22, reduceCtorEq, Nat.reduceEqDiff, Nat.reduceAdd, Nat.reduceSub, Nat.reduceLeDiff, indexAddrA, indexRefA, appendA, strA, Nat.reduceMul, Nat.zero_mul, Nat.reduceMod, Int.reduceEq, Int.reduceLT, Int.reduceLE, Nat.reduceLT, Nat.lt_irrefl, Nat.reduceBEq, tys0, tys1, tys2, tys3, tys4, tys5, tys6, tys7, tys8, tys9, tys10, tys11, tys12, tys13, tys14, tys15, tys16, tys17, tys18, Try.ntmps40, Try.results40, av]
        refine RunL.callp rfl rfl ok_f63 (IsOrdinal_ok a hs) (by first | rfl | simp only [pureL, pureB, Bool.and_self, Bool.and_true, Bool.true_and, Od.elems_pure, Od.pay_pure, Od.av_pure]) rfl ?_
        simp only [run0, run1, run2, run3, run4, run5, run6, run7, run8, run9, run10, run11, run12, run13, run14, run15, run16, run17, run18, run19, run20, run21, run22, reduceCtorEq, Nat.reduceEqDiff, Nat.reduceAdd, Nat.reduceSub, Nat.reduceLeDiff, indexAddrA, indexRefA, appendA, strA, Nat.reduceMul, Nat.zero_mul, Nat.reduceMod, Int.reduceEq, Int.reduceLT, Int.reduceLE, Nat.reduceLT, Nat.lt_irrefl, Nat.reduceBEq, tys0, tys1, tys2, tys3, tys4, tys5, tys6, tys7, tys8, tys9, tys10, tys11, tys12, tys13, tys14, tys15, tys16, tys17, tys18, Try.ntmps40, Try.results40, hg]
        refine RunL.callM rfl rfl ok_f84 rfl rfl hgr rfl ?_
        simp only [run0, run1, run2, run3, run4, run5, run6, run7, run8, run9, run10, run11, run12, run13, run14, run15, run16, run17, run18, run19, run20, run21, run22, reduceCtorEq, Nat.reduceEqDiff, Nat.reduceAdd, Nat.reduceSub, Nat.reduceLeDiff, indexAddrA, indexRefA, appendA, strA, Nat.reduceMul, Nat.zero_mul, Nat.reduceMod, Int.reduceEq, Int.reduceLT, Int.reduceLE, Nat.reduceLT, Nat.lt_irrefl, Nat.reduceBEq, tys0, tys1, tys2, tys3, tys4, tys5, tys6, tys7, tys8, tys9, tys10, tys11, tys12, tys13, tys14, tys15, tys16, tys17, tys18, Try.ntmps40, Try.results40]
        refine RunL.opC (x := .bool true) (L' := L3) rfl rfl rfl (fun s1 q1 q2 => ?_) ?_
        · have e1 := q2 (.tmp 12) (by simp [Op.operands, Call.operands])
          exact withL (eqNil_sound (b := true) rfl tree_ptr (.inl ⟨e1.trans rfl, rfl⟩)) q1
        simp only [run0, run1, run2, run3, run4, run5, run6, run7, run8, run9, run10, run11, run12, run13, run14, run15, run16, run17, run18, run19, run20, run21, run22, reduceCtorEq, Nat.reduceEqDiff, Nat.reduceAdd, Nat.reduceSub, Nat.reduceLeDiff, indexAddrA, indexRefA, appendA, strA, Nat.reduceMul, Nat.zero_mul, Nat.reduceMod, Int.reduceEq, Int.reduceLT, Int.reduceLE, Nat.reduceLT, Nat.lt_irrefl, Nat.reduceBEq, tys0, tys1, tys2, tys3, tys4, tys5, tys6, tys7, tys8, tys9, tys10, tys11, tys12, tys13, tys14, tys15, tys16, tys17, tys18, Try.ntmps40, Try.results40, p1, s1]
        exact Fin.keep [] rfl rfl
      · rw [show growT (-1) a [] = none from hag]
        exact ⟨keepS_okSO _ _, rfl⟩
    | some p =>
      obtain ⟨F, b⟩ := p
      rw [hgN] at hag h3
      obtain ⟨Q, q1, q2, q3⟩ := hag
      obtain ⟨id, cv, S, rfl, k1, k2, k3, k4, k5, k6, k7⟩ := h3
      have hz : F.sz ≤ 1000 := by
        have e : flatL 0 F [-1] = (true, Q) := q2
        have := flatL_sz F 0 _ _ e
        simp at this; omega
      have hho := hydraOf_ok F 0 hz
      rw [show flat1 (-1) F [] = (true, Q) from q2] at hho
      have hv := k3.view k2
      simp only [rTr, av] at hgr
      have hoS : okS (rI (optF (true, Q))) = true := rfl
      have hM : (mI (optF (true, Q))).all okSO = true := by
        rw [show mI (optF (true, Q)) = keepS [3] [.dead, .dead, .dead, .vec 3 1 Q.length (ints Q)] from (keep3 _ _ _ Q).symm]
        exact keepS_okSO _ _
      have sm : ∀ k, List.map (shA k) (ints Q) = ints Q := fun k => by
        rw [List.map_map]
        exact List.map_congr_left fun x _ => rfl
      have hmm : (mI (optF (true, Q))).map (shO L3.length) = [.dead, .dead, .dead, .vec 3 1 Q.length (ints Q)] := by
        show [AObj.dead, AObj.dead, AObj.dead, AObj.vec 3 1 Q.length (List.map (shA L3.length) (ints Q))] = _
        rw [sm]
      have hrr : shA L3.length (rI (optF (true, Q))) = .tup [.agg [.ref (3 + L3.length) [] Q.length Q.length], .bool true] := rfl
      have p2 : ∀ X, (L3 ++ X)[1]? = some (.box 60 [.lit (.slice none 0 0)]) := fun X => by rw [List.getElem?_append_left p1l]; exact p1
      have s2 : ∀ X B, ((L3 ++ X).set 1 B)[1]? = some B := fun X B => List.getElem?_set_self (by simp; omega)
      rw [q1]
      refine ⟨.tup [.agg [.ref (3 + L3.length) [] Q.length Q.length], .bool true], ?_⟩
      apply ex1
      · apply Ct.by_ hmix [] Try.func40 rfl
        simp only [run0, run1, run2, run3, run4, run5, run6, run7, run8, run9, run10, run11, run12, run13, run14, run15, run16, run17, run18, run19, run20, run21, run22, reduceCtorEq, Nat.reduceEqDiff, Nat.reduceAdd, Nat.reduceSub, Nat.reduceLeDiff, indexAddrA, indexRefA, appendA, strA, Nat.reduceMul, Nat.zero_mul, Nat.reduceMod, Int.reduceEq, Int.reduceLT, Int.reduceLE, Nat.reduceLT, Nat.lt_irrefl, Nat.reduceBEq, tys0, tys1, tys2, tys3, tys4, tys5, tys6, tys7, tys8, tys9, tys10, tys11, tys12, tys13, tys14, tys15, tys16, tys17, tys18, Try.ntmps40, Try.results40, av]
        refine RunL.callp rfl rfl ok_f63 (IsOrdinal_ok a hs) (by first | rfl | simp only [pureL, pureB, Bool.and_self, Bool.and_true, Bool.true_and, Od.elems_pure, Od.pay_pure, Od.av_pure]) rfl ?_
        simp only [run0, run1, run2, run3, run4, run5, run6, run7, run8, run9, run10, run11, run12, run13, run14, run15, run16, run17, run18, run19, run20, run21, run22, reduceCtorEq, Nat.reduceEqDiff, Nat.reduceAdd, Nat.reduceSub, Nat.reduceLeDiff, indexAddrA, indexRefA, appendA, strA, Nat.reduceMul, Nat.zero_mul, Nat.reduceMod, Int.reduceEq, Int.reduceLT, Int.reduceLE, Nat.reduceLT, Nat.lt_irrefl, Nat.reduceBEq, tys0, tys1, tys2, tys3, tys4, tys5, tys6, tys7, tys8, tys9, tys10, tys11, tys12, tys13, tys14, tys15, tys16, tys17, tys18, Try.ntmps40, Try.results40, hg]
        refine RunL.callM rfl rfl ok_f84 rfl rfl hgr rfl ?_
        simp only [run0, run1, run2, run3, run4, run5, run6, run7, run8, run9, run10, run11, run12, run13, run14, run15, run16, run17, run18, run19, run20, run21, run22, reduceCtorEq, Nat.reduceEqDiff, Nat.reduceAdd, Nat.reduceSub, Nat.reduceLeDiff, indexAddrA, indexRefA, appendA, strA, Nat.reduceMul, Nat.zero_mul, Nat.reduceMod, Int.reduceEq, Int.reduceLT, Int.reduceLE, Nat.reduceLT, Nat.lt_irrefl, Nat.reduceBEq, tys0, tys1, tys2, tys3, tys4, tys5, tys6, tys7, tys8, tys9, tys10, tys11, tys12, tys13, tys14, tys15, tys16, tys17, tys18, Try.ntmps40, Try.results40]
        refine RunL.opC (x := .bool false) (L' := L3) rfl rfl rfl (fun s1 q1 q2 => ?_) ?_
        · have e1 := q2 (.tmp 12) (by simp [Op.operands, Call.operands])
          exact withL (eqNil_sound (b := false) rfl tree_ptr (.inr ⟨⟨id, 0, e1.trans rfl⟩, rfl⟩)) q1
        simp only [run0, run1, run2, run3, run4, run5, run6, run7, run8, run9, run10, run11, run12, run13, run14, run15, run16, run17, run18, run19, run20, run21, run22, reduceCtorEq, Nat.reduceEqDiff, Nat.reduceAdd, Nat.reduceSub, Nat.reduceLeDiff, indexAddrA, indexRefA, appendA, strA, Nat.reduceMul, Nat.zero_mul, Nat.reduceMod, Int.reduceEq, Int.reduceLT, Int.reduceLE, Nat.reduceLT, Nat.lt_irrefl, Nat.reduceBEq, tys0, tys1, tys2, tys3, tys4, tys5, tys6, tys7, tys8, tys9, tys10, tys11, tys12, tys13, tys14, tys15, tys16, tys17, tys18, Try.ntmps40, Try.results40, p1, s1]
        refine RunL.lendGV rfl rfl ok_f85 rfl hho (.cons hv .nil) hoS hM rfl ?_
        simp only [run0, run1, run2, run3, run4, run5, run6, run7, run8, run9, run10, run11, run12, run13, run14, run15, run16, run17, run18, run19, run20, run21, run22, reduceCtorEq, Nat.reduceEqDiff, Nat.reduceAdd, Nat.reduceSub, Nat.reduceLeDiff, indexAddrA, indexRefA, appendA, strA, Nat.reduceMul, Nat.zero_mul, Nat.reduceMod, Int.reduceEq, Int.reduceLT, Int.reduceLE, Nat.reduceLT, Nat.lt_irrefl, Nat.reduceBEq, tys0, tys1, tys2, tys3, tys4, tys5, tys6, tys7, tys8, tys9, tys10, tys11, tys12, tys13, tys14, tys15, tys16, tys17, tys18, Try.ntmps40, Try.results40, hmm, hrr, p2, s2]
        exact Fin.keep [3 + L3.length] rfl rfl
      · refine ⟨keepS_okSO _ _, 3 + L3.length, rfl, ?_⟩
        refine keepS_in (by simp) (okTO_ints Q _) ?_
        rw [List.getElem?_set_ne (by omega), List.getElem?_append_right (by omega)]
        simp

end Go.Proofs.Ytphmkhaboghagaa
/-
  Hydras of ordinals: the law.
-/
namespace Go.Proofs.Ytphmkhaboghagaa
open Go K Od
set_option linter.unusedSimpArgs false
set_option linter.unusedVariables false
set_option maxHeartbeats 3200000
set_option maxRecDepth 8000

theorem toOrdOwn_ok (a : Od) (hs : a.sz ≤ 1048576) : ∃ x M, Ct Try.prog 19 [av a] [] (.agg [x]) M ∧ Own M a x := toOrdinal_of (toS_ok a hs)
theorem vwH1 {L : List AObj} {a : Od} {x : AV} {S : List Nat} (h : OwnR L 88 2 a x S) : Vw L (.agg [x]) (av a) := Vw.agg (.cons (h.view false) .nil)
theorem vwH2 {L : List AObj} {a b : Od} {x : AV} {S : List Nat} (h : OwnR L 88 2 a x S) : VwL L [.agg [x], .agg [.sl false (elems b)]] [av a, av b] :=
  .cons (vwH1 h) (.cons (.pur (.of (by simp only [pureB, pureL, elems_pure, Bool.and_self]))) .nil)
/-- A list of parents with a row of its own. -/
def OwnH (L : List AObj) (n : Nat) (P : List Int) (y : AV) : Prop := P.length = n ∧ ((P = [] ∧ y = nilV) ∨ ∃ id, y = .ref id [] n n ∧ L[id]? = some (.vec 3 1 n (ints P)))
theorem OwnH.view {L : List AObj} {n : Nat} {P : List Int} {y : AV} (h : OwnH L n P y) : Vw L y (.sl false (ints P)) := by
  rcases h with ⟨hn, ⟨rfl, rfl⟩ | ⟨id, rfl, h2⟩⟩
  · exact Vw.nil false
  · exact Vw_intR h2 rfl hn.symm
theorem OwnH.v2 {L : List AObj} {n : Nat} {P Q : List Int} {y : AV} (h : OwnH L n P y) : VwL L [.agg [y], .agg [.sl false (ints Q)]] [hyA P, hyA Q] := .cons (.agg (.cons h.view .nil)) (.cons (.pur (.of (hyA_pure Q))) .nil)
theorem OwnH.v3 {L : List AObj} {n : Nat} {P : List Int} {y : AV} {k : Int} (h : OwnH L n P y) : VwL L [.agg [y], .int .i64 k] [hyA P, .int .i64 k] := .cons (.agg (.cons h.view .nil)) (.cons (.pur (.int _ _)) .nil)
theorem OwnH.more {L : List AObj} {n : Nat} {P : List Int} {y : AV} (h : OwnH L n P y) (X : List AObj) : OwnH (L ++ X) n P y := by
  rcases h with ⟨hn, h | ⟨id, rfl, h2⟩⟩
  · exact ⟨hn, .inl h⟩
  · exact ⟨hn, .inr ⟨id, rfl, by rw [List.getElem?_append_left (List.getElem?_eq_some_iff.1 h2).1]; exact h2⟩⟩
theorem OwnH.shift {M L : List AObj} {n : Nat} {P : List Int} {y : AV} {k : Nat} (h : OwnH M n P y) (hL : ∀ id, L[id + k]? = (M[id]?).map (shO k)) : OwnH L n P (shA k y) := by
  rcases h with ⟨hn, ⟨h1, rfl⟩ | ⟨id, rfl, h2⟩⟩
  · exact ⟨hn, .inl ⟨h1, rfl⟩⟩
  · refine ⟨hn, .inr ⟨id + k, rfl, ?_⟩⟩
    rw [hL, h2]
    show some (AObj.vec 3 1 n ((ints P).map (shA k))) = _
    rw [ints_sh]
theorem HoR.own {o : Option (List Int)} {M : List AObj} {r : AV} (h : HoR o M r) : ∃ y, r = .tup [.agg [y], .bool o.isSome] ∧ OwnH M (o.getD []).length (o.getD []) y ∧ okS r = true ∧ M.all okSO = true := by
  cases o with
  | none => obtain ⟨h1, rfl⟩ := h; exact ⟨nilV, rfl, ⟨rfl, .inl ⟨rfl, rfl⟩⟩, rfl, h1⟩
  | some P => obtain ⟨h1, id, rfl, h2⟩ := h; exact ⟨_, rfl, ⟨rfl, .inr ⟨id, rfl, h2⟩⟩, rfl, h1⟩
theorem markOwnH_ok (L0 : List AObj) (n : Nat) (P : List Int) (y : AV) (h : OwnH L0 n P y) (hl : P.length ≤ 1048576) : ∃ L', Ct Try.prog 41 [.agg [y], .int .i64 1] L0 (.int .i64 (1 + n)) L' ∧ OwnH L' n (mkI P 1) y ∧
    (∀ (i : Nat) (T : TypeId) (cs : List AV), L0[i]? = some (.box T cs) → L'[i]? = some (.box T cs)) := by
  rcases h with ⟨hn, ⟨rfl, rfl⟩ | ⟨id, rfl, h2⟩⟩
  · have := Ct.lend (L := L0) (markHydraNone_ok 1) (xs := [.agg [nilV], .int .i64 1]) (.cons (.agg (.cons (.nil false) .nil)) (.cons (.pur (.int _ _)) .nil)) rfl
    simp only [List.length_nil] at hn
    subst hn
    exact ⟨L0, this, ⟨rfl, .inl ⟨rfl, rfl⟩⟩, fun i T cs h => h⟩
  · subst hn
    have hc := markHydra_ok P id P.length L0 1 h2 hl (by omega) (by omega)
    have hil := (List.getElem?_eq_some_iff.1 h2).1
    refine ⟨_, hc, ⟨mkI_len P 1, .inr ⟨id, rfl, List.getElem?_set_self (by simp; omega)⟩⟩, fun i T cs h => ?_⟩
    have hne : id ≠ i := fun e => by subst e; rw [h2] at h; cases h
    rw [List.getElem?_set_ne hne, List.getElem?_append_left (List.getElem?_eq_some_iff.1 h).1]; exact h

theorem FnExactHydraOf_ok {a0 : AV} (h0 : IsOf Try.prog 32 a0) : Ct Try.prog 9 [a0] [] (.bool true) [] := by
  obtain ⟨a, rfl, hf⟩ := laws_isOd h0
  rcases szR_spec a.sz 1048576 with ⟨hs, hr⟩ | ⟨hs, hr⟩
  case inr =>
    refine Ct.by_ hmix [] Try.func9 rfl ?_
    simp only [run0, run1, run2, run3, run4, run5, run6, run7, run8, run9, run10, run11, run12, run13, run14, run15, run16, run17, run18, run19, run20, run21, run22, reduceCtorEq, Nat.reduceEqDiff, Nat.reduceAdd, Nat.reduceSub, Nat.reduceLeDiff, indexAddrA, indexRefA, appendA, strA, Nat.reduceMul, Nat.zero_mul, Nat.reduceMod, Int.reduceEq, Int.reduceLT, Int.reduceLE, Nat.reduceLT, Nat.lt_irrefl, Nat.reduceBEq, tys0, tys1, tys2, tys3, tys4, tys5, tys6, tys7, tys8, tys9, tys10, tys11, tys12, tys13, tys14, tys15, tys16, tys17, tys18, Try.ntmps9, Try.results9, av]
    refine RunL.callp rfl rfl ok_f17 (szOrdinal_ok a 1048576 hf (by omega) (by omega)) (by first | rfl | simp only [pureL, pureB, Bool.and_self, Bool.and_true, Bool.true_and, Od.elems_pure, Od.pay_pure, Od.av_pure]) rfl ?_
    have e1 : szR a.sz 1048576 < 0 := by omega
    simp only [run0, run1, run2, run3, run4, run5, run6, run7, run8, run9, run10, run11, run12, run13, run14, run15, run16, run17, run18, run19, run20, run21, run22, reduceCtorEq, Nat.reduceEqDiff, Nat.reduceAdd, Nat.reduceSub, Nat.reduceLeDiff, indexAddrA, indexRefA, appendA, strA, Nat.reduceMul, Nat.zero_mul, Nat.reduceMod, Int.reduceEq, Int.reduceLT, Int.reduceLE, Nat.reduceLT, Nat.lt_irrefl, Nat.reduceBEq, tys0, tys1, tys2, tys3, tys4, tys5, tys6, tys7, tys8, tys9, tys10, tys11, tys12, tys13, tys14, tys15, tys16, tys17, tys18, Try.ntmps9, Try.results9, e1]
    exact Fin.eq rfl rfl
  have ha : a.sz ≤ 1048576 := by omega
  have e1 : ¬ (szR a.sz 1048576 < 0) := by omega
  have hsp := specHydraOf_ok a ha
  obtain ⟨r1, M1, hi, hor⟩ := implHydraOf_ok a ha
  obtain ⟨g, rfl, ho1, oS, hM1⟩ := hor.own
  have hRs : ((hydO a).getD []).length ≤ 40 := by
    cases hh : hydO a with
    | none => simp
    | some P => exact hydO_len hh
  generalize hnn : ((hydO a).getD []).length = n at *
  simp only [optH] at hsp
  generalize (hydO a).getD [] = R at *
  generalize (hydO a).isSome = ok at *
  obtain ⟨x, M0, hx, S0, ho0, hn0, hM0⟩ := toOrdOwn_ok a ha
  -- the memory behind both
  generalize hM0' : M0.map (shO 2) = N0 at *
  generalize hM1' : M1.map (shO (N0.length + 1 + 1 + 1)) = N1 at *
  have ox : ∀ X, OwnR (.box 32 [.sl false (elems a)] :: .box 60 [.sl false (ints R)] :: (N0 ++ X)) 88 2 a (shA 2 x) (S0.map (· + 2)) := fun X =>
    (OwnR.sh (L' := .box 32 [.sl false (elems a)] :: .box 60 [.sl false (ints R)] :: N0) (fun id => by simp [← hM0']) ho0).more X
  generalize hx' : shA 2 x = X0 at *
  have n0 := nodup_add 2 hn0
  generalize hS0 : S0.map (· + 2) = T0 at *
  have og : ∀ X, OwnH (.box 32 [.sl false (elems a)] :: .box 60 [.sl false (ints R)] :: (N0 ++ .box 24 [X0] :: (N1 ++ X))) n R (shA (N0.length + 1 + 1 + 1) g) := fun X => by
    have := (OwnH.shift (L := .box 32 [.sl false (elems a)] :: .box 60 [.sl false (ints R)] :: (N0 ++ .box 24 [X0] :: N1)) ho1 (fun id => by
      rw [show id + (N0.length + 1 + 1 + 1) = (N0.length + (id + 1)) + 2 by omega]
      simp only [List.getElem?_cons_succ]
      rw [getXn, List.getElem?_cons_succ, ← hM1', List.getElem?_map])).more X
    simp only [List.cons_append, List.append_assoc] at this
    exact this
  have glo : ∀ id, shA (N0.length + 1 + 1 + 1) g = .ref id [] n n → N0.length + 3 ≤ id := fun id e => by
    rcases ho1 with ⟨_, ⟨_, rfl⟩ | ⟨id0, rfl, _⟩⟩
    · cases e
    · simp only [shA, AV.ref.injEq] at e; omega
  generalize hG : shA (N0.length + 1 + 1 + 1) g = G0 at *
  have xlt : ∀ id ∈ T0, id < N0.length + 2 := fun id hid => by have := (ox []).lt id hid; simpa using this
  have nbox : ∀ {L : List AObj} {b : Od} {y : AV} {S : List Nat} {id : Nat} {T : TypeId} {cs : List AV}, OwnR L 88 2 b y S → L[id]? = some (.box T cs) → id ∉ S := fun h hb hid => by
    obtain ⟨_, _, h2, _⟩ := h.objs _ hid
    rw [hb] at h2; cases h2
  -- the marks of the argument
  obtain ⟨L1, hc1, hm1, hf1, hl1⟩ := markOrdinal_ok a X0 T0 (.box 32 [.sl false (elems a)] :: .box 60 [.sl false (ints R)] :: (N0 ++ .box 24 [X0] :: (N1 ++ [.box 60 [G0]]))) 1 (ox _) n0 (by omega) (by omega)
  have keep1 : ∀ (id : Nat) o, (.box 32 [.sl false (elems a)] :: .box 60 [.sl false (ints R)] :: (N0 ++ .box 24 [X0] :: (N1 ++ [.box 60 [G0]])) : List AObj)[id]? = some o → id ∉ T0 → L1[id]? = some o := fun id o h hn => by
    rw [hf1 id hn (List.getElem?_eq_some_iff.1 h).1]; exact h
  have keepB1 : ∀ (id : Nat) T cs, (.box 32 [.sl false (elems a)] :: .box 60 [.sl false (ints R)] :: (N0 ++ .box 24 [X0] :: (N1 ++ [.box 60 [G0]])) : List AObj)[id]? = some (.box T cs) → L1[id]? = some (.box T cs) := fun id T cs h => keep1 id _ h (nbox (ox _) h)
  have q0 : L1[0]? = some (.box 32 [.sl false (elems a)]) := keepB1 0 _ _ rfl
  have q1 : L1[1]? = some (.box 60 [.sl false (ints R)]) := keepB1 1 _ _ rfl
  have q7 : L1[N0.length + (N1.length + 1) + 1 + 1]? = some (.box 60 [G0]) := keepB1 _ _ _ (by simp only [List.getElem?_cons_succ, getXn, getX0, List.getElem?_cons_zero])
  have og1 : OwnH L1 n R G0 := by
    rcases og [.box 60 [G0]] with ⟨hn, h | ⟨id, e, h2⟩⟩
    · exact ⟨hn, .inl h⟩
    · exact ⟨hn, .inr ⟨id, e, keep1 id _ h2 fun h3 => by have := xlt id h3; have := glo id e; omega⟩⟩
  -- the marks of the result
  obtain ⟨L2, hc2, og2, hf2⟩ := markOwnH_ok L1 n R G0 og1 (by omega)
  have keepB2 : ∀ {id : Nat} {T : TypeId} {cs : List AV}, L1[id]? = some (.box T cs) → L2[id]? = some (.box T cs) := fun h => hf2 _ _ _ h
  have p0 := keepB2 q0
  have p1 := keepB2 q1
  have p7 := keepB2 q7
  have r1 : ∀ X, (L2 ++ X)[1]? = some (.box 60 [.sl false (ints R)]) := fun X => by rw [List.getElem?_append_left (List.getElem?_eq_some_iff.1 p1).1]; exact p1
  have r7 : ∀ X, (L2 ++ X)[N0.length + (N1.length + 1) + 1 + 1]? = some (.box 60 [G0]) := fun X => by rw [List.getElem?_append_left (List.getElem?_eq_some_iff.1 p7).1]; exact p7
  have oh : ∀ X, OwnH (L2 ++ (M1.map (shO L2.length) ++ X)) n R (shA L2.length g) := fun X => by
    rw [← List.append_assoc]; exact (OwnH.shift ho1 (more_get L2 M1)).more X
  have hheld : Ct Try.prog 42 [hyA (mkI R 1), .int .i64 1] [] (.int .i64 (1 + (n : Int))) [] := by
    have := heldHydra_ok R 1 (by omega) (by omega) (by omega)
    rw [hnn] at this; exact this
  have e3 : ¬ (1 + (a.sz : Int) < 0) := by omega
  have e4 : ¬ (1 + (n : Int) < 0) := by omega
  refine Ct.by_ hmix [14, 2000000 + 40] Try.func9 rfl ?_
  simp only [run0, run1, run2, run3, run4, run5, run6, run7, run8, run9, run10, run11, run12, run13, run14, run15, run16, run17, run18, run19, run20, run21, run22, reduceCtorEq, Nat.reduceEqDiff, Nat.reduceAdd, Nat.reduceSub, Nat.reduceLeDiff, indexAddrA, indexRefA, appendA, strA, Nat.reduceMul, Nat.zero_mul, Nat.reduceMod, Int.reduceEq, Int.reduceLT, Int.reduceLE, Nat.reduceLT, Nat.lt_irrefl, Nat.reduceBEq, tys0, tys1, tys2, tys3, tys4, tys5, tys6, tys7, tys8, tys9, tys10, tys11, tys12, tys13, tys14, tys15, tys16, tys17, tys18, Try.ntmps9, Try.results9, av]
  refine RunL.callp rfl rfl ok_f17 (szOrdinal_ok a 1048576 hf (by omega) (by omega)) (by first | rfl | simp only [pureL, pureB, Bool.and_self, Bool.and_true, Bool.true_and, Od.elems_pure, Od.pay_pure, Od.av_pure]) rfl ?_
  simp only [run0, run1, run2, run3, run4, run5, run6, run7, run8, run9, run10, run11, run12, run13, run14, run15, run16, run17, run18, run19, run20, run21, run22, reduceCtorEq, Nat.reduceEqDiff, Nat.reduceAdd, Nat.reduceSub, Nat.reduceLeDiff, indexAddrA, indexRefA, appendA, strA, Nat.reduceMul, Nat.zero_mul, Nat.reduceMod, Int.reduceEq, Int.reduceLT, Int.reduceLE, Nat.reduceLT, Nat.lt_irrefl, Nat.reduceBEq, tys0, tys1, tys2, tys3, tys4, tys5, tys6, tys7, tys8, tys9, tys10, tys11, tys12, tys13, tys14, tys15, tys16, tys17, tys18, Try.ntmps9, Try.results9, e1]
  refine RunL.callp rfl rfl ok_f19 (toOrdinal_ok a ha) (by first | rfl | simp only [pureL, pureB, Bool.and_self, Bool.and_true, Bool.true_and, Od.elems_pure, Od.pay_pure, Od.av_pure]) rfl ?_
  simp only [run0, run1, run2, run3, run4, run5, run6, run7, run8, run9, run10, run11, run12, run13, run14, run15, run16, run17, run18, run19, run20, run21, run22, reduceCtorEq, Nat.reduceEqDiff, Nat.reduceAdd, Nat.reduceSub, Nat.reduceLeDiff, indexAddrA, indexRefA, appendA, strA, Nat.reduceMul, Nat.zero_mul, Nat.reduceMod, Int.reduceEq, Int.reduceLT, Int.reduceLE, Nat.reduceLT, Nat.lt_irrefl, Nat.reduceBEq, tys0, tys1, tys2, tys3, tys4, tys5, tys6, tys7, tys8, tys9, tys10, tys11, tys12, tys13, tys14, tys15, tys16, tys17, tys18, Try.ntmps9, Try.results9, av]
  refine RunL.callp rfl rfl ok_f39 hsp (by simp only [pureL, pureB, elems_pure, av_pure, Bool.and_self]) rfl ?_
  simp only [run0, run1, run2, run3, run4, run5, run6, run7, run8, run9, run10, run11, run12, run13, run14, run15, run16, run17, run18, run19, run20, run21, run22, reduceCtorEq, Nat.reduceEqDiff, Nat.reduceAdd, Nat.reduceSub, Nat.reduceLeDiff, indexAddrA, indexRefA, appendA, strA, Nat.reduceMul, Nat.zero_mul, Nat.reduceMod, Int.reduceEq, Int.reduceLT, Int.reduceLE, Nat.reduceLT, Nat.lt_irrefl, Nat.reduceBEq, tys0, tys1, tys2, tys3, tys4, tys5, tys6, tys7, tys8, tys9, tys10, tys11, tys12, tys13, tys14, tys15, tys16, tys17, tys18, Try.ntmps9, Try.results9, av, hyA]
  refine RunL.callgp rfl rfl ok_f19 rfl hx (by simp only [pureL, pureB, av_pure, Bool.and_self]) rfl ?_
  simp only [run0, run1, run2, run3, run4, run5, run6, run7, run8, run9, run10, run11, run12, run13, run14, run15, run16, run17, run18, run19, run20, run21, run22, reduceCtorEq, Nat.reduceEqDiff, Nat.reduceAdd, Nat.reduceSub, Nat.reduceLeDiff, indexAddrA, indexRefA, appendA, strA, Nat.reduceMul, Nat.zero_mul, Nat.reduceMod, Int.reduceEq, Int.reduceLT, Int.reduceLE, Nat.reduceLT, Nat.lt_irrefl, Nat.reduceBEq, tys0, tys1, tys2, tys3, tys4, tys5, tys6, tys7, tys8, tys9, tys10, tys11, tys12, tys13, tys14, tys15, tys16, tys17, tys18, Try.ntmps9, Try.results9, shA, shL, hx', hM0']
  refine RunL.lendGV rfl rfl ok_f40 rfl hi (.cons (vwH1 (ox _)) .nil) oS hM1 rfl ?_
  simp only [run0, run1, run2, run3, run4, run5, run6, run7, run8, run9, run10, run11, run12, run13, run14, run15, run16, run17, run18, run19, run20, run21, run22, reduceCtorEq, Nat.reduceEqDiff, Nat.reduceAdd, Nat.reduceSub, Nat.reduceLeDiff, indexAddrA, indexRefA, appendA, strA, Nat.reduceMul, Nat.zero_mul, Nat.reduceMod, Int.reduceEq, Int.reduceLT, Int.reduceLE, Nat.reduceLT, Nat.lt_irrefl, Nat.reduceBEq, tys0, tys1, tys2, tys3, tys4, tys5, tys6, tys7, tys8, tys9, tys10, tys11, tys12, tys13, tys14, tys15, tys16, tys17, tys18, Try.ntmps9, Try.results9, shA, shL, hM1', hG, setXn]
  refine RunL.lendV rfl rfl ok_f38 rfl (eqHydra_ok R (by omega)) (og _).v2 rfl rfl ?_
  simp only [run0, run1, run2, run3, run4, run5, run6, run7, run8, run9, run10, run11, run12, run13, run14, run15, run16, run17, run18, run19, run20, run21, run22, reduceCtorEq, Nat.reduceEqDiff, Nat.reduceAdd, Nat.reduceSub, Nat.reduceLeDiff, indexAddrA, indexRefA, appendA, strA, Nat.reduceMul, Nat.zero_mul, Nat.reduceMod, Int.reduceEq, Int.reduceLT, Int.reduceLE, Nat.reduceLT, Nat.lt_irrefl, Nat.reduceBEq, tys0, tys1, tys2, tys3, tys4, tys5, tys6, tys7, tys8, tys9, tys10, tys11, tys12, tys13, tys14, tys15, tys16, tys17, tys18, Try.ntmps9, Try.results9, bne_self_eq_false]
  refine ⟨by kernel_rfl, ?_⟩
  refine RunL.callp rfl rfl ok_f19 (toOrdinal_ok a ha) (by first | rfl | simp only [pureL, pureB, Bool.and_self, Bool.and_true, Bool.true_and, Od.elems_pure, Od.pay_pure, Od.av_pure]) rfl ?_
  simp only [run0, run1, run2, run3, run4, run5, run6, run7, run8, run9, run10, run11, run12, run13, run14, run15, run16, run17, run18, run19, run20, run21, run22, reduceCtorEq, Nat.reduceEqDiff, Nat.reduceAdd, Nat.reduceSub, Nat.reduceLeDiff, indexAddrA, indexRefA, appendA, strA, Nat.reduceMul, Nat.zero_mul, Nat.reduceMod, Int.reduceEq, Int.reduceLT, Int.reduceLE, Nat.reduceLT, Nat.lt_irrefl, Nat.reduceBEq, tys0, tys1, tys2, tys3, tys4, tys5, tys6, tys7, tys8, tys9, tys10, tys11, tys12, tys13, tys14, tys15, tys16, tys17, tys18, Try.ntmps9, Try.results9, av]
  refine RunL.lendV rfl rfl ok_f14 rfl (eqOrdinal_ok a a ha) (vwH2 (ox _)) rfl rfl ?_
  simp only [run0, run1, run2, run3, run4, run5, run6, run7, run8, run9, run10, run11, run12, run13, run14, run15, run16, run17, run18, run19, run20, run21, run22, reduceCtorEq, Nat.reduceEqDiff, Nat.reduceAdd, Nat.reduceSub, Nat.reduceLeDiff, indexAddrA, indexRefA, appendA, strA, Nat.reduceMul, Nat.zero_mul, Nat.reduceMod, Int.reduceEq, Int.reduceLT, Int.reduceLE, Nat.reduceLT, Nat.lt_irrefl, Nat.reduceBEq, tys0, tys1, tys2, tys3, tys4, tys5, tys6, tys7, tys8, tys9, tys10, tys11, tys12, tys13, tys14, tys15, tys16, tys17, tys18, Try.ntmps9, Try.results9, eqT_refl]
  refine RunL.callM rfl rfl ok_f15 rfl rfl hc1 rfl ?_
  simp only [run0, run1, run2, run3, run4, run5, run6, run7, run8, run9, run10, run11, run12, run13, run14, run15, run16, run17, run18, run19, run20, run21, run22, reduceCtorEq, Nat.reduceEqDiff, Nat.reduceAdd, Nat.reduceSub, Nat.reduceLeDiff, indexAddrA, indexRefA, appendA, strA, Nat.reduceMul, Nat.zero_mul, Nat.reduceMod, Int.reduceEq, Int.reduceLT, Int.reduceLE, Nat.reduceLT, Nat.lt_irrefl, Nat.reduceBEq, tys0, tys1, tys2, tys3, tys4, tys5, tys6, tys7, tys8, tys9, tys10, tys11, tys12, tys13, tys14, tys15, tys16, tys17, tys18, Try.ntmps9, Try.results9, e3, q0, q1, q7]
  refine RunL.lendV rfl rfl ok_f38 rfl (eqHydra_ok R (by omega)) og1.v2 rfl rfl ?_
  simp only [run0, run1, run2, run3, run4, run5, run6, run7, run8, run9, run10, run11, run12, run13, run14, run15, run16, run17, run18, run19, run20, run21, run22, reduceCtorEq, Nat.reduceEqDiff, Nat.reduceAdd, Nat.reduceSub, Nat.reduceLeDiff, indexAddrA, indexRefA, appendA, strA, Nat.reduceMul, Nat.zero_mul, Nat.reduceMod, Int.reduceEq, Int.reduceLT, Int.reduceLE, Nat.reduceLT, Nat.lt_irrefl, Nat.reduceBEq, tys0, tys1, tys2, tys3, tys4, tys5, tys6, tys7, tys8, tys9, tys10, tys11, tys12, tys13, tys14, tys15, tys16, tys17, tys18, Try.ntmps9, Try.results9, eqT_refl, bne_self_eq_false, q0, q1, q7]
  refine RunL.callM rfl rfl ok_f41 rfl rfl hc2 rfl ?_
  simp only [run0, run1, run2, run3, run4, run5, run6, run7, run8, run9, run10, run11, run12, run13, run14, run15, run16, run17, run18, run19, run20, run21, run22, reduceCtorEq, Nat.reduceEqDiff, Nat.reduceAdd, Nat.reduceSub, Nat.reduceLeDiff, indexAddrA, indexRefA, appendA, strA, Nat.reduceMul, Nat.zero_mul, Nat.reduceMod, Int.reduceEq, Int.reduceLT, Int.reduceLE, Nat.reduceLT, Nat.lt_irrefl, Nat.reduceBEq, tys0, tys1, tys2, tys3, tys4, tys5, tys6, tys7, tys8, tys9, tys10, tys11, tys12, tys13, tys14, tys15, tys16, tys17, tys18, Try.ntmps9, Try.results9, p0, p1, p7]
  refine RunL.lendV rfl rfl ok_f42 rfl hheld og2.v3 rfl rfl ?_
  simp only [run0, run1, run2, run3, run4, run5, run6, run7, run8, run9, run10, run11, run12, run13, run14, run15, run16, run17, run18, run19, run20, run21, run22, reduceCtorEq, Nat.reduceEqDiff, Nat.reduceAdd, Nat.reduceSub, Nat.reduceLeDiff, indexAddrA, indexRefA, appendA, strA, Nat.reduceMul, Nat.zero_mul, Nat.reduceMod, Int.reduceEq, Int.reduceLT, Int.reduceLE, Nat.reduceLT, Nat.lt_irrefl, Nat.reduceBEq, tys0, tys1, tys2, tys3, tys4, tys5, tys6, tys7, tys8, tys9, tys10, tys11, tys12, tys13, tys14, tys15, tys16, tys17, tys18, Try.ntmps9, Try.results9, e4, p0, p1, p7, bne_self_eq_false]
  refine RunL.callp rfl rfl ok_f19 (toOrdinal_ok a ha) (by first | rfl | simp only [pureL, pureB, Bool.and_self, Bool.and_true, Bool.true_and, Od.elems_pure, Od.pay_pure, Od.av_pure]) rfl ?_
  simp only [run0, run1, run2, run3, run4, run5, run6, run7, run8, run9, run10, run11, run12, run13, run14, run15, run16, run17, run18, run19, run20, run21, run22, reduceCtorEq, Nat.reduceEqDiff, Nat.reduceAdd, Nat.reduceSub, Nat.reduceLeDiff, indexAddrA, indexRefA, appendA, strA, Nat.reduceMul, Nat.zero_mul, Nat.reduceMod, Int.reduceEq, Int.reduceLT, Int.reduceLE, Nat.reduceLT, Nat.lt_irrefl, Nat.reduceBEq, tys0, tys1, tys2, tys3, tys4, tys5, tys6, tys7, tys8, tys9, tys10, tys11, tys12, tys13, tys14, tys15, tys16, tys17, tys18, Try.ntmps9, Try.results9]
  refine RunL.callgp rfl rfl ok_f40 rfl hi (by simp only [pureL, pureB, av_pure, Bool.and_self]) rfl ?_
  generalize hM2' : M1.map (shO L2.length) = N2 at *
  simp only [run0, run1, run2, run3, run4, run5, run6, run7, run8, run9, run10, run11, run12, run13, run14, run15, run16, run17, run18, run19, run20, run21, run22, reduceCtorEq, Nat.reduceEqDiff, Nat.reduceAdd, Nat.reduceSub, Nat.reduceLeDiff, indexAddrA, indexRefA, appendA, strA, Nat.reduceMul, Nat.zero_mul, Nat.reduceMod, Int.reduceEq, Int.reduceLT, Int.reduceLE, Nat.reduceLT, Nat.lt_irrefl, Nat.reduceBEq, tys0, tys1, tys2, tys3, tys4, tys5, tys6, tys7, tys8, tys9, tys10, tys11, tys12, tys13, tys14, tys15, tys16, tys17, tys18, Try.ntmps9, Try.results9, shA, shL, hM2', r1, r7, setXn]
  refine RunL.lendV rfl rfl ok_f38 rfl (eqHydra_ok R (by omega)) (oh _).v2 rfl rfl ?_
  simp only [run0, run1, run2, run3, run4, run5, run6, run7, run8, run9, run10, run11, run12, run13, run14, run15, run16, run17, run18, run19, run20, run21, run22, reduceCtorEq, Nat.reduceEqDiff, Nat.reduceAdd, Nat.reduceSub, Nat.reduceLeDiff, indexAddrA, indexRefA, appendA, strA, Nat.reduceMul, Nat.zero_mul, Nat.reduceMod, Int.reduceEq, Int.reduceLT, Int.reduceLE, Nat.reduceLT, Nat.lt_irrefl, Nat.reduceBEq, tys0, tys1, tys2, tys3, tys4, tys5, tys6, tys7, tys8, tys9, tys10, tys11, tys12, tys13, tys14, tys15, tys16, tys17, tys18, Try.ntmps9, Try.results9, eqT_refl, bne_self_eq_false, r1, r7]
  refine RunL.lendV rfl rfl ok_f42 rfl hheld (og2.more _).v3 rfl rfl ?_
  simp only [run0, run1, run2, run3, run4, run5, run6, run7, run8, run9, run10, run11, run12, run13, run14, run15, run16, run17, run18, run19, run20, run21, run22, reduceCtorEq, Nat.reduceEqDiff, Nat.reduceAdd, Nat.reduceSub, Nat.reduceLeDiff, indexAddrA, indexRefA, appendA, strA, Nat.reduceMul, Nat.zero_mul, Nat.reduceMod, Int.reduceEq, Int.reduceLT, Int.reduceLE, Nat.reduceLT, Nat.lt_irrefl, Nat.reduceBEq, tys0, tys1, tys2, tys3, tys4, tys5, tys6, tys7, tys8, tys9, tys10, tys11, tys12, tys13, tys14, tys15, tys16, tys17, tys18, Try.ntmps9, Try.results9, e4, bne_self_eq_false]
  exact Fin.eq rfl rfl

end Go.Proofs.Ytphmkhaboghagaa
