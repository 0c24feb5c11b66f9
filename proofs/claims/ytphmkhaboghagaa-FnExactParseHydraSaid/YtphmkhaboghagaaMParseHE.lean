/-
  Texts joined in one: PH2, PH3, PH4.
-/
import Derived.Test.YtphmkhaboghagaaMParseHD
/-
  Hydras read from text: the steps (plain law) and the reference.
-/
namespace Go.Proofs.Ytphmkhaboghagaa
open Go K Od
set_option linter.unusedSimpArgs false
set_option linter.unusedVariables false
set_option maxHeartbeats 3200000
set_option maxRecDepth 8000

def hdP : List Nat → Int
  | [] => -1
  | a :: _ => a
def stepH (P : List Int) (rp : List Nat) (c : UInt8) : Option (List Int × List Nat) :=
  if c = 40 ∧ P.length < 40 ∧ (rp ≠ [] ∨ P = []) then some (P ++ [hdP rp], P.length :: rp) else if c = 41 ∧ rp ≠ [] then some (P, rp.tail) else none
def runH : List UInt8 → List Int → List Nat → Option (List Int)
  | [], P, rp => if rp = [] ∧ P ≠ [] then some P else none
  | c :: s, P, rp => (stepH P rp c).bind fun q => runH s q.1 q.2
def txtP (P : List Int) : List Nat → List UInt8
  | [] => if P = [] then [] else shT (Fk P 0)
  | a :: r => ot P P.length (a :: r)
structure PhI (P : List Int) (rp : List Nat) (d : List UInt8) : Prop where
  par : ParOk P
  len : P.length ≤ 40
  good : P ≠ [] → GoodP P rp
  nil : P = [] ↔ d = []
  txt : txtP P rp = d
  ch : ∀ a r, rp = a :: r → ChP P a r
theorem PhI.start : PhI [] [] [] := ⟨fun c x h => by simp at h, by simp, fun h => absurd rfl h, by simp, rfl, fun a r h => by cases h⟩
theorem PhI.step {P : List Int} {rp : List Nat} {d : List UInt8} {c : UInt8} (h : PhI P rp d) {q : List Int × List Nat} (hq : stepH P rp c = some q) : PhI q.1 q.2 (d ++ [c]) := by
  unfold stepH at hq
  split at hq
  · rename_i hc
    obtain ⟨rfl, h40, hr⟩ := hc
    simp only [Option.some.injEq] at hq
    subst hq
    cases rp with
    | nil =>
      have hP : P = [] := by simpa using hr
      subst hP
      have hd : d = [] := h.nil.1 rfl
      subst hd
      refine ⟨fun c x hx => ?_, by simp, fun _ => ⟨[], [], rfl, rfl, rfl⟩, by simp, by rfl, fun a r e => ?_⟩
      · rcases c with _ | c
        · simp [hdP] at hx; subst hx; exact ⟨by omega, by omega⟩
        · simp [hdP] at hx
      · simp only [List.length_nil, List.cons.injEq] at e
        obtain ⟨rfl, rfl⟩ := e
        exact ⟨rfl, rfl⟩
    | cons a r =>
      have hch := h.ch a r rfl
      have hlt := hch.lt
      have hP : P ≠ [] := fun e => by subst e; simp at hlt
      refine ⟨par_snoc h.par (by simp only [hdP]; omega) (by simp only [hdP]; omega), by simp; omega, fun _ => (h.good hP).push hch.mem, by simp, ?_, fun b s e => ?_⟩
      · have e1 := ot_push h.par hch
        have e2 := h.txt
        simp only [txtP] at e2
        rw [e2] at e1
        exact e1
      · simp only [List.cons.injEq] at e
        obtain ⟨rfl, rfl⟩ := e
        exact hch.push
  · split at hq
    · rename_i hc
      obtain ⟨rfl, hr⟩ := hc
      simp only [Option.some.injEq] at hq
      subst hq
      cases rp with
      | nil => exact absurd rfl hr
      | cons a r =>
        have hch := h.ch a r rfl
        have hlt := hch.lt
        have hP : P ≠ [] := fun e => by subst e; simp at hlt
        have e2 := h.txt
        simp only [txtP] at e2
        refine ⟨h.par, h.len, fun hp => (h.good hp).pop, by simp [hP], ?_, fun b s e => ?_⟩
        · cases r with
          | nil => simp only [List.tail_cons, txtP]; rw [if_neg hP, ot_root h.par hch, e2]
          | cons b r => simp only [List.tail_cons, txtP]; rw [ot_close h.par hch, e2]
        · simp only [List.tail_cons] at e
          subst e
          exact hch.2.2.2
    · cases hq
theorem PhI.hyd {P : List Int} {rp : List Nat} {d : List UInt8} (h : PhI P rp d) (hP : P ≠ []) : hydB P = true := by
  obtain ⟨r, t, rfl, h1, h2⟩ := h.good hP
  have := h.len
  simp only [List.length_cons] at this
  simp [hydB, h1, this]
/-- Read to the end: right if and only if all is closed. -/
theorem PhI.last {P : List Int} {rp : List Nat} {d : List UInt8} (h : PhI P rp d) (hP : P ≠ []) : (shT (Fk P 0) = d) ↔ rp = [] := by
  have e2 := h.txt
  cases rp with
  | nil => simp only [txtP] at e2; rw [if_neg hP] at e2; simp [e2]
  | cons a r =>
    simp only [txtP] at e2
    have := ot_all h.par (h.ch a r rfl)
    rw [e2] at this
    constructor
    · intro e; rw [e] at this; omega
    · intro e; cases e
theorem PhI.hd {P : List Int} {a : Nat} {r : List Nat} {d : List UInt8} (h : PhI P (a :: r) d) : P[a]? = some (hdP r) := by
  have := h.ch a r rfl
  cases r with
  | nil => exact this.2
  | cons b r => exact this.1

theorem at_str (d r : List UInt8) (c : UInt8) : indexA Try.prog 9 (strL (d ++ c :: r)) (.int .i64 (d.length : Int)) = some (.int .u8 c.toNat) := by
  have hlt : d.length < (⟨(d ++ c :: r).toArray⟩ : ByteArray).size := by rw [strL_size]; simp
  have h2 : (⟨(d ++ c :: r).toArray⟩ : ByteArray)[d.length]? = some c := by
    rw [getElem?_pos (⟨(d ++ c :: r).toArray⟩ : ByteArray) d.length hlt]
    show some ((d ++ c :: r).toArray[d.length]'hlt) = _
    simp
  simp only [strL, indexA, Try.underlying9, Int.natCast_nonneg, if_true, Int.toNat_natCast, h2, Option.map_some]
def optH (o : Option (List Int)) : AV := .tup [hyA (o.getD []), .bool o.isSome]

structure PhS where
  d : List UInt8
  r : List UInt8
  P : List Int
  rp : List Nat
theorem runH_cons {c : UInt8} {s : List UInt8} {P : List Int} {rp : List Nat} {q : List Int × List Nat} (h : stepH P rp c = some q) : runH (c :: s) P rp = runH s q.1 q.2 := by
  show (stepH P rp c).bind (fun q => runH s q.1 q.2) = _
  rw [h]; rfl
theorem runH_none {c : UInt8} {s : List UInt8} {P : List Int} {rp : List Nat} (h : stepH P rp c = none) : runH (c :: s) P rp = none := by
  show (stepH P rp c).bind (fun q => runH s q.1 q.2) = _
  rw [h]; rfl
theorem vw_fail (L : List AObj) : Vw L (.tup [.agg [nilV], .bool false]) (optH none) := .tup (.cons (.agg (.cons (.nil false) .nil)) (.cons (.pur (.bool _)) .nil))
theorem specParse_ok (s : List UInt8) (hs : s.length ≤ 1048576) : Ct Try.prog 45 [strL s] [] (optH (runH s [] [])) [] := by
  have hsz := strL_size s
  refine Ct.by_ hmix [] Try.func45 rfl ?_
  simp only [run0, run1, run2, run3, run4, run5, run6, run7, run8, run9, run10, run11, run12, run13, run14, run15, run16, run17, run18, run19, run20, run21, run22, reduceCtorEq, Nat.reduceEqDiff, Nat.reduceAdd, Nat.reduceSub, Nat.reduceLeDiff, indexAddrA, indexRefA, appendA, strA, Nat.reduceMul, Nat.zero_mul, Nat.reduceMod, Int.reduceEq, Int.reduceLT, Int.reduceLE, Nat.reduceLT, Nat.lt_irrefl, Nat.reduceBEq, tys0, tys1, tys2, tys3, tys4, tys5, tys6, tys7, tys8, tys9, tys10, tys11, tys12, tys13, tys14, tys15, tys16, tys17, tys18, Try.ntmps45, Try.results45, strL]
  refine AWp.nilB 1 0 3 1 rfl rfl ?_
  refine AWp.loop_inv (ι := PhS) (fun p => ⟨[strL s, .junk, .ptr 0 0, .bool false, .ptr 1 0, .int .i64 (hdP p.rp), .int .i64 p.d.length, .junk, .junk, .junk, .junk, .junk, .junk, .junk, .junk, .junk, .junk, .junk, .junk, .junk, .junk, .junk, .junk, .junk, .junk, .junk, .junk, .junk, .junk, .junk, .junk, .junk, .junk, .junk, .junk, .junk, .junk, .junk, .junk, .junk, .junk, .junk, .junk, .junk, .junk, .junk, .junk, .junk, .junk, .junk, .junk, .junk, .junk, .junk, .junk, .junk, .junk, .junk, .junk, .junk, .junk, .junk, .junk, .junk, .junk, .junk, .junk, .junk],
      [.box 60 [nilV], .box 60 [.ref 2 [] p.P.length p.P.length], .vec 3 1 p.P.length (ints p.P)]⟩)
    (fun p => s = p.d ++ p.r ∧ PhI p.P p.rp p.d ∧ runH p.r p.P p.rp = runH s [] []) (fun p => p.r.length) ⟨[], s, [], []⟩ ⟨rfl, PhI.start, rfl⟩ ⟨by simp only [List.length_nil, Int.natCast_zero]; repeat constructor, rfl⟩ ?_
  rintro ⟨d, r, P, rp⟩ ⟨ha, hI, hrun⟩
  refine W.sound hmix (E := []) ?_
  simp only at ha hI hrun
  rw [← hrun]
  have hda : d.length + r.length = s.length := by rw [ha, List.length_append]
  have hPl := hI.len
  have hno := ints_noOwn P
  cases r with
  | nil =>
    have e1 : ¬ ((d.length : Int) < (s.length : Int)) := by simp at hda; omega
    cases rp with
    | cons a rp =>
      have e2 : 0 ≤ hdP (a :: rp) := by simp only [hdP]; omega
      simp only [run0, run1, run2, run3, run4, run5, run6, run7, run8, run9, run10, run11, run12, run13, run14, run15, run16, run17, run18, run19, run20, run21, run22, reduceCtorEq, Nat.reduceEqDiff, Nat.reduceAdd, Nat.reduceSub, Nat.reduceLeDiff, indexAddrA, indexRefA, appendA, strA, Nat.reduceMul, Nat.zero_mul, Nat.reduceMod, Int.reduceEq, Int.reduceLT, Int.reduceLE, Nat.reduceLT, Nat.lt_irrefl, Nat.reduceBEq, tys0, tys1, tys2, tys3, tys4, tys5, tys6, tys7, tys8, tys9, tys10, tys11, tys12, tys13, tys14, tys15, tys16, tys17, tys18, Try.ntmps45, Try.results45, strL, hsz, e1, e2, List.length_map]
      exact Fin.value (vw_fail _)
    | nil =>
      have e2 : ¬ (0 ≤ hdP []) := by decide
      by_cases hP : P = []
      · have z0 : ((P.length : Int) == 0) = true := by simp [hP]
        rw [show runH [] P [] = none from if_neg (by simp [hP])]
        simp only [run0, run1, run2, run3, run4, run5, run6, run7, run8, run9, run10, run11, run12, run13, run14, run15, run16, run17, run18, run19, run20, run21, run22, reduceCtorEq, Nat.reduceEqDiff, Nat.reduceAdd, Nat.reduceSub, Nat.reduceLeDiff, indexAddrA, indexRefA, appendA, strA, Nat.reduceMul, Nat.zero_mul, Nat.reduceMod, Int.reduceEq, Int.reduceLT, Int.reduceLE, Nat.reduceLT, Nat.lt_irrefl, Nat.reduceBEq, tys0, tys1, tys2, tys3, tys4, tys5, tys6, tys7, tys8, tys9, tys10, tys11, tys12, tys13, tys14, tys15, tys16, tys17, tys18, Try.ntmps45, Try.results45, strL, hsz, e1, e2, z0, List.length_map]
        exact Fin.value (vw_fail _)
      · have e3 : ((P.length : Int) == 0) = false := by
          have : P.length ≠ 0 := fun h => hP (List.length_eq_zero_iff.1 h)
          simpa using this
        simp only [run0, run1, run2, run3, run4, run5, run6, run7, run8, run9, run10, run11, run12, run13, run14, run15, run16, run17, run18, run19, run20, run21, run22, reduceCtorEq, Nat.reduceEqDiff, Nat.reduceAdd, Nat.reduceSub, Nat.reduceLeDiff, indexAddrA, indexRefA, appendA, strA, Nat.reduceMul, Nat.zero_mul, Nat.reduceMod, Int.reduceEq, Int.reduceLT, Int.reduceLE, Nat.reduceLT, Nat.lt_irrefl, Nat.reduceBEq, tys0, tys1, tys2, tys3, tys4, tys5, tys6, tys7, tys8, tys9, tys10, tys11, tys12, tys13, tys14, tys15, tys16, tys17, tys18, Try.ntmps45, Try.results45, strL, hsz, e1, e2, e3, List.length_map]
        refine Fin.value ?_
        have : runH [] P [] = some P := if_pos ⟨rfl, hP⟩
        rw [this]
        exact .tup (.cons (.agg (.cons (Vw_intR rfl rfl rfl) .nil)) (.cons (.pur (.bool _)) .nil))
  | cons c r =>
    simp only [List.length_cons] at hda
    have e1 : (d.length : Int) < (s.length : Int) := by omega
    have e2 := at_str d r c
    rw [← ha] at e2
    simp only [strL] at e2
    have e5 : IntKind.i64.wrap ((d.length : Int) + 1) = ((d ++ [c]).length : Int) := by rw [i64_id (by omega) (by omega)]; simp
    have f3 : P.length + 1 ≤ 137438953472 := by omega
    have ne1 : ∀ k : Nat, c ≠ UInt8.ofNat k → k < 256 → ((c.toNat : Int) == (k : Int)) = false := fun k hk hk2 => by
      rw [beq_eq_false_iff_ne]
      intro he
      have he2 : c.toNat = k := by omega
      exact hk (UInt8.toNat_inj.1 (by rw [he2]; simp; omega))
    have failed : stepH P rp c = none → runH (c :: r) P rp = none := runH_none
    by_cases h4 : c = 40
    · subst h4
      have c4 : (((40 : UInt8).toNat : Int) == 40) = true := rfl
      have c5 : (((40 : UInt8).toNat : Int) == 41) = false := rfl
      by_cases hl : P.length < 40
      · have e3 : (P.length : Int) < 40 := by omega
        have e6 : IntKind.i64.wrap (((P.length + 1 : Nat) : Int) - 1) = (P.length : Int) := by rw [i64_id (by omega) (by omega)]; omega
        cases rp with
        | cons a rp =>
          have e4 : 0 ≤ hdP (a :: rp) := by simp only [hdP]; omega
          have hst : stepH P (a :: rp) 40 = some (P ++ [hdP (a :: rp)], P.length :: a :: rp) := if_pos ⟨rfl, hl, .inl (by simp)⟩
          simp only [run0, run1, run2, run3, run4, run5, run6, run7, run8, run9, run10, run11, run12, run13, run14, run15, run16, run17, run18, run19, run20, run21, run22, reduceCtorEq, Nat.reduceEqDiff, Nat.reduceAdd, Nat.reduceSub, Nat.reduceLeDiff, indexAddrA, indexRefA, appendA, strA, Nat.reduceMul, Nat.zero_mul, Nat.reduceMod, Int.reduceEq, Int.reduceLT, Int.reduceLE, Nat.reduceLT, Nat.lt_irrefl, Nat.reduceBEq, tys0, tys1, tys2, tys3, tys4, tys5, tys6, tys7, tys8, tys9, tys10, tys11, tys12, tys13, tys14, tys15, tys16, tys17, tys18, Try.ntmps45, Try.results45, strL, hsz, e1, e2, e3, e4, e5, e6, c4, c5, f3, hno, List.length_map]
          refine ⟨⟨d ++ [40], r, P ++ [hdP (a :: rp)], P.length :: a :: rp⟩, ⟨by rw [ha]; simp, hI.step hst, (runH_cons hst).symm⟩, by simp, by simp only [List.length_append, List.length_cons, List.length_nil, Nat.zero_add]; repeat constructor, by simp⟩
        | nil =>
          have e4 : ¬ (0 ≤ hdP []) := by decide
          by_cases hP : P = []
          · have hd : d = [] := hI.nil.1 hP
            have z0 : ((d.length : Int) == 0) = true := by simp [hd]
            have hst : stepH P [] 40 = some (P ++ [hdP []], [P.length]) := if_pos ⟨rfl, hl, .inr hP⟩
            simp only [run0, run1, run2, run3, run4, run5, run6, run7, run8, run9, run10, run11, run12, run13, run14, run15, run16, run17, run18, run19, run20, run21, run22, reduceCtorEq, Nat.reduceEqDiff, Nat.reduceAdd, Nat.reduceSub, Nat.reduceLeDiff, indexAddrA, indexRefA, appendA, strA, Nat.reduceMul, Nat.zero_mul, Nat.reduceMod, Int.reduceEq, Int.reduceLT, Int.reduceLE, Nat.reduceLT, Nat.lt_irrefl, Nat.reduceBEq, tys0, tys1, tys2, tys3, tys4, tys5, tys6, tys7, tys8, tys9, tys10, tys11, tys12, tys13, tys14, tys15, tys16, tys17, tys18, Try.ntmps45, Try.results45, strL, hsz, e1, e2, e3, e4, e5, e6, c4, c5, f3, hno, z0, List.length_map]
            refine ⟨⟨d ++ [40], r, P ++ [hdP []], [P.length]⟩, ⟨by rw [ha]; simp, hI.step hst, (runH_cons hst).symm⟩, by simp, by simp only [List.length_append, List.length_cons, List.length_nil, Nat.zero_add]; repeat constructor, by simp⟩
          · have hd : d.length ≠ 0 := fun h => hP (hI.nil.2 (List.length_eq_zero_iff.1 h))
            have z0 : ((d.length : Int) == 0) = false := by simpa using hd
            rw [failed (by simp [stepH, hP])]
            simp only [run0, run1, run2, run3, run4, run5, run6, run7, run8, run9, run10, run11, run12, run13, run14, run15, run16, run17, run18, run19, run20, run21, run22, reduceCtorEq, Nat.reduceEqDiff, Nat.reduceAdd, Nat.reduceSub, Nat.reduceLeDiff, indexAddrA, indexRefA, appendA, strA, Nat.reduceMul, Nat.zero_mul, Nat.reduceMod, Int.reduceEq, Int.reduceLT, Int.reduceLE, Nat.reduceLT, Nat.lt_irrefl, Nat.reduceBEq, tys0, tys1, tys2, tys3, tys4, tys5, tys6, tys7, tys8, tys9, tys10, tys11, tys12, tys13, tys14, tys15, tys16, tys17, tys18, Try.ntmps45, Try.results45, strL, hsz, e1, e2, e3, e4, c4, c5, z0, List.length_map]
            exact Fin.value (vw_fail _)
      · have e3 : ¬ (P.length : Int) < 40 := by omega
        rw [failed (by simp [stepH, hl])]
        simp only [run0, run1, run2, run3, run4, run5, run6, run7, run8, run9, run10, run11, run12, run13, run14, run15, run16, run17, run18, run19, run20, run21, run22, reduceCtorEq, Nat.reduceEqDiff, Nat.reduceAdd, Nat.reduceSub, Nat.reduceLeDiff, indexAddrA, indexRefA, appendA, strA, Nat.reduceMul, Nat.zero_mul, Nat.reduceMod, Int.reduceEq, Int.reduceLT, Int.reduceLE, Nat.reduceLT, Nat.lt_irrefl, Nat.reduceBEq, tys0, tys1, tys2, tys3, tys4, tys5, tys6, tys7, tys8, tys9, tys10, tys11, tys12, tys13, tys14, tys15, tys16, tys17, tys18, Try.ntmps45, Try.results45, strL, hsz, e1, e2, e3, c4, c5, List.length_map]
        exact Fin.value (vw_fail _)
    · have c4 : ((c.toNat : Int) == 40) = false := ne1 40 h4 (by omega)
      by_cases h5 : c = 41
      · subst h5
        have c5 : (((41 : UInt8).toNat : Int) == 41) = true := rfl
        cases rp with
        | nil =>
          have e4 : ¬ (0 ≤ hdP []) := by decide
          rw [failed (by simp [stepH])]
          simp only [run0, run1, run2, run3, run4, run5, run6, run7, run8, run9, run10, run11, run12, run13, run14, run15, run16, run17, run18, run19, run20, run21, run22, reduceCtorEq, Nat.reduceEqDiff, Nat.reduceAdd, Nat.reduceSub, Nat.reduceLeDiff, indexAddrA, indexRefA, appendA, strA, Nat.reduceMul, Nat.zero_mul, Nat.reduceMod, Int.reduceEq, Int.reduceLT, Int.reduceLE, Nat.reduceLT, Nat.lt_irrefl, Nat.reduceBEq, tys0, tys1, tys2, tys3, tys4, tys5, tys6, tys7, tys8, tys9, tys10, tys11, tys12, tys13, tys14, tys15, tys16, tys17, tys18, Try.ntmps45, Try.results45, strL, hsz, e1, e2, e4, c4, c5, List.length_map]
          exact Fin.value (vw_fail _)
        | cons a rp =>
          have e4 : 0 ≤ hdP (a :: rp) := by simp only [hdP]; omega
          have e6 : (ints P)[a]? = some (.int .i64 (hdP rp)) := by rw [List.getElem?_map, hI.hd]; rfl
          have hst : stepH P (a :: rp) 41 = some (P, rp) := by simp [stepH]
          have e7 : (hdP (a :: rp)).toNat = a := rfl
          have e8 : hdP (a :: rp) < (P.length : Int) := by have := (hI.ch a rp rfl).lt; simp only [hdP]; omega
          simp only [run0, run1, run2, run3, run4, run5, run6, run7, run8, run9, run10, run11, run12, run13, run14, run15, run16, run17, run18, run19, run20, run21, run22, reduceCtorEq, Nat.reduceEqDiff, Nat.reduceAdd, Nat.reduceSub, Nat.reduceLeDiff, indexAddrA, indexRefA, appendA, strA, Nat.reduceMul, Nat.zero_mul, Nat.reduceMod, Int.reduceEq, Int.reduceLT, Int.reduceLE, Nat.reduceLT, Nat.lt_irrefl, Nat.reduceBEq, tys0, tys1, tys2, tys3, tys4, tys5, tys6, tys7, tys8, tys9, tys10, tys11, tys12, tys13, tys14, tys15, tys16, tys17, tys18, Try.ntmps45, Try.results45, strL, hsz, e1, e2, e4, e5, e6, e7, e8, c4, c5, List.length_map, List.mapIdx_cons, List.mapIdx_nil, viewC]
          refine ⟨⟨d ++ [41], r, P, rp⟩, ⟨by rw [ha]; simp, hI.step hst, (runH_cons hst).symm⟩, by simp, by simp only [List.length_append, List.length_cons, List.length_nil, Nat.zero_add]; repeat constructor, by simp⟩
      · have c5 : ((c.toNat : Int) == 41) = false := ne1 41 h5 (by omega)
        rw [failed (by simp [stepH, h4, h5])]
        simp only [run0, run1, run2, run3, run4, run5, run6, run7, run8, run9, run10, run11, run12, run13, run14, run15, run16, run17, run18, run19, run20, run21, run22, reduceCtorEq, Nat.reduceEqDiff, Nat.reduceAdd, Nat.reduceSub, Nat.reduceLeDiff, indexAddrA, indexRefA, appendA, strA, Nat.reduceMul, Nat.zero_mul, Nat.reduceMod, Int.reduceEq, Int.reduceLT, Int.reduceLE, Nat.reduceLT, Nat.lt_irrefl, Nat.reduceBEq, tys0, tys1, tys2, tys3, tys4, tys5, tys6, tys7, tys8, tys9, tys10, tys11, tys12, tys13, tys14, tys15, tys16, tys17, tys18, Try.ntmps45, Try.results45, strL, hsz, e1, e2, c4, c5, List.length_map]
        exact Fin.value (vw_fail _)

end Go.Proofs.Ytphmkhaboghagaa
/-
  Hydras read from text: the program.
-/
namespace Go.Proofs.Ytphmkhaboghagaa
open Go K Od
set_option linter.unusedSimpArgs false
set_option linter.unusedVariables false
set_option maxHeartbeats 3200000
set_option maxRecDepth 8000

def rI : Option (List Int) → AV
  | none => .tup [.agg [nilV], .bool false]
  | some P => .tup [.agg [.ref 3 [] P.length P.length], .bool true]
def mI : Option (List Int) → List AObj
  | none => [.dead, .dead, .dead, .dead]
  | some P => [.dead, .dead, .dead, .vec 3 1 P.length (ints P)]
def pth (rp : List Nat) : List Int := -1 :: up rp
theorem pth_len (rp : List Nat) : (pth rp).length = rp.length + 1 := by simp [pth, up]
theorem pth_cons (a : Nat) (rp : List Nat) : pth (a :: rp) = pth rp ++ [(a : Int)] := by simp [pth, up]
theorem pth_last (rp : List Nat) : (pth rp)[rp.length]? = some (hdP rp) := by
  cases rp with
  | nil => rfl
  | cons a rp =>
    rw [pth_cons, List.getElem?_append_right (by rw [pth_len]; simp), pth_len]
    simp [hdP]
structure PkS where
  d : List UInt8
  r : List UInt8
  P : List Int
  rp : List Nat
  W : List Int
  g : Nat
theorem fail_fin {L : List AObj} (h : keepS [] L = [.dead, .dead, .dead, .dead]) : K.Fin [] L (.tup [.agg [nilV], .bool false]) (mI none) (rI none) := by
  have := Fin.keep (L1 := L) (r := .tup [.agg [nilV], .bool false]) [] rfl rfl
  rw [h] at this
  exact this

theorem keep3 (a b c : AObj) (P : List Int) : keepS [3] [a, b, c, .vec 3 1 P.length (ints P)] = [.dead, .dead, .dead, .vec 3 1 P.length (ints P)] := by
  have h : okTO (.vec 3 1 P.length (ints P)) = true := by
    have : okTL (ints P) = true := by
      induction P with
      | nil => rfl
      | cons x P ih => simp only [ints, List.map_cons, okTL, okT, Bool.true_and]; exact ih
    simp [okTO, this, ints_noOwn]
  show [_, _, _, _] = _
  simp [keepS, h]
theorem implParse_ok (s : List UInt8) (hs : s.length ≤ 1048576) : Ct Try.prog 46 [strL s] [] (rI (runH s [] [])) (mI (runH s [] [])) := by
  have hsz := strL_size s
  refine Ct.by_ hmix [ 8000000, 1000010] Try.func46 rfl ?_
  simp only [run0, run1, run2, run3, run4, run5, run6, run7, run8, run9, run10, run11, run12, run13, run14, run15, run16, run17, run18, run19, run20, run21, run22, reduceCtorEq, Nat.reduceEqDiff, Nat.reduceAdd, Nat.reduceSub, Nat.reduceLeDiff, indexAddrA, indexRefA, appendA, strA, Nat.reduceMul, Nat.zero_mul, Nat.reduceMod, Int.reduceEq, Int.reduceLT, Int.reduceLE, Nat.reduceLT, Nat.lt_irrefl, Nat.reduceBEq, tys0, tys1, tys2, tys3, tys4, tys5, tys6, tys7, tys8, tys9, tys10, tys11, tys12, tys13, tys14, tys15, tys16, tys17, tys18, Try.ntmps46, Try.results46, strL, hsz]
  refine AWp.nilB 2 0 3 1 rfl rfl ?_
  refine AWp.loop_inv (ι := PkS) (fun p => ⟨[strL s, .junk, .ptr 0 0, .bool false, .ptr 2 0, .ref 1 [] p.g (p.rp.length + 1), .junk, .junk, .junk, .junk, .junk, .junk, .int .i64 s.length, .int .i64 p.d.length, .junk, .junk, .junk, .junk, .junk, .junk, .junk, .junk, .junk, .junk, .junk, .junk, .junk, .junk, .junk, .junk, .junk, .junk, .junk, .junk, .junk, .junk, .junk, .junk, .junk, .junk, .junk, .junk, .junk, .junk, .junk, .junk, .junk, .junk, .junk, .junk, .junk, .junk, .junk, .junk, .junk, .junk, .junk, .junk, .junk, .junk, .junk, .junk, .junk, .junk, .junk, .junk, .junk, .junk, .junk, .junk, .junk, .junk, .junk, .junk, .junk, .junk, .junk, .junk, .junk, .junk, .junk, .junk, .junk, .junk, .junk],
      [.box 60 [nilV], .vec 3 1 p.g (ints p.W), .box 60 [.ref 3 [] p.P.length p.P.length], .vec 3 1 p.P.length (ints p.P)]⟩)
    (fun p => s = p.d ++ p.r ∧ PhI p.P p.rp p.d ∧ runH p.r p.P p.rp = runH s [] [] ∧ p.W.take (p.rp.length + 1) = pth p.rp ∧ p.rp.length ≤ p.d.length) (fun p => p.r.length) ⟨[], s, [], [], [-1], 0⟩ ⟨rfl, PhI.start, rfl, rfl, Nat.le_refl _⟩ ⟨by simp only [List.length_nil, Int.natCast_zero]; repeat constructor, rfl⟩ ?_
  rintro ⟨d, r, P, rp, Wl, g⟩ ⟨ha, hI, hrun, hW, hrl⟩
  refine W.sound hmix (E := [8000000, 1000010]) ?_
  simp only at ha hI hrun hW hrl
  rw [← hrun]
  have hda : d.length + r.length = s.length := by rw [ha, List.length_append]
  have hPl := hI.len
  have hno := ints_noOwn P
  have hnoW := ints_noOwn Wl
  have hWl : rp.length + 1 ≤ Wl.length := by
    have := congrArg List.length hW
    rw [pth_len, List.length_take] at this; omega
  have f6 : (ints Wl)[rp.length]? = some (.int .i64 (hdP rp)) := by
    have := pth_last rp
    rw [← hW, List.getElem?_take_of_lt (by omega)] at this
    rw [List.getElem?_map, this]; rfl
  have f7 : IntKind.i64.wrap (((rp.length + 1 : Nat) : Int) - 1) = (rp.length : Int) := by rw [i64_id (by omega) (by omega)]; omega
  have f8 : (rp.length : Int) < ((rp.length + 1 : Nat) : Int) := by omega
  have f9 : (1 : Int) < ((rp.length + 1 : Nat) : Int) ↔ rp ≠ [] := by
    cases rp with
    | nil => simp
    | cons a rp => simp; omega
  have f10 : rp.length + 1 + 1 ≤ 137438953472 := by omega
  generalize hm : rp.length = m at *
  cases r with
  | nil =>
    have e1 : ¬ ((d.length : Int) < (s.length : Int)) := by simp at hda; omega
    have hv : VwL [.box 60 [nilV], .vec 3 1 g (ints Wl), .box 60 [.ref 3 [] P.length P.length], .vec 3 1 P.length (ints P)] [.agg [.ref 3 [] P.length P.length]] [hyA P] :=
      .cons (.agg (.cons (Vw_intR rfl rfl rfl) .nil)) .nil
    simp only [run0, run1, run2, run3, run4, run5, run6, run7, run8, run9, run10, run11, run12, run13, run14, run15, run16, run17, run18, run19, run20, run21, run22, reduceCtorEq, Nat.reduceEqDiff, Nat.reduceAdd, Nat.reduceSub, Nat.reduceLeDiff, indexAddrA, indexRefA, appendA, strA, Nat.reduceMul, Nat.zero_mul, Nat.reduceMod, Int.reduceEq, Int.reduceLT, Int.reduceLE, Nat.reduceLT, Nat.lt_irrefl, Nat.reduceBEq, tys0, tys1, tys2, tys3, tys4, tys5, tys6, tys7, tys8, tys9, tys10, tys11, tys12, tys13, tys14, tys15, tys16, tys17, tys18, Try.ntmps46, Try.results46, strL, hsz, e1]
    refine RunL.lendV rfl rfl ok_f44 rfl (implText_ok P (by omega)) hv rfl rfl ?_
    by_cases hP : P = []
    · have hB : hydB P = false := by rw [hP]; rfl
      rw [show runH [] P rp = none from if_neg (by simp [hP])]
      simp only [run0, run1, run2, run3, run4, run5, run6, run7, run8, run9, run10, run11, run12, run13, run14, run15, run16, run17, run18, run19, run20, run21, run22, reduceCtorEq, Nat.reduceEqDiff, Nat.reduceAdd, Nat.reduceSub, Nat.reduceLeDiff, indexAddrA, indexRefA, appendA, strA, Nat.reduceMul, Nat.zero_mul, Nat.reduceMod, Int.reduceEq, Int.reduceLT, Int.reduceLE, Nat.reduceLT, Nat.lt_irrefl, Nat.reduceBEq, tys0, tys1, tys2, tys3, tys4, tys5, tys6, tys7, tys8, tys9, tys10, tys11, tys12, tys13, tys14, tys15, tys16, tys17, tys18, Try.ntmps46, Try.results46, htx, strL, hB]
      exact fail_fin rfl
    · have hB := hI.hyd hP
      have hd : d = s := by rw [ha, List.append_nil]
      have hlast := hI.last hP
      by_cases hr : rp = []
      · have e3 : (⟨(shT (fo P P.length 0)).toArray⟩ : ByteArray) = ⟨s.toArray⟩ := by rw [← hd]; rw [show shT (fo P P.length 0) = d from hlast.2 hr]
        rw [show runH [] P rp = some P from if_pos ⟨hr, hP⟩]
        simp only [run0, run1, run2, run3, run4, run5, run6, run7, run8, run9, run10, run11, run12, run13, run14, run15, run16, run17, run18, run19, run20, run21, run22, reduceCtorEq, Nat.reduceEqDiff, Nat.reduceAdd, Nat.reduceSub, Nat.reduceLeDiff, indexAddrA, indexRefA, appendA, strA, Nat.reduceMul, Nat.zero_mul, Nat.reduceMod, Int.reduceEq, Int.reduceLT, Int.reduceLE, Nat.reduceLT, Nat.lt_irrefl, Nat.reduceBEq, tys0, tys1, tys2, tys3, tys4, tys5, tys6, tys7, tys8, tys9, tys10, tys11, tys12, tys13, tys14, tys15, tys16, tys17, tys18, Try.ntmps46, Try.results46, htx, strL, hB, if_true, e3, bne_self_eq_false]
        have := Fin.keep (L1 := [.box 60 [.ref 3 [] P.length P.length], .vec 3 1 g (ints Wl), .box 60 [.ref 3 [] P.length P.length], .vec 3 1 P.length (ints P)]) (r := rI (some P)) [3] rfl rfl
        rw [keep3] at this
        exact this
      · have e3 : ((⟨(shT (fo P P.length 0)).toArray⟩ : ByteArray).toList == (⟨s.toArray⟩ : ByteArray).toList) = false := by
          have h2 : shT (fo P P.length 0) ≠ s := fun h => hr (hlast.1 (by rw [hd]; exact h))
          rw [ByteArray.toList_eq, ByteArray.toList_eq]
          simpa using h2
        rw [show runH [] P rp = none from if_neg (by simp [hr])]
        simp only [run0, run1, run2, run3, run4, run5, run6, run7, run8, run9, run10, run11, run12, run13, run14, run15, run16, run17, run18, run19, run20, run21, run22, reduceCtorEq, Nat.reduceEqDiff, Nat.reduceAdd, Nat.reduceSub, Nat.reduceLeDiff, indexAddrA, indexRefA, appendA, strA, Nat.reduceMul, Nat.zero_mul, Nat.reduceMod, Int.reduceEq, Int.reduceLT, Int.reduceLE, Nat.reduceLT, Nat.lt_irrefl, Nat.reduceBEq, tys0, tys1, tys2, tys3, tys4, tys5, tys6, tys7, tys8, tys9, tys10, tys11, tys12, tys13, tys14, tys15, tys16, tys17, tys18, Try.ntmps46, Try.results46, htx, strL, hB, if_true, e3, Bool.not_false]
        exact fail_fin rfl
  | cons c r =>
    simp only [List.length_cons] at hda
    have e1 : (d.length : Int) < (s.length : Int) := by omega
    have e2 := at_str d r c
    rw [← ha] at e2
    simp only [strL] at e2
    have e5 : IntKind.i64.wrap ((d.length : Int) + 1) = ((d ++ [c]).length : Int) := by rw [i64_id (by omega) (by omega)]; simp
    have f3 : P.length + 1 ≤ 137438953472 := by omega
    have ne1 : ∀ k : Nat, c ≠ UInt8.ofNat k → k < 256 → ((c.toNat : Int) == (k : Int)) = false := fun k hk hk2 => by
      rw [beq_eq_false_iff_ne]
      intro he
      have he2 : c.toNat = k := by omega
      exact hk (UInt8.toNat_inj.1 (by rw [he2]; simp; omega))
    have failed : stepH P rp c = none → runH (c :: r) P rp = none := runH_none
    by_cases h4 : c = 40
    · subst h4
      have c4 : (((40 : UInt8).toNat : Int) == 40) = true := rfl
      have c5 : (((40 : UInt8).toNat : Int) == 41) = false := rfl
      by_cases hl : P.length < 40
      · have e3 : (P.length : Int) < 40 := by omega
        have e6 : IntKind.i64.wrap (((P.length + 1 : Nat) : Int) - 1) = (P.length : Int) := by rw [i64_id (by omega) (by omega)]; omega
        cases rp with
        | cons a rp =>
          have e4 : (1 : Int) < ((m + 1 : Nat) : Int) := f9.2 (by simp)
          have hst : stepH P (a :: rp) 40 = some (P ++ [hdP (a :: rp)], P.length :: a :: rp) := if_pos ⟨rfl, hl, .inl (by simp)⟩
          simp only [run0, run1, run2, run3, run4, run5, run6, run7, run8, run9, run10, run11, run12, run13, run14, run15, run16, run17, run18, run19, run20, run21, run22, reduceCtorEq, Nat.reduceEqDiff, Nat.reduceAdd, Nat.reduceSub, Nat.reduceLeDiff, indexAddrA, indexRefA, appendA, strA, Nat.reduceMul, Nat.zero_mul, Nat.reduceMod, Int.reduceEq, Int.reduceLT, Int.reduceLE, Nat.reduceLT, Nat.lt_irrefl, Nat.reduceBEq, tys0, tys1, tys2, tys3, tys4, tys5, tys6, tys7, tys8, tys9, tys10, tys11, tys12, tys13, tys14, tys15, tys16, tys17, tys18, Try.ntmps46, Try.results46, strL, hsz, e1, e2, e3, e4, c4, List.length_map]
          refine ⟨[0, 1, 2, 3, 4, 5, 6, 7, 8, 9, 10, 11], by kernel_rfl, ?_⟩
          by_cases hfull : m + 1 = Wl.length
          · have hf : (m + 1 = Wl.length) = True := eq_true hfull
            have hWf : Wl.take (m + 1) = Wl := List.take_of_length_le (by omega)
            simp only [run0, run1, run2, run3, run4, run5, run6, run7, run8, run9, run10, run11, run12, run13, run14, run15, run16, run17, run18, run19, run20, run21, run22, reduceCtorEq, Nat.reduceEqDiff, Nat.reduceAdd, Nat.reduceSub, Nat.reduceLeDiff, indexAddrA, indexRefA, appendA, strA, Nat.reduceMul, Nat.zero_mul, Nat.reduceMod, Int.reduceEq, Int.reduceLT, Int.reduceLE, Nat.reduceLT, Nat.lt_irrefl, Nat.reduceBEq, tys0, tys1, tys2, tys3, tys4, tys5, tys6, tys7, tys8, tys9, tys10, tys11, tys12, tys13, tys14, tys15, tys16, tys17, tys18, Try.ntmps46, Try.results46, hf, f6, f7, f8, f3, f10, hno, hnoW, e5, e6, List.length_map, Int.toNat_natCast, Int.natCast_nonneg, List.mapIdx_cons, List.mapIdx_nil, viewC]
            subst hm
            rw [hWf] at hW
            refine ⟨⟨d ++ [40], r, P ++ [hdP (a :: rp)], P.length :: (a :: rp), Wl ++ [(P.length : Int)], g + 1⟩, ⟨by rw [ha]; simp, hI.step hst, (runH_cons hst).symm, ?_, by simp only [List.length_cons, List.length_append, List.length_nil] at hrl ⊢; omega⟩, by simp, by simp only [List.length_append, List.length_cons, List.length_nil, Nat.zero_add]; repeat constructor, by simp⟩
            rw [hW, pth_cons P.length]
            exact List.take_of_length_le (by simp [pth_len])
          · simp only [run0, run1, run2, run3, run4, run5, run6, run7, run8, run9, run10, run11, run12, run13, run14, run15, run16, run17, run18, run19, run20, run21, run22, reduceCtorEq, Nat.reduceEqDiff, Nat.reduceAdd, Nat.reduceSub, Nat.reduceLeDiff, indexAddrA, indexRefA, appendA, strA, Nat.reduceMul, Nat.zero_mul, Nat.reduceMod, Int.reduceEq, Int.reduceLT, Int.reduceLE, Nat.reduceLT, Nat.lt_irrefl, Nat.reduceBEq, tys0, tys1, tys2, tys3, tys4, tys5, tys6, tys7, tys8, tys9, tys10, tys11, tys12, tys13, tys14, tys15, tys16, tys17, tys18, Try.ntmps46, Try.results46, hfull, hWl, f6, f7, f8, f3, f10, hno, hnoW, e5, e6, List.length_map, Int.toNat_natCast, Int.natCast_nonneg, List.mapIdx_cons, List.mapIdx_nil, viewC]
            subst hm
            refine ⟨⟨d ++ [40], r, P ++ [hdP (a :: rp)], P.length :: (a :: rp), Wl.take ((a :: rp).length + 1) ++ [(P.length : Int)], g + 2⟩, ⟨by rw [ha]; simp, hI.step hst, (runH_cons hst).symm, ?_, by simp only [List.length_cons, List.length_append, List.length_nil] at hrl ⊢; omega⟩, by simp, by simp only [List.length_append, List.length_cons, List.length_nil, Nat.zero_add]; repeat constructor, by simp [List.map_take]⟩
            rw [hW, pth_cons P.length]
            exact List.take_of_length_le (by simp [pth_len])
        | nil =>
          have e4 : ¬ (1 : Int) < ((m + 1 : Nat) : Int) := fun h => absurd rfl (f9.1 h)
          by_cases hP : P = []
          · have hd : d = [] := hI.nil.1 hP
            have z0 : ((d.length : Int) == 0) = true := by simp [hd]
            have hst : stepH P [] 40 = some (P ++ [hdP []], [P.length]) := if_pos ⟨rfl, hl, .inr hP⟩
            simp only [run0, run1, run2, run3, run4, run5, run6, run7, run8, run9, run10, run11, run12, run13, run14, run15, run16, run17, run18, run19, run20, run21, run22, reduceCtorEq, Nat.reduceEqDiff, Nat.reduceAdd, Nat.reduceSub, Nat.reduceLeDiff, indexAddrA, indexRefA, appendA, strA, Nat.reduceMul, Nat.zero_mul, Nat.reduceMod, Int.reduceEq, Int.reduceLT, Int.reduceLE, Nat.reduceLT, Nat.lt_irrefl, Nat.reduceBEq, tys0, tys1, tys2, tys3, tys4, tys5, tys6, tys7, tys8, tys9, tys10, tys11, tys12, tys13, tys14, tys15, tys16, tys17, tys18, Try.ntmps46, Try.results46, strL, hsz, e1, e2, e3, e4, c4, z0, List.length_map]
            refine ⟨[0, 1, 2, 3, 4, 5, 6, 7, 8, 9, 10, 11], by kernel_rfl, ?_⟩
            by_cases hfull : m + 1 = Wl.length
            · have hf : (m + 1 = Wl.length) = True := eq_true hfull
              have hWf : Wl.take (m + 1) = Wl := List.take_of_length_le (by omega)
              simp only [run0, run1, run2, run3, run4, run5, run6, run7, run8, run9, run10, run11, run12, run13, run14, run15, run16, run17, run18, run19, run20, run21, run22, reduceCtorEq, Nat.reduceEqDiff, Nat.reduceAdd, Nat.reduceSub, Nat.reduceLeDiff, indexAddrA, indexRefA, appendA, strA, Nat.reduceMul, Nat.zero_mul, Nat.reduceMod, Int.reduceEq, Int.reduceLT, Int.reduceLE, Nat.reduceLT, Nat.lt_irrefl, Nat.reduceBEq, tys0, tys1, tys2, tys3, tys4, tys5, tys6, tys7, tys8, tys9, tys10, tys11, tys12, tys13, tys14, tys15, tys16, tys17, tys18, Try.ntmps46, Try.results46, hf, f6, f7, f8, f3, f10, hno, hnoW, e5, e6, List.length_map, Int.toNat_natCast, Int.natCast_nonneg, List.mapIdx_cons, List.mapIdx_nil, viewC]
              subst hm
              rw [hWf] at hW
              refine ⟨⟨d ++ [40], r, P ++ [hdP []], P.length :: [], Wl ++ [(P.length : Int)], g + 1⟩, ⟨by rw [ha]; simp, hI.step hst, (runH_cons hst).symm, ?_, by simp only [List.length_cons, List.length_append, List.length_nil] at hrl ⊢; omega⟩, by simp, by simp only [List.length_append, List.length_cons, List.length_nil, Nat.zero_add]; repeat constructor, by simp⟩
              rw [hW, pth_cons P.length]
              exact List.take_of_length_le (by simp [pth_len])
            · simp only [run0, run1, run2, run3, run4, run5, run6, run7, run8, run9, run10, run11, run12, run13, run14, run15, run16, run17, run18, run19, run20, run21, run22, reduceCtorEq, Nat.reduceEqDiff, Nat.reduceAdd, Nat.reduceSub, Nat.reduceLeDiff, indexAddrA, indexRefA, appendA, strA, Nat.reduceMul, Nat.zero_mul, Nat.reduceMod, Int.reduceEq, Int.reduceLT, Int.reduceLE, Nat.reduceLT, Nat.lt_irrefl, Nat.reduceBEq, tys0, tys1, tys2, tys3, tys4, tys5, tys6, tys7, tys8, tys9, tys10, tys11, tys12, tys13, tys14, tys15, tys16, tys17, tys18, Try.ntmps46, Try.results46, hfull, hWl, f6, f7, f8, f3, f10, hno, hnoW, e5, e6, List.length_map, Int.toNat_natCast, Int.natCast_nonneg, List.mapIdx_cons, List.mapIdx_nil, viewC]
              subst hm
              refine ⟨⟨d ++ [40], r, P ++ [hdP []], P.length :: [], Wl.take (([] : List Nat).length + 1) ++ [(P.length : Int)], g + 2⟩, ⟨by rw [ha]; simp, hI.step hst, (runH_cons hst).symm, ?_, by simp only [List.length_cons, List.length_append, List.length_nil] at hrl ⊢; omega⟩, by simp, by simp only [List.length_append, List.length_cons, List.length_nil, Nat.zero_add]; repeat constructor, by simp [List.map_take]⟩
              rw [hW, pth_cons P.length]
              exact List.take_of_length_le (by simp [pth_len])
          · have hd : d.length ≠ 0 := fun h => hP (hI.nil.2 (List.length_eq_zero_iff.1 h))
            have z0 : ((d.length : Int) == 0) = false := by simpa using hd
            rw [failed (by simp [stepH, hP])]
            simp only [run0, run1, run2, run3, run4, run5, run6, run7, run8, run9, run10, run11, run12, run13, run14, run15, run16, run17, run18, run19, run20, run21, run22, reduceCtorEq, Nat.reduceEqDiff, Nat.reduceAdd, Nat.reduceSub, Nat.reduceLeDiff, indexAddrA, indexRefA, appendA, strA, Nat.reduceMul, Nat.zero_mul, Nat.reduceMod, Int.reduceEq, Int.reduceLT, Int.reduceLE, Nat.reduceLT, Nat.lt_irrefl, Nat.reduceBEq, tys0, tys1, tys2, tys3, tys4, tys5, tys6, tys7, tys8, tys9, tys10, tys11, tys12, tys13, tys14, tys15, tys16, tys17, tys18, Try.ntmps46, Try.results46, strL, hsz, e1, e2, e3, e4, c4, c5, z0, List.length_map]
            exact fail_fin rfl
      · have e3 : ¬ (P.length : Int) < 40 := by omega
        rw [failed (by simp [stepH, hl])]
        cases rp with
        | cons a rp =>
          have e4 : (1 : Int) < ((m + 1 : Nat) : Int) := f9.2 (by simp)
          simp only [run0, run1, run2, run3, run4, run5, run6, run7, run8, run9, run10, run11, run12, run13, run14, run15, run16, run17, run18, run19, run20, run21, run22, reduceCtorEq, Nat.reduceEqDiff, Nat.reduceAdd, Nat.reduceSub, Nat.reduceLeDiff, indexAddrA, indexRefA, appendA, strA, Nat.reduceMul, Nat.zero_mul, Nat.reduceMod, Int.reduceEq, Int.reduceLT, Int.reduceLE, Nat.reduceLT, Nat.lt_irrefl, Nat.reduceBEq, tys0, tys1, tys2, tys3, tys4, tys5, tys6, tys7, tys8, tys9, tys10, tys11, tys12, tys13, tys14, tys15, tys16, tys17, tys18, Try.ntmps46, Try.results46, strL, hsz, e1, e2, e3, e4, c4, c5, List.length_map]
          exact fail_fin rfl
        | nil =>
          have e4 : ¬ (1 : Int) < ((m + 1 : Nat) : Int) := fun h => absurd rfl (f9.1 h)
          cases z0 : ((d.length : Int) == 0)
          · simp only [run0, run1, run2, run3, run4, run5, run6, run7, run8, run9, run10, run11, run12, run13, run14, run15, run16, run17, run18, run19, run20, run21, run22, reduceCtorEq, Nat.reduceEqDiff, Nat.reduceAdd, Nat.reduceSub, Nat.reduceLeDiff, indexAddrA, indexRefA, appendA, strA, Nat.reduceMul, Nat.zero_mul, Nat.reduceMod, Int.reduceEq, Int.reduceLT, Int.reduceLE, Nat.reduceLT, Nat.lt_irrefl, Nat.reduceBEq, tys0, tys1, tys2, tys3, tys4, tys5, tys6, tys7, tys8, tys9, tys10, tys11, tys12, tys13, tys14, tys15, tys16, tys17, tys18, Try.ntmps46, Try.results46, strL, hsz, e1, e2, e3, e4, c4, c5, z0, List.length_map]
            exact fail_fin rfl
          · simp only [run0, run1, run2, run3, run4, run5, run6, run7, run8, run9, run10, run11, run12, run13, run14, run15, run16, run17, run18, run19, run20, run21, run22, reduceCtorEq, Nat.reduceEqDiff, Nat.reduceAdd, Nat.reduceSub, Nat.reduceLeDiff, indexAddrA, indexRefA, appendA, strA, Nat.reduceMul, Nat.zero_mul, Nat.reduceMod, Int.reduceEq, Int.reduceLT, Int.reduceLE, Nat.reduceLT, Nat.lt_irrefl, Nat.reduceBEq, tys0, tys1, tys2, tys3, tys4, tys5, tys6, tys7, tys8, tys9, tys10, tys11, tys12, tys13, tys14, tys15, tys16, tys17, tys18, Try.ntmps46, Try.results46, strL, hsz, e1, e2, e3, e4, c4, c5, z0, List.length_map]
            exact fail_fin rfl
    · have c4 : ((c.toNat : Int) == 40) = false := ne1 40 h4 (by omega)
      by_cases h5 : c = 41
      · subst h5
        have c5 : (((41 : UInt8).toNat : Int) == 41) = true := rfl
        cases rp with
        | nil =>
          have e4 : ¬ (1 : Int) < ((m + 1 : Nat) : Int) := fun h => absurd rfl (f9.1 h)
          rw [failed (by simp [stepH])]
          simp only [run0, run1, run2, run3, run4, run5, run6, run7, run8, run9, run10, run11, run12, run13, run14, run15, run16, run17, run18, run19, run20, run21, run22, reduceCtorEq, Nat.reduceEqDiff, Nat.reduceAdd, Nat.reduceSub, Nat.reduceLeDiff, indexAddrA, indexRefA, appendA, strA, Nat.reduceMul, Nat.zero_mul, Nat.reduceMod, Int.reduceEq, Int.reduceLT, Int.reduceLE, Nat.reduceLT, Nat.lt_irrefl, Nat.reduceBEq, tys0, tys1, tys2, tys3, tys4, tys5, tys6, tys7, tys8, tys9, tys10, tys11, tys12, tys13, tys14, tys15, tys16, tys17, tys18, Try.ntmps46, Try.results46, strL, hsz, e1, e2, e4, c4, c5, List.length_map]
          exact fail_fin rfl
        | cons a rp =>
          have e4 : (1 : Int) < ((m + 1 : Nat) : Int) := f9.2 (by simp)
          have hst : stepH P (a :: rp) 41 = some (P, rp) := by simp [stepH]
          have hsl : sliceA Try.prog [.box 60 [nilV], .vec 3 1 g (ints Wl), .box 60 [.ref 3 [] P.length P.length], .vec 3 1 P.length (ints P)] 55 (.ref 1 [] g (m + 1)) none (some (.int .i64 (m : Int))) = some (.ref 1 [] g m) := slice_ints (by simp [eptrNow]) (by omega)
          simp only [run0, run1, run2, run3, run4, run5, run6, run7, run8, run9, run10, run11, run12, run13, run14, run15, run16, run17, run18, run19, run20, run21, run22, reduceCtorEq, Nat.reduceEqDiff, Nat.reduceAdd, Nat.reduceSub, Nat.reduceLeDiff, indexAddrA, indexRefA, appendA, strA, Nat.reduceMul, Nat.zero_mul, Nat.reduceMod, Int.reduceEq, Int.reduceLT, Int.reduceLE, Nat.reduceLT, Nat.lt_irrefl, Nat.reduceBEq, tys0, tys1, tys2, tys3, tys4, tys5, tys6, tys7, tys8, tys9, tys10, tys11, tys12, tys13, tys14, tys15, tys16, tys17, tys18, Try.ntmps46, Try.results46, strL, hsz, e1, e2, e4, e5, f7, hsl, c4, c5, List.length_map]
          subst hm
          refine ⟨⟨d ++ [41], r, P, rp, Wl, g⟩, ⟨by rw [ha]; simp, hI.step hst, (runH_cons hst).symm, ?_, by simp only [List.length_cons, List.length_append, List.length_nil] at hrl ⊢; omega⟩, by simp, by simp only [List.length_append, List.length_cons, List.length_nil, Nat.zero_add]; repeat constructor, rfl⟩
          have h1 := congrArg (List.take (rp.length + 1)) hW
          rw [List.take_take, pth_cons, List.take_append_of_le_length (by rw [pth_len]; exact Nat.le_refl _), List.take_of_length_le (l := pth rp) (by rw [pth_len]; exact Nat.le_refl _)] at h1
          rw [← h1]; congr 1; simp
      · have c5 : ((c.toNat : Int) == 41) = false := ne1 41 h5 (by omega)
        rw [failed (by simp [stepH, h4, h5])]
        simp only [run0, run1, run2, run3, run4, run5, run6, run7, run8, run9, run10, run11, run12, run13, run14, run15, run16, run17, run18, run19, run20, run21, run22, reduceCtorEq, Nat.reduceEqDiff, Nat.reduceAdd, Nat.reduceSub, Nat.reduceLeDiff, indexAddrA, indexRefA, appendA, strA, Nat.reduceMul, Nat.zero_mul, Nat.reduceMod, Int.reduceEq, Int.reduceLT, Int.reduceLE, Nat.reduceLT, Nat.lt_irrefl, Nat.reduceBEq, tys0, tys1, tys2, tys3, tys4, tys5, tys6, tys7, tys8, tys9, tys10, tys11, tys12, tys13, tys14, tys15, tys16, tys17, tys18, Try.ntmps46, Try.results46, strL, hsz, e1, e2, c4, c5, List.length_map]
        exact fail_fin rfl

end Go.Proofs.Ytphmkhaboghagaa
/-
  Hydras read from text: the law.
-/
namespace Go.Proofs.Ytphmkhaboghagaa
open Go K Od
set_option linter.unusedSimpArgs false
set_option linter.unusedVariables false
set_option maxHeartbeats 3200000
set_option maxRecDepth 8000

theorem markNone_ok (k : Int) : Ct Try.prog 86 [.sl false [], .int .i64 k] [] (.int .i64 k) [] := by
  refine Ct.by_ hmix [] Try.func86 rfl ?_
  simp only [run0, run1, run2, run3, run4, run5, run6, run7, run8, run9, run10, run11, run12, run13, run14, run15, run16, run17, run18, run19, run20, run21, run22, reduceCtorEq, Nat.reduceEqDiff, Nat.reduceAdd, Nat.reduceSub, Nat.reduceLeDiff, indexAddrA, indexRefA, appendA, strA, Nat.reduceMul, Nat.zero_mul, Nat.reduceMod, Int.reduceEq, Int.reduceLT, Int.reduceLE, Nat.reduceLT, Nat.lt_irrefl, Nat.reduceBEq, tys0, tys1, tys2, tys3, tys4, tys5, tys6, tys7, tys8, tys9, tys10, tys11, tys12, tys13, tys14, tys15, tys16, tys17, tys18, Try.ntmps86, Try.results86]
  refine AWp.loop_inv (ι := Unit) (fun p => ⟨[.sl false [], .int .i64 k, .junk, .junk, .int .i64 0, .int .i64 0, .junk, .junk, .junk, .junk, .junk, .junk, .junk, .junk, .junk, .junk, .junk, .junk, .junk], []⟩)
    (fun p => True) (fun p => 0) () trivial ⟨by repeat constructor, rfl⟩ ?_
  rintro ⟨⟩ _
  refine W.sound hmix (E := []) ?_
  simp only [run0, run1, run2, run3, run4, run5, run6, run7, run8, run9, run10, run11, run12, run13, run14, run15, run16, run17, run18, run19, run20, run21, run22, reduceCtorEq, Nat.reduceEqDiff, Nat.reduceAdd, Nat.reduceSub, Nat.reduceLeDiff, indexAddrA, indexRefA, appendA, strA, Nat.reduceMul, Nat.zero_mul, Nat.reduceMod, Int.reduceEq, Int.reduceLT, Int.reduceLE, Nat.reduceLT, Nat.lt_irrefl, Nat.reduceBEq, tys0, tys1, tys2, tys3, tys4, tys5, tys6, tys7, tys8, tys9, tys10, tys11, tys12, tys13, tys14, tys15, tys16, tys17, tys18, Try.ntmps86, Try.results86, List.length_nil, Int.natCast_zero, Int.lt_irrefl]
  exact Fin.eq rfl rfl
theorem markHydraNone_ok (k : Int) : Ct Try.prog 41 [.agg [.sl false []], .int .i64 k] [] (.int .i64 k) [] := by
  refine Ct.by_ hmix [] Try.func41 rfl ?_
  simp only [run0, run1, run2, run3, run4, run5, run6, run7, run8, run9, run10, run11, run12, run13, run14, run15, run16, run17, run18, run19, run20, run21, run22, reduceCtorEq, Nat.reduceEqDiff, Nat.reduceAdd, Nat.reduceSub, Nat.reduceLeDiff, indexAddrA, indexRefA, appendA, strA, Nat.reduceMul, Nat.zero_mul, Nat.reduceMod, Int.reduceEq, Int.reduceLT, Int.reduceLE, Nat.reduceLT, Nat.lt_irrefl, Nat.reduceBEq, tys0, tys1, tys2, tys3, tys4, tys5, tys6, tys7, tys8, tys9, tys10, tys11, tys12, tys13, tys14, tys15, tys16, tys17, tys18, Try.ntmps41, Try.results41]
  refine RunL.callp rfl rfl ok_f86 (markNone_ok k) rfl rfl ?_
  simp only [run0, run1, run2, run3, run4, run5, run6, run7, run8, run9, run10, run11, run12, run13, run14, run15, run16, run17, run18, run19, run20, run21, run22, reduceCtorEq, Nat.reduceEqDiff, Nat.reduceAdd, Nat.reduceSub, Nat.reduceLeDiff, indexAddrA, indexRefA, appendA, strA, Nat.reduceMul, Nat.zero_mul, Nat.reduceMod, Int.reduceEq, Int.reduceLT, Int.reduceLE, Nat.reduceLT, Nat.lt_irrefl, Nat.reduceBEq, tys0, tys1, tys2, tys3, tys4, tys5, tys6, tys7, tys8, tys9, tys10, tys11, tys12, tys13, tys14, tys15, tys16, tys17, tys18, Try.ntmps41, Try.results41]
  exact Fin.eq rfl rfl
theorem markHydra_ok (l : List Int) (id g : Nat) (L0 : List AObj) (k : Int) (hL : L0[id]? = some (.vec 3 1 g (ints l))) (hl : l.length ≤ 1048576) (h0 : 0 ≤ k) (hk : k ≤ 4611686018427387904) :
    Ct Try.prog 41 [.agg [.ref id [] g l.length], .int .i64 k] L0 (.int .i64 (k + l.length)) ((L0 ++ [AObj.box 60 [.ref id [] g l.length]]).set id (.vec 3 1 g (ints (mkI l k)))) := by
  have hid := (List.getElem?_eq_some_iff.1 hL).1
  have hc := markIntS_ok l id g (L0 ++ [.box 60 [.ref id [] g l.length]]) k (by rw [List.getElem?_append_left hid]; exact hL) hl h0 hk
  refine Ct.by_ hmix [] Try.func41 rfl ?_
  simp only [run0, run1, run2, run3, run4, run5, run6, run7, run8, run9, run10, run11, run12, run13, run14, run15, run16, run17, run18, run19, run20, run21, run22, reduceCtorEq, Nat.reduceEqDiff, Nat.reduceAdd, Nat.reduceSub, Nat.reduceLeDiff, indexAddrA, indexRefA, appendA, strA, Nat.reduceMul, Nat.zero_mul, Nat.reduceMod, Int.reduceEq, Int.reduceLT, Int.reduceLE, Nat.reduceLT, Nat.lt_irrefl, Nat.reduceBEq, tys0, tys1, tys2, tys3, tys4, tys5, tys6, tys7, tys8, tys9, tys10, tys11, tys12, tys13, tys14, tys15, tys16, tys17, tys18, Try.ntmps41, Try.results41, List.getElem?_concat_length]
  refine RunL.callM rfl rfl ok_f86 rfl rfl hc rfl ?_
  simp only [run0, run1, run2, run3, run4, run5, run6, run7, run8, run9, run10, run11, run12, run13, run14, run15, run16, run17, run18, run19, run20, run21, run22, reduceCtorEq, Nat.reduceEqDiff, Nat.reduceAdd, Nat.reduceSub, Nat.reduceLeDiff, indexAddrA, indexRefA, appendA, strA, Nat.reduceMul, Nat.zero_mul, Nat.reduceMod, Int.reduceEq, Int.reduceLT, Int.reduceLE, Nat.reduceLT, Nat.lt_irrefl, Nat.reduceBEq, tys0, tys1, tys2, tys3, tys4, tys5, tys6, tys7, tys8, tys9, tys10, tys11, tys12, tys13, tys14, tys15, tys16, tys17, tys18, Try.ntmps41, Try.results41]
  exact Fin.own rfl rfl
theorem heldHydra_ok (l : List Int) (k : Int) (hl : l.length ≤ 1048576) (h0 : 0 ≤ k) (hk : k ≤ 4611686018427387904) : Ct Try.prog 42 [hyA (mkI l k), .int .i64 k] [] (.int .i64 (k + l.length)) [] := by
  have hp := hyA_pure (mkI l k)
  simp only [hyA] at hp
  have e : ¬ (k + (l.length : Int) < 0) := by omega
  refine Ct.by_ hmix [] Try.func42 rfl ?_
  simp only [run0, run1, run2, run3, run4, run5, run6, run7, run8, run9, run10, run11, run12, run13, run14, run15, run16, run17, run18, run19, run20, run21, run22, reduceCtorEq, Nat.reduceEqDiff, Nat.reduceAdd, Nat.reduceSub, Nat.reduceLeDiff, indexAddrA, indexRefA, appendA, strA, Nat.reduceMul, Nat.zero_mul, Nat.reduceMod, Int.reduceEq, Int.reduceLT, Int.reduceLE, Nat.reduceLT, Nat.lt_irrefl, Nat.reduceBEq, tys0, tys1, tys2, tys3, tys4, tys5, tys6, tys7, tys8, tys9, tys10, tys11, tys12, tys13, tys14, tys15, tys16, tys17, tys18, Try.ntmps42, Try.results42, hyA]
  refine RunL.callp rfl rfl ok_f87 (heldIntS_ok l k hl h0 hk) (by simp only [pureL, pureB, ints_pure, Bool.and_self, Bool.and_true, Bool.true_and]) rfl ?_
  simp only [run0, run1, run2, run3, run4, run5, run6, run7, run8, run9, run10, run11, run12, run13, run14, run15, run16, run17, run18, run19, run20, run21, run22, reduceCtorEq, Nat.reduceEqDiff, Nat.reduceAdd, Nat.reduceSub, Nat.reduceLeDiff, indexAddrA, indexRefA, appendA, strA, Nat.reduceMul, Nat.zero_mul, Nat.reduceMod, Int.reduceEq, Int.reduceLT, Int.reduceLE, Nat.reduceLT, Nat.lt_irrefl, Nat.reduceBEq, tys0, tys1, tys2, tys3, tys4, tys5, tys6, tys7, tys8, tys9, tys10, tys11, tys12, tys13, tys14, tys15, tys16, tys17, tys18, Try.ntmps42, Try.results42, e]
  exact Fin.eq rfl rfl

theorem runH_len : ∀ (s : List UInt8) (P : List Int) (rp : List Nat) (Q : List Int), P.length ≤ 40 → runH s P rp = some Q → Q.length ≤ 40
  | [], P, rp, Q, h, e => by
    simp only [runH] at e
    split at e
    · cases e; exact h
    · cases e
  | c :: s, P, rp, Q, h, e => by
    cases hq : stepH P rp c with
    | none => rw [runH_none hq] at e; cases e
    | some q =>
      rw [runH_cons hq] at e
      refine runH_len s q.1 q.2 Q ?_ e
      unfold stepH at hq
      split at hq
      · rename_i hc; cases hq; simp; omega
      · split at hq
        · cases hq; exact h
        · cases hq

theorem FnExactParseHydra_ok {a0 : AV} (h0 : IsOf Try.prog 9 a0) : Ct Try.prog 11 [a0] [] (.bool true) [] := by
  obtain ⟨_, h0⟩ := h0.one ty_a9
  obtain ⟨b, e, hb⟩ := h0.string Try.underlying9
  simp only [List.cons.injEq, and_true] at e
  subst e
  obtain ⟨s, rfl⟩ : ∃ s : List UInt8, b = ⟨s.toArray⟩ := ⟨b.data.toList, by cases b; simp⟩
  have hsz := strL_size s
  by_cases hl : (1048576 : Int) < (s.length : Int)
  · refine Ct.by_ hmix [] Try.func11 rfl ?_
    simp only [run0, run1, run2, run3, run4, run5, run6, run7, run8, run9, run10, run11, run12, run13, run14, run15, run16, run17, run18, run19, run20, run21, run22, reduceCtorEq, Nat.reduceEqDiff, Nat.reduceAdd, Nat.reduceSub, Nat.reduceLeDiff, indexAddrA, indexRefA, appendA, strA, Nat.reduceMul, Nat.zero_mul, Nat.reduceMod, Int.reduceEq, Int.reduceLT, Int.reduceLE, Nat.reduceLT, Nat.lt_irrefl, Nat.reduceBEq, tys0, tys1, tys2, tys3, tys4, tys5, tys6, tys7, tys8, tys9, tys10, tys11, tys12, tys13, tys14, tys15, tys16, tys17, tys18, Try.ntmps11, Try.results11, hsz, hl]
    exact Fin.eq rfl rfl
  have hs : s.length ≤ 1048576 := by omega
  have hsp := specParse_ok s hs
  have him := implParse_ok s hs
  have hlen := runH_len s [] []
  simp only [strL] at hsp him
  cases hR : runH s [] [] with
  | none =>
    rw [hR] at hsp him
    simp only [optH, rI, mI, hyA, nilV, Option.getD_none, Option.isSome_none] at hsp him
    have heq := eqHydra_ok [] (by simp)
    have hhe := heldHydra_ok [] 1 (by simp) (by omega) (by omega)
    have hv2 : ∀ L, VwL L [.agg [.lit (.slice none 0 0)], .agg [.sl false []]] [hyA [], hyA []] := fun L => .cons (.agg (.cons (.nil false) .nil)) (.cons (.pur (.of rfl)) .nil)
    have hv3 : ∀ L, VwL L [.agg [.lit (.slice none 0 0)], .int .i64 1] [.agg [.sl false []], .int .i64 1] := fun L => .cons (.agg (.cons (.nil false) .nil)) (.cons (.pur (.int _ _)) .nil)
    refine Ct.by_ hmix [] Try.func11 rfl ?_
    simp only [run0, run1, run2, run3, run4, run5, run6, run7, run8, run9, run10, run11, run12, run13, run14, run15, run16, run17, run18, run19, run20, run21, run22, reduceCtorEq, Nat.reduceEqDiff, Nat.reduceAdd, Nat.reduceSub, Nat.reduceLeDiff, indexAddrA, indexRefA, appendA, strA, Nat.reduceMul, Nat.zero_mul, Nat.reduceMod, Int.reduceEq, Int.reduceLT, Int.reduceLE, Nat.reduceLT, Nat.lt_irrefl, Nat.reduceBEq, tys0, tys1, tys2, tys3, tys4, tys5, tys6, tys7, tys8, tys9, tys10, tys11, tys12, tys13, tys14, tys15, tys16, tys17, tys18, Try.ntmps11, Try.results11, hsz, hl]
    refine RunL.callp rfl rfl ok_f45 hsp rfl rfl ?_
    simp only [run0, run1, run2, run3, run4, run5, run6, run7, run8, run9, run10, run11, run12, run13, run14, run15, run16, run17, run18, run19, run20, run21, run22, reduceCtorEq, Nat.reduceEqDiff, Nat.reduceAdd, Nat.reduceSub, Nat.reduceLeDiff, indexAddrA, indexRefA, appendA, strA, Nat.reduceMul, Nat.zero_mul, Nat.reduceMod, Int.reduceEq, Int.reduceLT, Int.reduceLE, Nat.reduceLT, Nat.lt_irrefl, Nat.reduceBEq, tys0, tys1, tys2, tys3, tys4, tys5, tys6, tys7, tys8, tys9, tys10, tys11, tys12, tys13, tys14, tys15, tys16, tys17, tys18, Try.ntmps11, Try.results11]
    refine RunL.callgp rfl rfl ok_f46 rfl him rfl rfl ?_
    simp only [run0, run1, run2, run3, run4, run5, run6, run7, run8, run9, run10, run11, run12, run13, run14, run15, run16, run17, run18, run19, run20, run21, run22, reduceCtorEq, Nat.reduceEqDiff, Nat.reduceAdd, Nat.reduceSub, Nat.reduceLeDiff, indexAddrA, indexRefA, appendA, strA, Nat.reduceMul, Nat.zero_mul, Nat.reduceMod, Int.reduceEq, Int.reduceLT, Int.reduceLE, Nat.reduceLT, Nat.lt_irrefl, Nat.reduceBEq, tys0, tys1, tys2, tys3, tys4, tys5, tys6, tys7, tys8, tys9, tys10, tys11, tys12, tys13, tys14, tys15, tys16, tys17, tys18, Try.ntmps11, Try.results11, shA, shL, shO, List.map_cons, List.map_nil]
    refine RunL.lendV rfl rfl ok_f38 rfl heq (hv2 _) rfl rfl ?_
    simp only [run0, run1, run2, run3, run4, run5, run6, run7, run8, run9, run10, run11, run12, run13, run14, run15, run16, run17, run18, run19, run20, run21, run22, reduceCtorEq, Nat.reduceEqDiff, Nat.reduceAdd, Nat.reduceSub, Nat.reduceLeDiff, indexAddrA, indexRefA, appendA, strA, Nat.reduceMul, Nat.zero_mul, Nat.reduceMod, Int.reduceEq, Int.reduceLT, Int.reduceLE, Nat.reduceLT, Nat.lt_irrefl, Nat.reduceBEq, tys0, tys1, tys2, tys3, tys4, tys5, tys6, tys7, tys8, tys9, tys10, tys11, tys12, tys13, tys14, tys15, tys16, tys17, tys18, Try.ntmps11, Try.results11, bne_self_eq_false]
    refine RunL.lendV rfl rfl ok_f41 rfl (markHydraNone_ok 1) (hv3 _) rfl rfl ?_
    simp only [run0, run1, run2, run3, run4, run5, run6, run7, run8, run9, run10, run11, run12, run13, run14, run15, run16, run17, run18, run19, run20, run21, run22, reduceCtorEq, Nat.reduceEqDiff, Nat.reduceAdd, Nat.reduceSub, Nat.reduceLeDiff, indexAddrA, indexRefA, appendA, strA, Nat.reduceMul, Nat.zero_mul, Nat.reduceMod, Int.reduceEq, Int.reduceLT, Int.reduceLE, Nat.reduceLT, Nat.lt_irrefl, Nat.reduceBEq, tys0, tys1, tys2, tys3, tys4, tys5, tys6, tys7, tys8, tys9, tys10, tys11, tys12, tys13, tys14, tys15, tys16, tys17, tys18, Try.ntmps11, Try.results11]
    refine RunL.lendV rfl rfl ok_f42 rfl hhe (hv3 _) rfl rfl ?_
    simp only [run0, run1, run2, run3, run4, run5, run6, run7, run8, run9, run10, run11, run12, run13, run14, run15, run16, run17, run18, run19, run20, run21, run22, reduceCtorEq, Nat.reduceEqDiff, Nat.reduceAdd, Nat.reduceSub, Nat.reduceLeDiff, indexAddrA, indexRefA, appendA, strA, Nat.reduceMul, Nat.zero_mul, Nat.reduceMod, Int.reduceEq, Int.reduceLT, Int.reduceLE, Nat.reduceLT, Nat.lt_irrefl, Nat.reduceBEq, tys0, tys1, tys2, tys3, tys4, tys5, tys6, tys7, tys8, tys9, tys10, tys11, tys12, tys13, tys14, tys15, tys16, tys17, tys18, Try.ntmps11, Try.results11, List.length_nil, Int.natCast_zero, Int.add_zero, bne_self_eq_false]
    refine RunL.callgp rfl rfl ok_f46 rfl him rfl rfl ?_
    simp only [run0, run1, run2, run3, run4, run5, run6, run7, run8, run9, run10, run11, run12, run13, run14, run15, run16, run17, run18, run19, run20, run21, run22, reduceCtorEq, Nat.reduceEqDiff, Nat.reduceAdd, Nat.reduceSub, Nat.reduceLeDiff, indexAddrA, indexRefA, appendA, strA, Nat.reduceMul, Nat.zero_mul, Nat.reduceMod, Int.reduceEq, Int.reduceLT, Int.reduceLE, Nat.reduceLT, Nat.lt_irrefl, Nat.reduceBEq, tys0, tys1, tys2, tys3, tys4, tys5, tys6, tys7, tys8, tys9, tys10, tys11, tys12, tys13, tys14, tys15, tys16, tys17, tys18, Try.ntmps11, Try.results11, shA, shL, shO, List.map_cons, List.map_nil]
    refine RunL.lendV rfl rfl ok_f38 rfl heq (hv2 _) rfl rfl ?_
    simp only [run0, run1, run2, run3, run4, run5, run6, run7, run8, run9, run10, run11, run12, run13, run14, run15, run16, run17, run18, run19, run20, run21, run22, reduceCtorEq, Nat.reduceEqDiff, Nat.reduceAdd, Nat.reduceSub, Nat.reduceLeDiff, indexAddrA, indexRefA, appendA, strA, Nat.reduceMul, Nat.zero_mul, Nat.reduceMod, Int.reduceEq, Int.reduceLT, Int.reduceLE, Nat.reduceLT, Nat.lt_irrefl, Nat.reduceBEq, tys0, tys1, tys2, tys3, tys4, tys5, tys6, tys7, tys8, tys9, tys10, tys11, tys12, tys13, tys14, tys15, tys16, tys17, tys18, Try.ntmps11, Try.results11, bne_self_eq_false]
    refine RunL.lendV rfl rfl ok_f42 rfl hhe (hv3 _) rfl rfl ?_
    simp only [run0, run1, run2, run3, run4, run5, run6, run7, run8, run9, run10, run11, run12, run13, run14, run15, run16, run17, run18, run19, run20, run21, run22, reduceCtorEq, Nat.reduceEqDiff, Nat.reduceAdd, Nat.reduceSub, Nat.reduceLeDiff, indexAddrA, indexRefA, appendA, strA, Nat.reduceMul, Nat.zero_mul, Nat.reduceMod, Int.reduceEq, Int.reduceLT, Int.reduceLE, Nat.reduceLT, Nat.lt_irrefl, Nat.reduceBEq, tys0, tys1, tys2, tys3, tys4, tys5, tys6, tys7, tys8, tys9, tys10, tys11, tys12, tys13, tys14, tys15, tys16, tys17, tys18, Try.ntmps11, Try.results11, List.length_nil, Int.natCast_zero, Int.add_zero, bne_self_eq_false]
    exact Fin.eq rfl rfl
  | some P =>
    have hPl := hlen P (by simp) hR
    rw [hR] at hsp him
    have pP := hyA_pure P
    have eP : pureL [.tup [hyA P, .bool true]] = true := by simp only [pureL, pureB, pP, Bool.and_self, Bool.and_true]
    simp only [optH, rI, mI, hyA, nilV, Option.getD_some, Option.isSome_some] at hsp him
    have heq := eqHydra_ok P (by omega)
    have hhe := heldHydra_ok P 1 (by omega) (by omega) (by omega)
    have e4 : ¬ (1 + (P.length : Int) < 0) := by omega
    have hv2 : ∀ {L : List AObj} {id : Nat}, L[id]? = some (.vec 3 1 P.length (ints P)) → VwL L [.agg [.ref id [] P.length P.length], .agg [.sl false (ints P)]] [hyA P, hyA P] := fun h => .cons (.agg (.cons (Vw_intR h rfl rfl) .nil)) (.cons (.pur (.of pP)) .nil)
    have hv3 : ∀ {L : List AObj} {id : Nat}, L[id]? = some (.vec 3 1 P.length (ints (mkI P 1))) → VwL L [.agg [.ref id [] P.length P.length], .int .i64 1] [hyA (mkI P 1), .int .i64 1] := fun h => .cons (.agg (.cons (Vw_intR h rfl (mkI_len P 1).symm) .nil)) (.cons (.pur (.int _ _)) .nil)
    have sm : ∀ k, List.map (shA k) (ints P) = ints P := fun k => by
      rw [List.map_map]
      exact List.map_congr_left fun x _ => rfl
    refine Ct.by_ hmix [] Try.func11 rfl ?_
    simp only [run0, run1, run2, run3, run4, run5, run6, run7, run8, run9, run10, run11, run12, run13, run14, run15, run16, run17, run18, run19, run20, run21, run22, reduceCtorEq, Nat.reduceEqDiff, Nat.reduceAdd, Nat.reduceSub, Nat.reduceLeDiff, indexAddrA, indexRefA, appendA, strA, Nat.reduceMul, Nat.zero_mul, Nat.reduceMod, Int.reduceEq, Int.reduceLT, Int.reduceLE, Nat.reduceLT, Nat.lt_irrefl, Nat.reduceBEq, tys0, tys1, tys2, tys3, tys4, tys5, tys6, tys7, tys8, tys9, tys10, tys11, tys12, tys13, tys14, tys15, tys16, tys17, tys18, Try.ntmps11, Try.results11, hsz, hl]
    refine RunL.callp rfl rfl ok_f45 hsp rfl rfl ?_
    simp only [run0, run1, run2, run3, run4, run5, run6, run7, run8, run9, run10, run11, run12, run13, run14, run15, run16, run17, run18, run19, run20, run21, run22, reduceCtorEq, Nat.reduceEqDiff, Nat.reduceAdd, Nat.reduceSub, Nat.reduceLeDiff, indexAddrA, indexRefA, appendA, strA, Nat.reduceMul, Nat.zero_mul, Nat.reduceMod, Int.reduceEq, Int.reduceLT, Int.reduceLE, Nat.reduceLT, Nat.lt_irrefl, Nat.reduceBEq, tys0, tys1, tys2, tys3, tys4, tys5, tys6, tys7, tys8, tys9, tys10, tys11, tys12, tys13, tys14, tys15, tys16, tys17, tys18, Try.ntmps11, Try.results11]
    refine RunL.callgp rfl rfl ok_f46 rfl him rfl rfl ?_
    simp only [run0, run1, run2, run3, run4, run5, run6, run7, run8, run9, run10, run11, run12, run13, run14, run15, run16, run17, run18, run19, run20, run21, run22, reduceCtorEq, Nat.reduceEqDiff, Nat.reduceAdd, Nat.reduceSub, Nat.reduceLeDiff, indexAddrA, indexRefA, appendA, strA, Nat.reduceMul, Nat.zero_mul, Nat.reduceMod, Int.reduceEq, Int.reduceLT, Int.reduceLE, Nat.reduceLT, Nat.lt_irrefl, Nat.reduceBEq, tys0, tys1, tys2, tys3, tys4, tys5, tys6, tys7, tys8, tys9, tys10, tys11, tys12, tys13, tys14, tys15, tys16, tys17, tys18, Try.ntmps11, Try.results11, shA, shL, sm, shO, List.map_cons, List.map_nil]
    refine RunL.lendV rfl rfl ok_f38 rfl heq (hv2 rfl) rfl rfl ?_
    simp only [run0, run1, run2, run3, run4, run5, run6, run7, run8, run9, run10, run11, run12, run13, run14, run15, run16, run17, run18, run19, run20, run21, run22, reduceCtorEq, Nat.reduceEqDiff, Nat.reduceAdd, Nat.reduceSub, Nat.reduceLeDiff, indexAddrA, indexRefA, appendA, strA, Nat.reduceMul, Nat.zero_mul, Nat.reduceMod, Int.reduceEq, Int.reduceLT, Int.reduceLE, Nat.reduceLT, Nat.lt_irrefl, Nat.reduceBEq, tys0, tys1, tys2, tys3, tys4, tys5, tys6, tys7, tys8, tys9, tys10, tys11, tys12, tys13, tys14, tys15, tys16, tys17, tys18, Try.ntmps11, Try.results11, bne_self_eq_false]
    refine RunL.callM rfl rfl ok_f41 rfl rfl (markHydra_ok P 4 P.length _ 1 rfl (by omega) (by omega) (by omega)) rfl ?_
    simp only [run0, run1, run2, run3, run4, run5, run6, run7, run8, run9, run10, run11, run12, run13, run14, run15, run16, run17, run18, run19, run20, run21, run22, reduceCtorEq, Nat.reduceEqDiff, Nat.reduceAdd, Nat.reduceSub, Nat.reduceLeDiff, indexAddrA, indexRefA, appendA, strA, Nat.reduceMul, Nat.zero_mul, Nat.reduceMod, Int.reduceEq, Int.reduceLT, Int.reduceLE, Nat.reduceLT, Nat.lt_irrefl, Nat.reduceBEq, tys0, tys1, tys2, tys3, tys4, tys5, tys6, tys7, tys8, tys9, tys10, tys11, tys12, tys13, tys14, tys15, tys16, tys17, tys18, Try.ntmps11, Try.results11]
    refine RunL.lendV rfl rfl ok_f42 rfl hhe (hv3 rfl) rfl rfl ?_
    simp only [run0, run1, run2, run3, run4, run5, run6, run7, run8, run9, run10, run11, run12, run13, run14, run15, run16, run17, run18, run19, run20, run21, run22, reduceCtorEq, Nat.reduceEqDiff, Nat.reduceAdd, Nat.reduceSub, Nat.reduceLeDiff, indexAddrA, indexRefA, appendA, strA, Nat.reduceMul, Nat.zero_mul, Nat.reduceMod, Int.reduceEq, Int.reduceLT, Int.reduceLE, Nat.reduceLT, Nat.lt_irrefl, Nat.reduceBEq, tys0, tys1, tys2, tys3, tys4, tys5, tys6, tys7, tys8, tys9, tys10, tys11, tys12, tys13, tys14, tys15, tys16, tys17, tys18, Try.ntmps11, Try.results11, e4, bne_self_eq_false]
    refine RunL.callgp rfl rfl ok_f46 rfl him rfl rfl ?_
    simp only [run0, run1, run2, run3, run4, run5, run6, run7, run8, run9, run10, run11, run12, run13, run14, run15, run16, run17, run18, run19, run20, run21, run22, reduceCtorEq, Nat.reduceEqDiff, Nat.reduceAdd, Nat.reduceSub, Nat.reduceLeDiff, indexAddrA, indexRefA, appendA, strA, Nat.reduceMul, Nat.zero_mul, Nat.reduceMod, Int.reduceEq, Int.reduceLT, Int.reduceLE, Nat.reduceLT, Nat.lt_irrefl, Nat.reduceBEq, tys0, tys1, tys2, tys3, tys4, tys5, tys6, tys7, tys8, tys9, tys10, tys11, tys12, tys13, tys14, tys15, tys16, tys17, tys18, Try.ntmps11, Try.results11, shA, shL, sm, shO, List.map_cons, List.map_nil]
    refine RunL.lendV rfl rfl ok_f38 rfl heq (hv2 rfl) rfl rfl ?_
    simp only [run0, run1, run2, run3, run4, run5, run6, run7, run8, run9, run10, run11, run12, run13, run14, run15, run16, run17, run18, run19, run20, run21, run22, reduceCtorEq, Nat.reduceEqDiff, Nat.reduceAdd, Nat.reduceSub, Nat.reduceLeDiff, indexAddrA, indexRefA, appendA, strA, Nat.reduceMul, Nat.zero_mul, Nat.reduceMod, Int.reduceEq, Int.reduceLT, Int.reduceLE, Nat.reduceLT, Nat.lt_irrefl, Nat.reduceBEq, tys0, tys1, tys2, tys3, tys4, tys5, tys6, tys7, tys8, tys9, tys10, tys11, tys12, tys13, tys14, tys15, tys16, tys17, tys18, Try.ntmps11, Try.results11, bne_self_eq_false]
    refine RunL.lendV rfl rfl ok_f42 rfl hhe (hv3 rfl) rfl rfl ?_
    simp only [run0, run1, run2, run3, run4, run5, run6, run7, run8, run9, run10, run11, run12, run13, run14, run15, run16, run17, run18, run19, run20, run21, run22, reduceCtorEq, Nat.reduceEqDiff, Nat.reduceAdd, Nat.reduceSub, Nat.reduceLeDiff, indexAddrA, indexRefA, appendA, strA, Nat.reduceMul, Nat.zero_mul, Nat.reduceMod, Int.reduceEq, Int.reduceLT, Int.reduceLE, Nat.reduceLT, Nat.lt_irrefl, Nat.reduceBEq, tys0, tys1, tys2, tys3, tys4, tys5, tys6, tys7, tys8, tys9, tys10, tys11, tys12, tys13, tys14, tys15, tys16, tys17, tys18, Try.ntmps11, Try.results11, e4, bne_self_eq_false]
    exact Fin.eq rfl rfl

end Go.Proofs.Ytphmkhaboghagaa
