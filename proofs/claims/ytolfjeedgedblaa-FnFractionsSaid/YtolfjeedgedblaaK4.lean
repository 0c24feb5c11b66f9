/-
  A logic of values for Go's functions (part 4): the operations that only compute or read, all together.
-/
import Derived.Test.YtolfjeedgedblaaK3
namespace Go.Proofs.Ytolfjeedgedblaa.K
set_option linter.unusedVariables false
set_option linter.unusedSimpArgs false
open Go

def unA (op : UnOp) : AV → Option AV
  | .int k n =>
    match op with
    | .neg => some (.int k (k.wrap (0 - n)))
    | .xor => some (.int k (Go.bits .xor k (if k.signed then -1 else k.max) n))
    | _ => none
  | .bool b =>
    match op with
    | .not => some (.bool (!b))
    | _ => none
  | _ => none

theorem unA_run {P : Program} {γ : Nat → Gh} {L : List AObj} {w : World} {op : UnOp} {x z : AV} {u : Value} (hx : RV γ L x u) (h : unA op x = some z) :
    ∃ r, (Op.unary op u).run P w = .ok r w ∧ RV γ L z r := by
  unfold unA at h
  split at h
  · cases hx
    split at h
    · cases h; exact ⟨_, by simp [Op.unary, Op.intArith], .int _ _⟩
    · cases h; exact ⟨_, by simp [Op.unary, intBits_xor], .int _ _⟩
    · cases h
  · cases hx
    split at h
    · cases h; exact ⟨_, by simp [Op.unary], .bool _⟩
    · cases h
  · cases h

/-- Conversions between kinds of whole numbers, and of a type to itself. -/
def convA (P : Program) (src dst : TypeId) : AV → Option AV
  | .int _ n =>
    match P.underlying src, P.underlying dst with
    | some _, some (.int k') => some (.int k' (k'.wrap n))
    | _, _ => none
  | .str s =>
    match P.underlying src, P.underlying dst with
    | some .string, some .string => some (.str s)
    | _, _ => none
  | _ => none

theorem convA_run {P : Program} {γ : Nat → Gh} {L : List AObj} {w : World} {src dst : TypeId} {x z : AV} {u : Value} (hx : RV γ L x u) (h : convA P src dst x = some z) :
    ∃ r, (convert src dst u).run P w = .ok r w ∧ RV γ L z r := by
  unfold convA at h
  split at h
  · cases hx
    split at h
    · rename_i d k' h1 h2
      cases h
      refine ⟨_, ?_, .int _ _⟩
      simp only [convert, Sem.run_bind, run_underlying h1, run_underlying h2, Result.andThen_ok]
      cases d <;> simp [Conv.intToInt]
    · cases h
  · cases hx
    split at h
    · rename_i h1 h2
      cases h
      refine ⟨_, ?_, .str _⟩
      simp only [convert, Sem.run_bind, run_underlying h1, run_underlying h2, Result.andThen_ok]
      simp
    · cases h
  · cases h

/-- A field's place and type. -/
def fieldOf (P : Program) (t : TypeId) (f : Nat) : Option (Nat × TypeId) :=
  match P.underlying t with
  | some (.struct fs) => (fs[f]?).map fun f => (f.offset, f.type)
  | _ => none

def fieldAddrA (P : Program) (t : TypeId) (f : Nat) (x : AV) : Option AV :=
  match fieldOf P t f with
  | some (o, ft) =>
    if (P.info? ft).isSome ∧ P.cellsOf ft ≠ 0 then
      match x with
      | .ptr id off => some (.ptr id (off + o))
      | .rptr c off => some (.rptr c (off + o))
      | .eptr id p g i off => some (.eptr id p g i (off + o))
      | _ => none
    else none
  | none => none

theorem EptrOk.shift {γ : Nat → Gh} {L : List AObj} {id : Nat} {p : Pth} {g i off : Nat} {b o k : Nat}
    (h : EptrOk γ L id p g i off (.pointer (some ⟨b, o, none⟩))) : EptrOk γ L id p g i (off + k) (.pointer (some ⟨b, o + k, none⟩)) := by
  unfold EptrOk at *
  split at h
  · rename_i hL
    refine ⟨h.1, fun e => ?_⟩
    obtain ⟨es', x, b', c, s, h1, h2, h3, h4, h5, h6⟩ := h.2 e
    simp only [Value.pointer.injEq, Option.some.injEq, Addr.mk.injEq] at h5
    obtain ⟨rfl, rfl, _⟩ := h5
    exact ⟨es', x, b, c, s, h1, h2, h3, h4, by rw [Nat.add_assoc], h6⟩
  · trivial
  · exact h

/-- An element's address, if it may still be used. -/
def eptrNow (L : List AObj) (id g : Nat) : Bool :=
  match L[id]? with
  | some (.vec _ _ g' _) => g == g'
  | _ => false

theorem EptrOk.form {γ : Nat → Gh} {L : List AObj} {id : Nat} {p : Pth} {g i off : Nat} {v : Value} (hn : eptrNow L id g = true) (h : EptrOk γ L id p g i off v) :
    ∃ b o, v = .pointer (some ⟨b, o, none⟩) := by
  unfold eptrNow at hn
  unfold EptrOk at h
  split at hn
  · rename_i hL
    simp only [hL] at h
    obtain ⟨_, _, b, _, _, _, _, _, _, rfl, _⟩ := h.2 (by simpa using hn)
    exact ⟨_, _, rfl⟩
  · cases hn

theorem run_fieldAt {P : Program} {t : TypeId} {f o : Nat} {ft : TypeId} (w : World) (h : fieldOf P t f = some (o, ft)) (hi : (P.info? ft).isSome = true) (hz : P.cellsOf ft ≠ 0) (b off : Nat) :
    (Instr.fieldAt t (.pointer (some ⟨b, off, none⟩)) f).run P w = .ok (.pointer (some ⟨b, off + o, none⟩)) w := by
  unfold fieldOf at h
  split at h
  · rename_i fs hfs
    obtain ⟨fd, hfd, he⟩ := Option.map_eq_some_iff.1 h
    cases he
    have hadd : (⟨b, off, none⟩ : Addr).add fd.offset = ⟨b, off + fd.offset, none⟩ := by unfold Addr.add; split <;> simp_all
    simp [Instr.fieldAt, run_underlying hfs, hfd, Instr.sureAddr, fieldPlace, run_sizeOf w hi, hz, hadd]
  · cases h

def fieldA (P : Program) (t : TypeId) (f : Nat) : AV → Option AV
  | .agg cs =>
    match fieldOf P t f with
    | some (o, ft) => takeA P ft cs o
    | none => none
  | _ => none

def asI : AV → Option Int
  | .int _ i => some i
  | _ => none

/-- An index into a slice. -/
def indexAddrA (P : Program) (t : TypeId) (x : AV) (i : AV) : Option AV :=
  match P.underlying t, i with
  | some (.slice e), .int _ i =>
    if (P.info? e).isSome then
      match x with
      | .sl _ es =>
        if 0 ≤ i then
          match es[i.toNat]? with
          | some y => if y.cells.length = P.cellsOf e ∧ P.cellsOf e ≠ 0 then some (.rptr y 0) else none
          | none => none
        else none
      | _ => none
    else none
  | _, _ => none

theorem toNat_lt_of {i : Int} {n : Nat} (h0 : 0 ≤ i) (h : i.toNat < n) : i < (n : Int) := by omega

theorem run_indexAt {P : Program} {t e : TypeId} (w : World) (ht : P.underlying t = some (.slice e)) (hi : (P.info? e).isSome = true) (k : IntKind) (i : Int) (b o n c : Nat)
    (h0 : 0 ≤ i) (h1 : i < (n : Int)) :
    (Instr.indexAt t (.slice (some ⟨b, o, none⟩) n c) (.int k i)).run P w = .ok (.pointer (some ⟨b, o + i.toNat * P.cellsOf e, none⟩)) w := by
  have hadd : (⟨b, o, none⟩ : Addr).add (i.toNat * P.cellsOf e) = ⟨b, o + i.toNat * P.cellsOf e, none⟩ := by unfold Addr.add; split <;> simp_all
  simp [Instr.indexAt, asIntOf, run_underlying ht, h0, h1, run_sizeOf w hi, hadd]

theorem indexAddrA_run {P : Program} {γ : Nat → Gh} {L : List AObj} {w : World} {t : TypeId} {x i z : AV} {u v : Value} (hx : RV γ L x u) (hi : RV γ L i v)
    (h : indexAddrA P t x i = some z) : ∃ r, (Instr.indexAt t u v).run P w = .ok r w ∧ RV γ L z r := by
  unfold indexAddrA at h
  split at h
  case h_2 => cases h
  rename_i _ _ e k i ht
  split at h
  case isFalse => cases h
  rename_i hsz
  cases hi
  split at h
  case h_2 => cases h
  rename_i own es
  split at h
  case isFalse => cases h
  rename_i h0
  split at h
  case h_2 => cases h
  rename_i y hy
  split at h
  case isFalse => cases h
  rename_i hw
  obtain ⟨hw, hnz⟩ := hw
  cases h
  cases hx with
  | sl own es A n c sz vals hn hc hszs h2 h1 h3 =>
    have hlt : i.toNat < es.length := (List.getElem?_eq_some_iff.1 hy).1
    have hse : sz = P.cellsOf e := by rw [← hszs y (List.mem_of_getElem? hy), hw]
    subst hse
    · have hlt2 : 0 < y.cells.length := by omega
      obtain ⟨b, o, rfl⟩ := roCell_addr (h2 i.toNat y 0 y.cells[0] hy (by simp [hlt2]))
      refine ⟨_, run_indexAt w ht hsz k i b o n c h0 (by omega), ?_⟩
      have hcell : ∀ (j : Nat) z, y.cells[j]? = some z → roCell γ (some ⟨b, o + i.toNat * P.cellsOf e, none⟩) j = some (vals i.toNat j) := by
        intro j z hz
        have := h2 i.toNat y j z hy hz
        unfold roCell at this ⊢
        dsimp only at this ⊢
        rw [Nat.add_assoc]
        exact this
      exact .rptr y 0 b (o + i.toNat * P.cellsOf e) (vals i.toNat) hcell (fun j z hz => h1 i.toNat y j z hy hz) (fun j z hz => h3 i.toNat y j z hy hz)

/-- An index into a row of the call's own. -/
def indexRefA (P : Program) (L : List AObj) (t : TypeId) (x : AV) (i : AV) : Option AV :=
  match P.underlying t, i with
  | some (.slice e), .int _ i =>
    if (P.info? e).isSome then
      match x with
      | .ref id p g n =>
        match L[id]? with
        | some (.vec _ _ g' es) =>
          if g = g' ∧ 0 ≤ i ∧ i < n then
            match sub es p with
            | some es' =>
              match es'[i.toNat]? with
              | some y => if y.cells.length = P.cellsOf e then some (.eptr id p g i.toNat 0) else none
              | none => none
            | none => none
          else none
        | _ => none
      | _ => none
    else none
  | _, _ => none

theorem indexRefA_run {P : Program} {γ : Nat → Gh} {L : List AObj} {w : World} {t : TypeId} {x i z : AV} {u v : Value} (hI : Inv γ L w) (hx : RV γ L x u) (hi : RV γ L i v)
    (h : indexRefA P L t x i = some z) : ∃ r, (Instr.indexAt t u v).run P w = .ok r w ∧ RV γ L z r := by
  unfold indexRefA at h
  split at h
  case h_2 => cases h
  rename_i _ _ e k i ht
  split at h
  case isFalse => cases h
  rename_i hsz
  cases hi
  split at h
  case h_2 => cases h
  rename_i id p g n
  split at h
  case h_2 => cases h
  rename_i T sz g' es hL
  split at h
  case isFalse => cases h
  rename_i hg
  obtain ⟨rfl, h0, h1⟩ := hg
  split at h
  case h_2 => cases h
  rename_i es' hs
  split at h
  case h_2 => cases h
  rename_i y hy
  split at h
  case isFalse => cases h
  rename_i hw
  cases h
  cases hx with
  | ref _ _ _ _ _ hok ho =>
    rw [RefOk, hL] at hok
    obtain ⟨es2, hs2, hn, hv⟩ := hok.2 rfl
    rw [hs] at hs2; cases hs2
    rcases hv with ⟨rfl, rfl, _⟩ | ⟨b, c, rfl, hb⟩
    · simp at hy
    · obtain ⟨arr, s, T', harr, _, hasz, _, _, hrow⟩ := hI.rowCell hL hs hb
      have hse : s = P.cellsOf e := by rw [← hrow.1 y (List.mem_of_getElem? hy), hw]
      subst hse
      refine ⟨_, run_indexAt w ht hsz k i b 0 n c h0 h1, .eptr _ _ _ _ _ _ ?_ rfl⟩
      simp only [EptrOk, hL]
      exact ⟨Nat.le_refl _, fun _ => ⟨es', y, b, c, _, hs, hy, hw, hrow.1, by simp, hb⟩⟩

/-- A byte of a string; a part of an array. -/
def indexA (P : Program) (t : TypeId) (x i : AV) : Option AV :=
  match x, i with
  | .str s, .int _ i =>
    match P.underlying t with
    | some .string => if 0 ≤ i then (s[i.toNat]?).map fun b => .int .u8 b.toNat else none
    | _ => none
  | .agg cs, .int _ i =>
    match P.underlying t with
    | some (.array len e) => if 0 ≤ i ∧ i < len ∧ (P.info? e).isSome then takeA P e cs (i.toNat * P.cellsOf e) else none
    | _ => none
  | _, _ => none

theorem indexA_run {P : Program} {γ : Nat → Gh} {L : List AObj} {w : World} {t : TypeId} {x i z : AV} {u v : Value} (hx : RV γ L x u) (hi : RV γ L i v)
    (h : indexA P t x i = some z) : ∃ r, (Instr.index t u v).run P w = .ok r w ∧ RV γ L z r := by
  unfold indexA at h
  split at h
  · rename_i s k i
    cases hx; cases hi
    split at h
    case h_2 => cases h
    rename_i ht
    split at h
    case isFalse => cases h
    rename_i h0
    obtain ⟨b, hb, rfl⟩ := Option.map_eq_some_iff.1 h
    refine ⟨_, ?_, .int _ _⟩
    simp [Instr.index, asIntOf, run_underlying ht, h0, hb]
  · rename_i cs k i
    cases hi
    split at h
    case h_2 => cases h
    rename_i len e ht
    split at h
    case isFalse => cases h
    rename_i h0
    obtain ⟨h0, h1, h2⟩ := h0
    cases hx with
    | agg _ vs hn ho hall =>
      obtain ⟨r, hr, hrv⟩ := run_part (w := w) h hn ho hall
      refine ⟨r, ?_, hrv⟩
      simp [Instr.index, asIntOf, run_underlying ht, h0, h1, run_sizeOf w h2, hr]
  · cases h

def extractA (i : Nat) : AV → Option AV
  | .tup vs => vs[i]?
  | _ => none

theorem extractA_run {P : Program} {γ : Nat → Gh} {L : List AObj} {w : World} {x z : AV} {i : Nat} {u : Value} (hx : RV γ L x u) (h : extractA i x = some z) :
    ∃ r, (Instr.extract u i).run P w = .ok r w ∧ RV γ L z r := by
  unfold extractA at h
  split at h
  · cases hx with
    | tup cs vs hn hall =>
      have hlt : i < vs.size := by have := (List.getElem?_eq_some_iff.1 h).1; omega
      refine ⟨vs[i], by simp [Instr.extract, hlt], ?_⟩
      have := hall i z h
      simpa [Array.getD, hlt] using this
  · cases h

def boundA (n : Nat) : Option AV → Option Int
  | none => some n
  | some (.int _ i) => some i
  | _ => none

/-- A cut of a slice that is only read, of a row of the call's own (from its begin), or of a string. -/
def sliceA (P : Program) (L : List AObj) (t : TypeId) (x : AV) (lo hi : Option AV) : Option AV :=
  match x with
  | .str s =>
    match P.underlying t, boundA 0 lo, boundA s.size hi with
    | some .string, some l, some h => if 0 ≤ l ∧ l ≤ h ∧ h ≤ (s.size : Int) then some (.str (s.extract l.toNat h.toNat)) else none
    | _, _, _ => none
  | .sl _ es =>
    match P.underlying t, boundA 0 lo, boundA es.length hi with
    | some (.slice e), some l, some h =>
      if 0 ≤ l ∧ l ≤ h ∧ h ≤ (es.length : Int) ∧ (P.info? e).isSome ∧ (∀ y ∈ es, y.cells.length = P.cellsOf e) then some (.sl false ((es.take h.toNat).drop l.toNat)) else none
    | _, _, _ => none
  | .ref id p g n =>
    match P.underlying t, lo, boundA n hi with
    | some (.slice e), none, some h => if 0 ≤ h ∧ h ≤ (n : Int) ∧ (P.info? e).isSome ∧ eptrNow L id g then some (.ref id p g h.toNat) else none
    | _, _, _ => none
  | _ => none

theorem boundA_run {P : Program} {γ : Nat → Gh} {L : List AObj} {w : World} {n y : Nat} {code : BoundsCode} {lo : AV} {l : Int} {v : Value} (hv : RV γ L lo v) (h : boundA n (some lo) = some l) (h0 : 0 ≤ l) (h1 : l ≤ (y : Int)) :
    (Instr.sliceBound v y code).run P w = .ok l.toNat w := by
  cases lo <;> simp only [boundA] at h <;> try (cases h; done)
  cases h
  cases hv
  simp [Instr.sliceBound, asIntOf, h0, h1]

/-- The bounds of a cut. -/
theorem run_sliceBounds {P : Program} {γ : Nat → Gh} {L : List AObj} {w : World} {isS : Bool} {len cap : Nat} {lo hi : Option AV} {ulo uhi : Option Value} {l h : Int}
    (hlo : ∀ x, lo = some x → ∃ u, ulo = some u ∧ RV γ L x u) (hlo' : lo = none → ulo = none) (hhi : ∀ x, hi = some x → ∃ u, uhi = some u ∧ RV γ L x u) (hhi' : hi = none → uhi = none)
    (hl : boundA 0 lo = some l) (hh : boundA len hi = some h) (h0 : 0 ≤ l) (h1 : l ≤ h) (h2 : h ≤ (len : Int)) (hc : len ≤ cap) :
    (Instr.sliceBounds isS len cap ulo uhi none).run P w = .ok (l.toNat, h.toNat, cap) w := by
  unfold Instr.sliceBounds
  cases hi with
  | none =>
    rw [hhi' rfl]
    simp only [boundA, Option.some.injEq] at hh
    subst hh
    cases lo with
    | none =>
      rw [hlo' rfl]
      simp only [boundA, Option.some.injEq] at hl
      subst hl
      simp
    | some x =>
      obtain ⟨u, rfl, hu⟩ := hlo x rfl
      have := boundA_run (P := P) (w := w) (y := len) (code := .sliceB) hu hl h0 h1
      simp [this]
  | some y =>
    obtain ⟨u, rfl, hu⟩ := hhi y rfl
    have e1 := boundA_run (P := P) (w := w) (y := cap) (code := if isS then .sliceAcap else .sliceAlen) hu hh (by omega) (by omega)
    cases lo with
    | none =>
      rw [hlo' rfl]
      simp only [boundA, Option.some.injEq] at hl
      subst hl
      simp [e1]
    | some x =>
      obtain ⟨u', rfl, hu'⟩ := hlo x rfl
      have e2 := boundA_run (P := P) (w := w) (y := h.toNat) (code := .sliceB) hu' hl h0 (by omega)
      simp [e1, e2]

theorem sliceA_run {P : Program} {γ : Nat → Gh} {L : List AObj} {w : World} {t : TypeId} {x z : AV} {v : Value} {lo hi : Option AV} {ulo uhi : Option Value} (hI : Inv γ L w)
    (hx : RV γ L x v) (hlo : ∀ x, lo = some x → ∃ u, ulo = some u ∧ RV γ L x u) (hlo' : lo = none → ulo = none) (hhi : ∀ x, hi = some x → ∃ u, uhi = some u ∧ RV γ L x u) (hhi' : hi = none → uhi = none)
    (h : sliceA P L t x lo hi = some z) : ∃ r, (Instr.sliceAt t v ulo uhi none).run P w = .ok r w ∧ RV γ L z r := by
  unfold sliceA at h
  split at h
  · rename_i s
    split at h
    case h_2 => cases h
    rename_i _ _ _ l h' ht hl hh
    split at h
    case isFalse => cases h
    rename_i hb
    cases h
    cases hx
    refine ⟨_, ?_, .str _⟩
    simp [Instr.sliceAt, Instr.slice, run_underlying ht, run_sliceBounds (P := P) (w := w) (isS := false) hlo hlo' hhi hhi' hl hh hb.1 hb.2.1 hb.2.2 (Nat.le_refl _)]
  · rename_i own es
    split at h
    case h_2 => cases h
    rename_i _ _ _ e l h' ht hl hh
    split at h
    case isFalse => cases h
    rename_i hb
    obtain ⟨b0, b1, b2, b3, b4⟩ := hb
    cases h
    cases hx with
    | sl _ _ A n c sz vals hn hc hszs h2 h1 h3 =>
      subst hn
      refine ⟨_, by simp [Instr.sliceAt, Instr.slice, run_underlying ht, run_sliceBounds (P := P) (w := w) (isS := true) hlo hlo' hhi hhi' hl hh b0 b1 b2 hc, run_sizeOf w b3]; rfl, ?_⟩
      have hget : ∀ (i : Nat) y, ((es.take h'.toNat).drop l.toNat)[i]? = some y → es[l.toNat + i]? = some y := by
        intro i y hy
        rw [List.getElem?_drop, List.getElem?_take] at hy
        split at hy
        · exact hy
        · cases hy
      refine .sl false _ _ _ _ sz (fun i j => vals (l.toNat + i) j) ?_ ?_ ?_ ?_ ?_ ?_
      · simp [List.length_drop, List.length_take]; omega
      · omega
      · intro y hy
        exact hszs y (List.mem_of_mem_take (List.mem_of_mem_drop hy))
      · intro i y j z hy hz
        have hy' := hget i y hy
        have hr := h2 (l.toNat + i) y j z hy' hz
        have hse : sz = P.cellsOf e := by rw [← hszs y (List.mem_of_getElem? hy'), b4 y (List.mem_of_getElem? hy')]
        obtain ⟨b, o, rfl⟩ := roCell_addr hr
        have hlt := (List.getElem?_eq_some_iff.1 hy').1
        have hne : ¬ (c = l.toNat) := by omega
        have hadd : (⟨b, o, none⟩ : Addr).add (l.toNat * P.cellsOf e) = ⟨b, o + l.toNat * P.cellsOf e, none⟩ := by unfold Addr.add; split <;> simp_all
        simp only [hne, if_false, Option.map_some, hadd]
        unfold roCell at hr ⊢
        dsimp only at hr ⊢
        have e1 : o + l.toNat * P.cellsOf e + (i * sz + j) = o + ((l.toNat + i) * sz + j) := by rw [hse, Nat.add_mul]; omega
        rw [e1]; exact hr
      · intro i y j z hy hz; exact h1 _ y j z (hget i y hy) hz
      · intro i y j z hy hz; exact h3 _ y j z (hget i y hy) hz
  · rename_i id p g n
    split at h
    case h_2 => cases h
    rename_i _ _ _ e h' ht hh
    split at h
    case isFalse => cases h
    rename_i hb
    obtain ⟨b0, b1, b2, b3⟩ := hb
    cases h
    cases hx with
    | ref _ _ _ _ _ hok ho =>
      unfold eptrNow at b3
      split at b3
      case h_2 => cases b3
      rename_i T sz g' es hL
      have hg : g = g' := by simpa using b3
      subst hg
      rw [RefOk, hL] at hok
      obtain ⟨es2, hs2, hn, hv⟩ := hok.2 rfl
      have hok' : ∀ r, ((r = .slice none 0 0 ∧ es2 = [] ∧ ∀ b c, γ b ≠ .ow id p c) ∨ ∃ b c, r = .slice (some ⟨b, 0, none⟩) h'.toNat c ∧ γ b = .ow id p c) → RV γ L (.ref id p g h'.toNat) r := by
        intro r hr
        refine .ref _ _ _ _ _ ?_ ?_
        · rw [RefOk, hL]
          exact ⟨Nat.le_refl _, fun _ => ⟨es2, hs2, by omega, hr⟩⟩
        · rcases hr with ⟨rfl, _⟩ | ⟨b, c, rfl, _⟩
          · rfl
          · rfl
      rcases hv with ⟨rfl, rfl, hb⟩ | ⟨b, c, rfl, hb⟩
      · have hn0 : n = 0 := by simpa using hn
        subst hn0
        have hh0 : h' = 0 := by omega
        subst hh0
        have hbd := run_sliceBounds (P := P) (γ := γ) (L := L) (w := w) (isS := true) (len := 0) (cap := 0) (lo := none) (hi := hi) (ulo := ulo) (uhi := uhi) hlo hlo' hhi hhi' (l := 0) (h := 0) rfl hh (by omega) (by omega) (by omega) (Nat.le_refl _)
        exact ⟨_, by simp [Instr.sliceAt, Instr.slice, run_underlying ht, hbd, run_sizeOf w b2], hok' _ (.inl ⟨rfl, rfl, hb⟩)⟩
      · obtain ⟨arr, s, T', harr, _, hasz, hlc, _, hrow⟩ := hI.rowCell hL hs2 hb
        have hbd := run_sliceBounds (P := P) (γ := γ) (L := L) (w := w) (isS := true) (len := n) (cap := c) (lo := none) (hi := hi) (ulo := ulo) (uhi := uhi) hlo hlo' hhi hhi' (l := 0) (h := h') rfl hh (by omega) (by omega) (by omega) (by omega)
        have hif : (if c = 0 then (some ⟨b, 0, none⟩ : Option Addr) else (some ⟨b, 0, none⟩ : Option Addr).map (·.add (0 * P.cellsOf e))) = some ⟨b, 0, none⟩ := by
          split <;> simp [Addr.add]
        refine ⟨.slice (some ⟨b, 0, none⟩) h'.toNat c, ?_, hok' _ (.inr ⟨b, c, rfl, hb⟩)⟩
        simp [Instr.sliceAt, Instr.slice, run_underlying ht, hbd, run_sizeOf w b2, Addr.add]
  · cases h

end Go.Proofs.Ytolfjeedgedblaa.K
