/-
  A logic of values for Go's functions (part 12): regions that leave their order open; all code without loops at once; loops by a relation.
-/
import Derived.Test.YtolfjeedgedblaaK11
namespace Go.Proofs.Ytolfjeedgedblaa.K
set_option linter.unusedVariables false
set_option linter.unusedSimpArgs false
open Go Go.RowKit

/-! ### any order that the region's edges allow -/
def agrB (ops : Array Oper) (k : Oper → Knd) (x y : Oper) : Bool :=
  x.apart ops y && !((k x).mod && !(k y == .A || (k x == .W && k y == .B))) && !((k y).mod && !(k x == .A || (k x == .B && (isAlloc k y || k y == .W))))

def maskOf (M : Array Nat) (l : List Edge) (s : Nat) : Nat := l.foldl (fun s e => if Region.binds .any e then s ||| 2 ^ e.on ||| M.getD e.on 0 else s) s

/-- Each two, the first ahead of the second: bound by the edges, or free to change places. -/
def okPairs (k : Oper → Knd) (ops : Array Oper) (M : Array Nat) : List Nat → Bool
  | [] => true
  | j :: rest => (rest.all fun i => (M.getD i 0).testBit j || (match ops[j]?, ops[i]? with | some p, some o => agrB ops k p o | _, _ => false)) && okPairs k ops M rest

def okNodup : List Nat → Bool
  | [] => true
  | j :: rest => !rest.contains j && okNodup rest
theorem okNodup_spec : ∀ {l : List Nat}, okNodup l = true → l.Nodup
  | [], _ => List.nodup_nil
  | j :: rest, h => by
    simp only [okNodup, Bool.and_eq_true, Bool.not_eq_true'] at h
    exact List.nodup_cons.2 ⟨by simpa using h.1, okNodup_spec h.2⟩
/-- Whatever order the edges allow comes to the same as the order 'perm': a check of the region's text. -/
def okBase (ops : Array Oper) (perm : List Nat) : Bool :=
  let M := Region.before ops
  ((List.range ops.size).all fun i =>
    match ops[i]? with
    | some o => o.after.toList.all (fun e => !Region.binds .any e || e.on < i) && (M.getD i 0 == maskOf M o.after.toList 0)
    | none => false) &&
  ((List.range ops.size).all fun i => perm.contains i) && (perm.length == ops.size && perm.all (fun i => decide (i < ops.size)) && okNodup perm)
def okPerm (k : Oper → Knd) (ops : Array Oper) (perm : List Nat) : Bool := okBase ops perm && okPairs k ops (Region.before ops) perm
def okDraw (k : Oper → Knd) (ops : Array Oper) : Bool := okPerm k ops (List.range ops.size)

/-- The same as 'RunL', by the operations' numbers. -/
inductive RunI (P : Program) (k : Oper → Knd) (ops : Array Oper) : List Nat → St → (St → Prop) → Prop where
  | nil {s : St} {K : St → Prop} (h : K s) : RunI P k ops [] s K
  | op {i : Nat} {o : Oper} {rest : List Nat} {s : St} {K : St → Prop} (d : Sd) (ho : ops[i]? = some o) (hk : d.kind.le (k o) = true) (h : Valid P k ops o d s) (hr : RunI P k ops rest (d.app o s) K) : RunI P k ops (i :: rest) s K
  | off {i : Nat} {o : Oper} {rest : List Nat} {s : St} {K : St → Prop} (ho : ops[i]? = some o) (hg : guardA ops s o = some false) (hr : RunI P k ops rest (s.put o.dst (.tup [])) K) : RunI P k ops (i :: rest) s K

theorem RunI.of_perm {P : Program} {k : Oper → Knd} {ops : Array Oper} {K : St → Prop} : ∀ (perm : List Nat) (s : St), (∀ i ∈ perm, i < ops.size) → RunL P k ops (perm.filterMap fun i => ops[i]?) s K → RunI P k ops perm s K
  | [], s, _, h => by cases h with | nil h => exact .nil h
  | i :: rest, s, hlt, h => by
    have hil := hlt i (by simp)
    have hi : ops[i]? = some ops[i] := Array.getElem?_eq_getElem hil
    simp only [List.filterMap_cons, hi] at h
    cases h with
    | op d hk h hr => exact .op d hi hk h (RunI.of_perm rest _ (fun j hj => hlt j (by simp [hj])) hr)
    | off hg hr => exact .off hi hg (RunI.of_perm rest _ (fun j hj => hlt j (by simp [hj])) hr)

theorem RunI.of_list {P : Program} {k : Oper → Knd} {ops : Array Oper} {K : St → Prop} : ∀ (rest pre : List Oper) (s : St), ops.toList = pre ++ rest → RunL P k ops rest s K → RunI P k ops (List.range' pre.length rest.length) s K
  | [], pre, s, hl, h => by cases h with | nil h => exact .nil h
  | o :: rest, pre, s, hl, h => by
    have hi : ops[pre.length]? = some o := by
      rw [← Array.getElem?_toList, hl, List.getElem?_append_right (Nat.le_refl _)]; simp
    have hl' : ops.toList = (pre ++ [o]) ++ rest := by rw [hl]; simp
    simp only [List.length_cons, List.range'_succ]
    cases h with
    | op d hk h hr =>
      have := RunI.of_list rest (pre ++ [o]) _ hl' hr
      exact .op d hi hk h (by simpa using this)
    | off hg hr =>
      have := RunI.of_list rest (pre ++ [o]) _ hl' hr
      exact .off hi hg (by simpa using this)

theorem Sd.app_t {d : Sd} {o : Oper} {s : St} {t : Tmp} (h : ∀ e, o.dst = some e → e ≠ t) : (d.app o s).t[t]? = s.t[t]? := by
  have hp : ∀ (s : St) x, (s.put o.dst x).t[t]? = s.t[t]? := by
    intro s x
    cases hd : o.dst with
    | none => rfl
    | some e => simp only [St.put]; rw [List.getElem?_set_ne (h e hd)]
  unfold Sd.app
  split
  · rw [hp]
  · rw [hp]
  · exact hp _ _

theorem Sd.app_L {d : Sd} {o : Oper} {s : St} (h : d.kind.mod = false) : (d.app o s).L = s.L := by
  unfold Sd.app
  split
  · rename_i hk; rw [hk] at h; cases h
  · rename_i hk; rw [hk] at h; cases h
  · exact St.put_L _ _ _
theorem Sd.app_L' {d : Sd} {o : Oper} {s : St} (h : d.kind.mod = true) : (d.app o s).L = d.L' := by
  unfold Sd.app
  split
  · exact St.put_L _ _ _
  · exact St.put_L _ _ _
  · rename_i h1 h2
    cases hk : d.kind <;> simp_all [Knd.mod]

theorem Valid.of {P : Program} {k : Oper → Knd} {ops : Array Oper} {o : Oper} {d : Sd} {s s1 : St} (h : Valid P k ops o d s) (ha : agree (o.looksAt ops) s s1) (hL : Lok k d.kind s.L s1.L) : Valid P k ops o d s1 :=
  ⟨⟨fun h1 h2 => by
    have := h.1.1 h1 h2
    rw [h2] at hL
    rw [show s1.L = s.L from hL]; exact this,
   fun h2 => by
    have := h.1.2 h2
    rw [h2] at hL
    rw [show s1.L = s.L from hL]; exact this⟩,
   fun s2 ha2 hL2 => h.2 s2 (fun t ht => (ha2 t ht).trans (ha t ht)) (hL.trans hL2)⟩

theorem put_comm (s : St) {x y : Option Tmp} (v u : AV) (h : ∀ d, x = some d → y ≠ some d) : (s.put x v).put y u = (s.put y u).put x v := by
  cases x with
  | none => rfl
  | some d =>
    cases y with
    | none => rfl
    | some e =>
      have hne : d ≠ e := fun he => h d rfl (he ▸ rfl)
      simp only [St.put]
      rw [List.set_comm _ _ hne]

theorem app_comm {d e : Sd} {o p : Oper} (s : St) (h : ∀ t, o.dst = some t → p.dst ≠ some t) (hk : d.kind.mod = false ∨ e.kind.mod = false) : e.app p (d.app o s) = d.app o (e.app p s) := by
  obtain ⟨dk, dx, dL⟩ := d
  obtain ⟨ek, ex, eL⟩ := e
  unfold Sd.app
  cases ho : o.dst with
  | none => cases dk <;> cases ek <;> cases p.dst <;> first | rfl | (simp [Knd.mod] at hk)
  | some a =>
    cases hp : p.dst with
    | none => cases dk <;> cases ek <;> first | rfl | (simp [Knd.mod] at hk)
    | some b =>
      have hne : a ≠ b := fun he => h a ho (by rw [hp, he])
      cases dk <;> cases ek <;> first | (simp [Knd.mod] at hk; done) | (simp only [St.put]; rw [List.set_comm _ _ hne])

theorem le_facts {a b : Knd} (h : a.le b = true) : (a.mod = true → b.mod = true) ∧ (a ≠ .A → b ≠ .A) ∧ (a = .B → b ≠ .W) ∧ (a = .W → b ≠ .B) ∧ (a = .C → b = .C) ∧ (b = .W → a = .A ∨ a = .W) ∧ (b = .B → a = .A ∨ a = .B) := by
  cases a <;> cases b <;> simp [Knd.le, Knd.mod] at h ⊢

theorem sameAt_set {k : Oper → Knd} {L : List AObj} {id i : Nat} {o' : AObj} (hw : isW k id = true ∨ (rowsW k = true ∧ isRow L[id]? ∧ isRow (some o'))) (hi : isW k i = false) : SameAt k (L.set id o') L i ∧ SameAt k L (L.set id o') i := by
  by_cases e : id = i
  · subst e
    rcases hw with hw | ⟨h1, h2, h3⟩
    · rw [hw] at hi; cases hi
    · have hlt : id < L.length := by obtain ⟨_, _, _, _, h⟩ := h2; exact (List.getElem?_eq_some_iff.1 h).1
      have h4 : isRow (L.set id o')[id]? := by rw [List.getElem?_set_self hlt]; exact h3
      exact ⟨.inr ⟨h1, h4, h2⟩, .inr ⟨h1, h2, h4⟩⟩
  · exact ⟨.inl (List.getElem?_set_ne e).symm, .inl (List.getElem?_set_ne e)⟩

/-- An operation that hangs on none of those ahead of it may come first. -/
theorem RunI.front {P : Program} {k : Oper → Knd} {ops : Array Oper} {K : St → Prop} {i : Nat} {o : Oper} {post : List Nat} (ho : ops[i]? = some o) : ∀ (pre : List Nat) (s : St),
    (∀ j ∈ pre, ∃ p, ops[j]? = some p ∧ agrB ops k p o = true) → RunI P k ops (pre ++ i :: post) s K →
    (∃ d, d.kind.le (k o) = true ∧ Valid P k ops o d s ∧ RunI P k ops (pre ++ post) (d.app o s) K) ∨ (guardA ops s o = some false ∧ RunI P k ops (pre ++ post) (s.put o.dst (.tup [])) K)
  | [], s, _, h => by
    cases h with
    | op d ho' hk h hr => rw [ho] at ho'; cases ho'; exact .inl ⟨d, hk, h, hr⟩
    | off ho' hg hr => rw [ho] at ho'; cases ho'; exact .inr ⟨hg, hr⟩
  | j :: pre, s, hall, h => by
    obtain ⟨p, hp, hag⟩ := hall j (by simp)
    simp only [agrB, Bool.and_eq_true] at hag
    obtain ⟨⟨hap, hk1⟩, hk2⟩ := hag
    have hk1 : (k p).mod = true → k o = .A ∨ (k p = .W ∧ k o = .B) := by
      intro hm
      cases hp1 : k p <;> cases ho1 : k o <;> simp_all [Knd.mod]
    have hk2 : (k o).mod = true → k p = .A ∨ (k p = .B ∧ (isAlloc k o = true ∨ k o = .W)) := by
      intro hm
      cases hp1 : k p <;> cases ho1 : k o <;> simp_all [Knd.mod]
    obtain ⟨a1, a2, a3⟩ := Oper.apart_spec hap
    have hdd : ∀ t, o.dst = some t → p.dst ≠ some t := fun t h1 h2 => a2 t h2 h1
    have reads_o : ∀ (s : St) (q : Sd), agree (o.looksAt ops) s (q.app p s) := fun s q t ht => Sd.app_t fun e he hte => a1 e he (hte ▸ ht)
    have reads_p : ∀ (s : St) (q : Sd), agree (p.looksAt ops) s (q.app o s) := fun s q t ht => Sd.app_t fun e he hte => a3 e he (hte ▸ ht)
    have junk_eq : ∀ (o : Oper) (s : St), s.put o.dst (.tup []) = (⟨.A, .tup [], []⟩ : Sd).app o s := fun _ _ => rfl
    have ih := fun (s : St) (hs : RunI P k ops (pre ++ i :: post) s K) => RunI.front (post := post) ho pre s (fun j' hj' => hall j' (by simp [hj'])) hs
    -- the step 'j' told as one
    have main : ∀ (q : Sd), ((q.kind = .A ∨ q.kind.le (k p) = true)) → (q.kind = .W → ∃ id o', (isW k id = true ∨ (rowsW k = true ∧ isRow s.L[id]? ∧ isRow (some o'))) ∧ q.L' = s.L.set id o') → (∀ s1, agree (p.looksAt ops) s s1 → Lok k q.kind s.L s1.L → ∀ {rest : List Nat}, RunI P k ops rest (q.app p s1) K → RunI P k ops (j :: rest) s1 K) →
        RunI P k ops (pre ++ i :: post) (q.app p s) K →
        (∃ d, d.kind.le (k o) = true ∧ Valid P k ops o d s ∧ RunI P k ops (j :: pre ++ post) (d.app o s) K) ∨ (guardA ops s o = some false ∧ RunI P k ops (j :: pre ++ post) (s.put o.dst (.tup [])) K) := by
      intro q hq hwq hstep hrest
      have hqm : q.kind.mod = true → (k p).mod = true := by
        intro e; rcases hq with hq | hq
        · rw [hq] at e; cases e
        · exact (le_facts hq).1 e
      have hqA : q.kind ≠ .A → k p ≠ .A := by
        intro e; rcases hq with hq | hq
        · exact absurd hq e
        · exact (le_facts hq).2.1 e
      have hqB : k p = .B → q.kind = .A ∨ q.kind = .B := by
        intro e; rcases hq with hq | hq
        · exact .inl hq
        · exact (le_facts hq).2.2.2.2.2.2 e
      have hqW : k p = .W → q.kind = .A ∨ q.kind = .W := by
        intro e; rcases hq with hq | hq
        · exact .inl hq
        · exact (le_facts hq).2.2.2.2.2.1 e
      have hqv := hwq
      rcases ih _ hrest with ⟨d, hdk, hv, hr⟩ | ⟨hg, hr⟩
      · have hdf := le_facts hdk
        -- what the earlier step leaves, as the later one sees it
        have hLd : Lok k d.kind (q.app p s).L s.L := by
          cases hqk : q.kind.mod with
          | false => exact .of fun _ => (Sd.app_L hqk).symm
          | true =>
            rcases hk1 (hqm hqk) with h1 | ⟨h1, h2⟩
            · have : d.kind = .A := by
                rcases hd : d.kind with _ | _ | _ | _
                · rfl
                all_goals exact absurd h1 (hdf.2.1 (by rw [hd]; simp))
              rw [this]; trivial
            · rcases hdf.2.2.2.2.2.2 h2 with h3 | h3
              · rw [h3]; trivial
              · rw [h3]
                rcases hqW h1 with h4 | h4
                · rw [h4] at hqk; cases hqk
                · obtain ⟨id, o', hw, he⟩ := hqv h4
                  rw [Sd.app_L' hqk, he]
                  refine ⟨s.L, [], by simp, by simp, fun i hi => ?_⟩
                  exact (sameAt_set hw hi).1
        have hvs : Valid P k ops o d s := hv.of (fun t ht => (reads_o s q t ht).symm) hLd
        refine .inl ⟨d, hdk, hvs, ?_⟩
        refine hstep _ (reads_p s d) ?_ ?_
        · cases hdm : d.kind.mod with
          | false => exact .of fun _ => Sd.app_L hdm
          | true =>
            rcases hk2 (hdf.1 hdm) with h1 | ⟨h1, h2⟩
            · have : q.kind = .A := by
                rcases hq3 : q.kind with _ | _ | _ | _
                · rfl
                all_goals exact absurd h1 (hqA (by rw [hq3]; simp))
              rw [this]; trivial
            · rcases hqB h1 with h3 | h3
              · rw [h3]; trivial
              · rw [h3, Sd.app_L' hdm]
                rcases hd : d.kind with _ | _ | _ | _
                · rw [hd] at hdm; cases hdm
                · rw [hd] at hdm; cases hdm
                · rcases h2 with h2 | h2
                  · obtain ⟨X, hX⟩ := hvs.1.1 h2 hd
                    exact ⟨s.L, X, hX, rfl, fun _ _ => .inl rfl⟩
                  · exact absurd h2 (by have := hdf.2.2.2.2.1 hd; rw [this]; simp)
                · obtain ⟨id, o', hw, he⟩ := hvs.1.2 hd
                  refine ⟨s.L.set id o', [], by rw [he]; simp, by simp, fun i hi => ?_⟩
                  exact (sameAt_set hw hi).2
        · rw [app_comm s hdd ?_]
          · exact hr
          · cases hdm : d.kind.mod with
            | false => exact .inl rfl
            | true =>
              right
              cases hqm2 : q.kind.mod with
              | false => rfl
              | true =>
                exfalso
                rcases hk1 (hqm hqm2) with h1 | ⟨h1, h2⟩
                · have := hdf.1 hdm; rw [h1] at this; cases this
                · have := hdf.1 hdm; rw [h2] at this; cases this
      · refine .inr ⟨?_, ?_⟩
        · rw [← agree_guard (reads_o s q)]; exact hg
        · rw [junk_eq]
          refine hstep _ (reads_p s _) (.of fun _ => Sd.app_L rfl) ?_
          rw [app_comm s hdd (.inl rfl)]
          exact hr
    cases h with
    | op q hp' hk hv hr =>
      rw [hp] at hp'; cases hp'
      exact main q (.inr hk) hv.1.2 (fun s1 ha hL rest hr => .op q hp hk (hv.of ha hL) hr) hr
    | off hp' hg hr =>
      rw [hp] at hp'; cases hp'
      exact main ⟨.A, .tup [], []⟩ (.inl rfl) (fun h => by cases h) (fun s1 ha hL rest hr => .off hp (by rw [agree_guard ha]; exact hg) hr) hr

/-! ### the operations' dependences -/
theorem maskOf_spec {M : Array Nat} {j : Nat} : ∀ (l : List Edge) (s : Nat), (maskOf M l s).testBit j = true → s.testBit j = true ∨ ∃ e ∈ l, Region.binds .any e = true ∧ (e.on = j ∨ (M.getD e.on 0).testBit j = true)
  | [], s, h => .inl h
  | e :: l, s, h => by
    have h' : (maskOf M l (if Region.binds .any e then s ||| 2 ^ e.on ||| M.getD e.on 0 else s)).testBit j = true := h
    rcases maskOf_spec l _ h' with h1 | ⟨e', he', hb, h2⟩
    · split at h1
      · rename_i hb
        simp only [Nat.testBit_or, Bool.or_eq_true, Nat.testBit_two_pow, decide_eq_true_eq] at h1
        rcases h1 with (h1 | h1) | h1
        · exact .inl h1
        · exact .inr ⟨e, by simp, hb, .inl h1⟩
        · exact .inr ⟨e, by simp, hb, .inr h1⟩
      · exact .inl h1
    · exact .inr ⟨e', by simp [he'], hb, h2⟩

def PairOk (k : Oper → Knd) (ops : Array Oper) (M : Array Nat) (j i : Nat) : Prop := (M.getD i 0).testBit j = true ∨ ∃ p o, ops[j]? = some p ∧ ops[i]? = some o ∧ agrB ops k p o = true

structure DrawOk (k : Oper → Knd) (ops : Array Oper) (M : Array Nat) (perm : List Nat) : Prop where
  lt : ∀ (i : Nat) o e, ops[i]? = some o → e ∈ o.after.toList → Region.binds .any e = true → e.on < i
  mask : ∀ (i : Nat) o, ops[i]? = some o → M.getD i 0 = maskOf M o.after.toList 0
  all : ∀ i, i < ops.size → i ∈ perm
  size : perm.length = ops.size
  bound : ∀ i ∈ perm, i < ops.size
  nodup : perm.Nodup

theorem okPairs_spec {k : Oper → Knd} {ops : Array Oper} {M : Array Nat} : ∀ {l : List Nat}, okPairs k ops M l = true → l.Pairwise (PairOk k ops M)
  | [], _ => .nil
  | j :: rest, h => by
    simp only [okPairs, Bool.and_eq_true] at h
    refine List.pairwise_cons.2 ⟨fun i hi => ?_, okPairs_spec h.2⟩
    have := List.all_eq_true.1 h.1 i hi
    simp only [Bool.or_eq_true] at this
    rcases this with h1 | h1
    · exact .inl h1
    · split at h1
      · rename_i p o hp ho; exact .inr ⟨p, o, hp, ho, h1⟩
      · cases h1

theorem okBase_spec {k : Oper → Knd} {ops : Array Oper} {perm : List Nat} (h : okBase ops perm = true) : DrawOk k ops (Region.before ops) perm := by
  simp only [okBase, Bool.and_eq_true] at h
  obtain ⟨⟨h1, h2⟩, ⟨h3, h5⟩, h6⟩ := h
  have h' : ∀ (i : Nat) o, ops[i]? = some o → (o.after.toList.all (fun e => !Region.binds .any e || e.on < i) && ((Region.before ops).getD i 0 == maskOf (Region.before ops) o.after.toList 0)) = true := by
    intro i o ho
    have hi := (Array.getElem?_eq_some_iff.1 ho).1
    have := List.all_eq_true.1 h1 i (List.mem_range.2 hi)
    simpa only [ho] using this
  refine ⟨fun i o e ho he hb => ?_, fun i o ho => ?_, fun i hi => ?_, by simpa using h3, fun i hi => by simpa using List.all_eq_true.1 h5 i hi, okNodup_spec h6⟩
  · have := h' i o ho
    simp only [Bool.and_eq_true] at this
    have := List.all_eq_true.1 this.1 e he
    simpa [hb] using this
  · have := h' i o ho
    simp only [Bool.and_eq_true, beq_iff_eq] at this
    exact this.2
  · have := List.all_eq_true.1 h2 i (List.mem_range.2 hi)
    simpa using this

theorem okPerm_spec {k : Oper → Knd} {ops : Array Oper} {perm : List Nat} (h : okPerm k ops perm = true) : DrawOk k ops (Region.before ops) perm ∧ perm.Pairwise (PairOk k ops (Region.before ops)) := by
  simp only [okPerm, Bool.and_eq_true] at h
  exact ⟨okBase_spec h.1, okPairs_spec h.2⟩

def listedClosed (ops : Array Oper) (listed : Array Bool) : Prop :=
  ∀ (i : Nat) o e, ops[i]? = some o → listed.getD i false = true → e ∈ o.after.toList → Region.binds .any e = true → listed.getD e.on false = true

theorem mask_listed {k : Oper → Knd} {ops : Array Oper} {M : Array Nat} {perm : List Nat} (D : DrawOk k ops M perm) {listed : Array Bool} (hc : listedClosed ops listed) :
    ∀ (i : Nat) o, ops[i]? = some o → (∀ e ∈ o.after.toList, Region.binds .any e = true → listed.getD e.on false = true) → ∀ j, (M.getD i 0).testBit j = true → listed.getD j false = true := by
  intro i
  induction i using Nat.strongRecOn with
  | _ i ih =>
    intro o ho hpre j hj
    rw [D.mask i o ho] at hj
    rcases maskOf_spec _ _ hj with h0 | ⟨e, he, hb, h1⟩
    · simp at h0
    · rcases h1 with rfl | h1
      · exact hpre e he hb
      · have hlt := D.lt i o e ho he hb
        have hil := (Array.getElem?_eq_some_iff.1 ho).1
        have hoe : ops[e.on]? = some ops[e.on] := Array.getElem?_eq_getElem (by omega)
        exact ih e.on hlt _ hoe (fun e' he' hb' => hc _ _ _ hoe (hpre e he hb) he' hb') j h1

theorem ready_iff {ops : Array Oper} {listed : Array Bool} {i : Nat} : i ∈ Region.ready .any ops listed ↔
    ∃ o, ops[i]? = some o ∧ listed.getD i true = false ∧ ∀ e ∈ o.after.toList, Region.binds .any e = true → listed.getD e.on false = true := by
  unfold Region.ready
  simp only [List.mem_filter, List.mem_range, Bool.and_eq_true, Bool.not_eq_true']
  constructor
  · rintro ⟨hi, hl, h⟩
    have ho : ops[i]? = some ops[i] := Array.getElem?_eq_getElem hi
    refine ⟨ops[i], ho, hl, fun e he hb => ?_⟩
    simp only [ho, Option.map_some, Option.getD_some, Array.all_eq_true_iff_forall_mem] at h
    have := h e (by simpa using he)
    simpa [hb] using this
  · rintro ⟨o, ho, hl, h⟩
    refine ⟨(Array.getElem?_eq_some_iff.1 ho).1, hl, ?_⟩
    simp only [ho, Option.map_some, Option.getD_some, Array.all_eq_true_iff_forall_mem]
    intro e he
    cases hb : Region.binds .any e with
    | false => rfl
    | true => simpa [hb] using h e (by simpa using he) hb

def left_ (perm : List Nat) (listed : Array Bool) : List Nat := perm.filter fun i => !listed.getD i true

theorem least_of {l : List Nat} (h : l ≠ []) : ∃ i ∈ l, ∀ j ∈ l, i ≤ j := by
  induction l with
  | nil => exact absurd rfl h
  | cons a l ih =>
    by_cases hl : l = []
    · subst hl; exact ⟨a, by simp, fun j hj => by simp at hj; omega⟩
    · obtain ⟨i, hi, hmin⟩ := ih hl
      by_cases hai : a ≤ i
      · exact ⟨a, by simp, fun j hj => by rcases List.mem_cons.1 hj with rfl | hj; omega; have := hmin j hj; omega⟩
      · exact ⟨i, by simp [hi], fun j hj => by rcases List.mem_cons.1 hj with rfl | hj; omega; exact hmin j hj⟩

section
variable {k : Oper → Knd} {ops : Array Oper} {M : Array Nat} {perm : List Nat}
theorem DrawOk.memL (D : DrawOk k ops M perm) {listed : Array Bool} {i : Nat} : i ∈ left_ perm listed ↔ i < ops.size ∧ listed.getD i true = false := by
  simp only [left_, List.mem_filter, Bool.not_eq_true']
  exact ⟨fun h => ⟨D.bound i h.1, h.2⟩, fun h => ⟨D.all i h.1, h.2⟩⟩
theorem DrawOk.noReady (D : DrawOk k ops M perm) (listed : Array Bool) (hsz : listed.size = ops.size) (hr : Region.ready .any ops listed = []) : left_ perm listed = [] := by
  refine Decidable.byContradiction fun hne => ?_
  obtain ⟨i, hi, hmin⟩ := least_of hne
  have hi' := D.memL.1 hi
  have hoi : ops[i]? = some ops[i] := Array.getElem?_eq_getElem hi'.1
  have : i ∈ Region.ready .any ops listed := by
    refine ready_iff.2 ⟨_, hoi, hi'.2, fun e he hb => ?_⟩
    have hlt := D.lt i _ e hoi he hb
    have hnot : e.on ∉ left_ perm listed := fun hm => by have := hmin _ hm; omega
    rw [D.memL] at hnot
    have hlt2 : e.on < listed.size := by omega
    have := fun h => hnot ⟨by omega, h⟩
    simp only [Array.getD, hlt2, dif_pos] at this ⊢
    simpa using this
  rw [hr] at this
  cases this
theorem DrawOk.take (D : DrawOk k ops M perm) {listed : Array Bool} (hsz : listed.size = ops.size) {i : Nat} (him : i ∈ left_ perm listed) :
    ∃ pre post, left_ perm listed = pre ++ i :: post ∧ left_ perm (listed.setIfInBounds i true) = pre ++ post ∧ i ∉ pre ∧ i ∉ post := by
  obtain ⟨pre, post, hsplit⟩ := List.append_of_mem him
  have hndl : (left_ perm listed).Nodup := D.nodup.filter _
  rw [hsplit] at hndl
  have hnp : i ∉ pre := fun h => by
    rw [List.nodup_append] at hndl
    exact hndl.2.2 i h i (by simp) rfl
  have hnq : i ∉ post := fun h => by
    rw [List.nodup_append] at hndl
    exact (List.nodup_cons.1 hndl.2.1).1 h
  refine ⟨pre, post, hsplit, ?_, hnp, hnq⟩
  have e1 : left_ perm (listed.setIfInBounds i true) = (left_ perm listed).filter (fun j => j != i) := by
    unfold left_
    rw [List.filter_filter]
    apply List.filter_congr
    intro j hj
    have hj' : j < listed.size := by rw [hsz]; exact D.bound j hj
    by_cases hji : j = i
    · subst hji; simp [Array.getD, hj']
    · simp [Array.getD, hj', hji, Array.getElem_setIfInBounds, Ne.symm hji]
  rw [e1, hsplit, List.filter_append, List.filter_cons]
  simp only [bne_self_eq_false, Bool.false_eq_true, if_false]
  rw [List.filter_eq_self.2, List.filter_eq_self.2]
  · intro j hj; simp; rintro rfl; exact hnq hj
  · intro j hj; simp; rintro rfl; exact hnp hj
theorem closed_take {listed : Array Bool} (hsz : listed.size = ops.size) (hc : listedClosed ops listed) {i : Nat} {o : Oper} (ho : ops[i]? = some o)
    (hpre : ∀ e ∈ o.after.toList, Region.binds .any e = true → listed.getD e.on false = true) : listedClosed ops (listed.setIfInBounds i true) := by
  have hlt := (Array.getElem?_eq_some_iff.1 ho).1
  intro j p e hp hj he hb
  have keep : ∀ m, listed.getD m false = true → (listed.setIfInBounds i true).getD m false = true := by
    intro m hm
    by_cases hmi : m = i
    · subst hmi
      have : m < listed.size := by omega
      simp [Array.getD, this]
    · have hms : m < listed.size := by
        rcases Nat.lt_or_ge m listed.size with h | h
        · exact h
        · simp [Array.getD, Nat.not_lt.2 h] at hm
      simp only [Array.getD, hms, dif_pos] at hm
      simp [Array.getD, hms, Array.getElem_setIfInBounds, Ne.symm hmi]
      simpa using hm
  refine keep _ ?_
  by_cases hji : j = i
  · subst hji
    rw [ho] at hp; cases hp
    exact hpre e he hb
  · have hjs : j < listed.size := by rw [hsz]; exact (Array.getElem?_eq_some_iff.1 hp).1
    refine hc j p e hp ?_ he hb
    simp [Array.getD, hjs, Array.getElem_setIfInBounds, Ne.symm hji] at hj
    simp [Array.getD, hjs, hj]
theorem DrawOk.agr (D : DrawOk k ops M perm) {listed : Array Bool} (hsz : listed.size = ops.size) (hc : listedClosed ops listed) {i : Nat} {o : Oper} (ho : ops[i]? = some o)
    (hpre : ∀ e ∈ o.after.toList, Region.binds .any e = true → listed.getD e.on false = true) {pre post : List Nat} (hsplit : left_ perm listed = pre ++ i :: post)
    (hpw : ∀ j ∈ pre, PairOk k ops M j i) : ∀ j ∈ pre, ∃ p, ops[j]? = some p ∧ agrB ops k p o = true := by
  intro j hj
  rcases hpw j hj with h1 | ⟨p, o', h1, h2, h3⟩
  · exfalso
    have := mask_listed D hc i o ho hpre j h1
    have hjm : j ∈ left_ perm listed := by rw [hsplit]; simp [hj]
    have h2 := (D.memL.1 hjm)
    have hjs : j < listed.size := by omega
    have h2 := h2.2
    simp only [Array.getD, hjs, dif_pos] at this h2
    rw [this] at h2; cases h2
  · rw [ho] at h2; cases h2
    exact ⟨p, h1, h3⟩
end

theorem any_of_run {P : Program} {k : Oper → Knd} {ops : Array Oper} {M : Array Nat} {perm : List Nat} (D : DrawOk k ops M perm) {Q : Exit → St → Prop} {γ0 : Nat → Gh} {L0 : List AObj} {w0 : World} :
    ∀ (fuel : Nat) (listed : Array Bool) (s : St) (γ : Nat → Gh) (a : Act) (w : World), listed.size = ops.size → listedClosed ops listed → (left_ perm listed).length ≤ fuel → (left_ perm listed).Pairwise (PairOk k ops M) →
      Rel γ s a w → Ext γ0 L0 γ s.L → Stp γ0 w0 γ w → RunI P k ops (left_ perm listed) s (Q .normal) →
      wpAny P .any ops (fun e a' w' => ∃ γ' s', Rel γ' s' a' w' ∧ Ext γ0 L0 γ' s'.L ∧ Stp γ0 w0 γ' w' ∧ Q e s') fuel listed a w := by
  intro fuel
  induction fuel with
  | zero =>
    intro listed s γ a w hsz hc hf _ hr hE hS hrun
    have hnil : left_ perm listed = [] := List.eq_nil_of_length_eq_zero (by omega)
    rw [hnil] at hrun
    cases hrun with
    | nil h =>
      refine ⟨?_, γ, s, hr, hE, hS, h⟩
      apply List.eq_nil_iff_forall_not_mem.2
      intro i hi
      obtain ⟨o, ho, hl, _⟩ := ready_iff.1 hi
      have : i ∈ left_ perm listed := D.memL.2 ⟨(Array.getElem?_eq_some_iff.1 ho).1, hl⟩
      rw [hnil] at this; cases this
  | succ fuel ih =>
    intro listed s γ a w hsz hc hf hpw hr hE hS hrun
    refine ⟨fun hnone => ?_, fun i hi => ?_⟩
    · rw [D.noReady listed hsz hnone] at hrun
      cases hrun with
      | nil h => exact ⟨γ, s, hr, hE, hS, h⟩
    · obtain ⟨o, ho, hl, hpre⟩ := ready_iff.1 hi
      have him : i ∈ left_ perm listed := D.memL.2 ⟨(Array.getElem?_eq_some_iff.1 ho).1, hl⟩
      obtain ⟨pre, post, hsplit, hnew, hnp, hnq⟩ := D.take hsz him
      have hclosed := closed_take hsz hc ho hpre
      rw [hsplit] at hpw hrun
      have hagr := D.agr hsz hc ho hpre hsplit fun j hj => (List.pairwise_append.1 hpw).2.2 j hj i (by simp)
      have hflen : (left_ perm (listed.setIfInBounds i true)).length ≤ fuel := by
        rw [hnew]; rw [hsplit] at hf; simp at hf ⊢; omega
      have hpw' : (left_ perm (listed.setIfInBounds i true)).Pairwise (PairOk k ops M) := by
        rw [hnew]; exact hpw.sublist (List.Sublist.append_left (List.sublist_cons_self i post) pre)
      unfold wpOp
      simp only [ho]
      rcases RunI.front ho pre s hagr hrun with ⟨d, hdk, hv, hrest⟩ | ⟨hg, hrest⟩
      · obtain ⟨hg, hop⟩ := hv.2 s (fun _ _ => rfl) (Lok.refl _ _)
        rw [guardA_wanted hr hg, if_pos rfl]
        refine .inl (hop γ a w _ _ hr fun γ' a' w' hr' hE' hS' => ?_)
        exact ih _ _ γ' a' w' (by simp [hsz]) hclosed hflen hpw' hr' (hE.trans hE') (hS.trans hS') (by rw [hnew]; exact hrest)
      · rw [guardA_wanted hr hg, if_neg (by decide)]
        exact ih _ _ γ _ w (by simp [hsz]) hclosed hflen hpw' (hr.put o.dst rv_undef) (by rw [St.put_L]; exact hE) hS (by rw [hnew]; exact hrest)

/-! ### two operations in either order -/
def simpleOp (o : Oper) : Bool :=
  match o.op with
  | .move _ | .assign _ | .alloc _ | .box _ _ | .load _ _ | .store _ _ _ | .fieldAddr _ _ _ | .indexAddr _ _ _ => true
  | .build _ _ | .buildSlice _ _ _ | .slice _ _ _ _ _ | .binOp _ _ _ _ _ | .unOp _ _ _ => true
  | _ => false
theorem run_shapeV {P : Program} {w : World} (s : Sem Value) : (∃ v w', (do pure (Next.value (← s)) : Sem Next).run P w = .ok (.value v) w') ∨ (∃ x w', (do pure (Next.value (← s)) : Sem Next).run P w = .halt x w') := by
  simp only [Sem.run_bind]
  cases h : s.run P w with
  | ok v w' => exact .inl ⟨v, w', rfl⟩
  | halt x w' => exact .inr ⟨x, w', rfl⟩
theorem run_shapeU {P : Program} {w : World} (s : Sem Unit) : (∃ w', (do s; pure Next.skip : Sem Next).run P w = .ok .skip w') ∨ (∃ x w', (do s; pure Next.skip : Sem Next).run P w = .halt x w') := by
  simp only [Sem.run_bind]
  cases h : s.run P w with
  | ok v w' => exact .inl ⟨w', rfl⟩
  | halt x w' => exact .inr ⟨x, w', rfl⟩
theorem simple_run {P : Program} {o : Oper} (h : simpleOp o = true) (ρ : Operand → Value) (w : World) :
    (∃ v w', (execOp ρ o).run P w = .ok (.value v) w') ∨ (∃ w', (execOp ρ o).run P w = .ok .skip w') ∨ (∃ x w', (execOp ρ o).run P w = .halt x w') := by
  have V := fun s => run_shapeV (P := P) (w := w) s
  have U := fun s => run_shapeU (P := P) (w := w) s
  have inV : ∀ {r : Result Next}, ((∃ v w', r = .ok (.value v) w') ∨ (∃ x w', r = .halt x w')) → (∃ v w', r = .ok (.value v) w') ∨ (∃ w', r = .ok .skip w') ∨ (∃ x w', r = .halt x w') := fun h => h.elim .inl fun h => .inr (.inr h)
  unfold simpleOp at h
  unfold execOp
  split at h <;> rename_i e <;> simp only [e]
  · exact .inl ⟨_, _, rfl⟩
  · exact .inl ⟨_, _, rfl⟩
  · exact inV (V _)
  · exact inV (V _)
  · exact inV (V _)
  · exact .inr (U _)
  · exact inV (V _)
  · exact inV (V _)
  · exact inV (V _)
  · exact inV (V _)
  · exact inV (V _)
  · exact inV (V _)
  · exact inV (V _)
  · cases h
theorem wp_and {P : Program} {o : Oper} {a : Act} {w : World} {K1 K2 : Act → World → Prop} {Q : Exit → Act → World → Prop} (hs : simpleOp o = true) (h1 : o.wp P a w K1 Q) (h2 : o.wp P a w K2 Q) : o.wp P a w (fun a' w' => K1 a' w' ∧ K2 a' w') Q := by
  unfold Oper.wp at *
  rcases simple_run (P := P) hs a.eval w with ⟨v, w', e⟩ | ⟨w', e⟩ | ⟨x, w', e⟩
  · rw [e] at h1 h2 ⊢; exact ⟨h1, h2⟩
  · rw [e] at h1 h2 ⊢; exact ⟨h1, h2⟩
  · rw [e] at h1 ⊢; cases x <;> exact h1

theorem any_of_run2 {P : Program} {k : Oper → Knd} {ops : Array Oper} {M : Array Nat} {p1 p2 : List Nat} {x y : Nat} (D1 : DrawOk k ops M p1) (D2 : DrawOk k ops M p2) (hxy : x ≠ y)
    (q1 : p1.Pairwise fun j i => (j = x ∧ i = y) ∨ PairOk k ops M j i) (q2 : p2.Pairwise fun j i => (j = y ∧ i = x) ∨ PairOk k ops M j i) (hsm : ∀ (i : Nat) o, ops[i]? = some o → i ≠ x → i ≠ y → simpleOp o = true ∨ (M.getD i 0).testBit x = true ∨ (M.getD i 0).testBit y = true)
    {Q : Exit → St → Prop} {γ0 : Nat → Gh} {L0 : List AObj} {w0 : World} :
    ∀ (fuel : Nat) (listed : Array Bool) (s1 s2 : St) (γ1 γ2 : Nat → Gh) (a : Act) (w : World), listed.size = ops.size → listedClosed ops listed → (left_ p1 listed).length ≤ fuel → (left_ p2 listed).length ≤ fuel → x ∈ left_ p1 listed → y ∈ left_ p1 listed →
      Rel γ1 s1 a w → Ext γ0 L0 γ1 s1.L → Stp γ0 w0 γ1 w → RunI P k ops (left_ p1 listed) s1 (Q .normal) →
      Rel γ2 s2 a w → Ext γ0 L0 γ2 s2.L → Stp γ0 w0 γ2 w → RunI P k ops (left_ p2 listed) s2 (Q .normal) →
      wpAny P .any ops (fun e a' w' => ∃ γ' s', Rel γ' s' a' w' ∧ Ext γ0 L0 γ' s'.L ∧ Stp γ0 w0 γ' w' ∧ Q e s') fuel listed a w := by
  have fil : ∀ {perm : List Nat} {u v : Nat} {listed : Array Bool}, perm.Pairwise (fun j i => (j = u ∧ i = v) ∨ PairOk k ops M j i) → u ∉ left_ perm listed → (left_ perm listed).Pairwise (PairOk k ops M) := by
    intro perm u v listed h hu
    refine List.Pairwise.imp_of_mem ?_ (h.filter (fun i => !listed.getD i true))
    intro j i hj hi hji
    rcases hji with ⟨rfl, _⟩ | h
    · exact absurd hj hu
    · exact h
  intro fuel
  induction fuel with
  | zero =>
    intro listed s1 s2 γ1 γ2 a w hsz hc hf _ _ _ hr hE hS hrun _ _ _ _
    have hnil : left_ p1 listed = [] := List.eq_nil_of_length_eq_zero (by omega)
    rw [hnil] at hrun
    cases hrun with
    | nil h =>
      refine ⟨?_, γ1, s1, hr, hE, hS, h⟩
      apply List.eq_nil_iff_forall_not_mem.2
      intro i hi
      obtain ⟨o, ho, hl, _⟩ := ready_iff.1 hi
      have : i ∈ left_ p1 listed := D1.memL.2 ⟨(Array.getElem?_eq_some_iff.1 ho).1, hl⟩
      rw [hnil] at this; cases this
  | succ fuel ih =>
    intro listed s1 s2 γ1 γ2 a w hsz hc hf1 hf2 hxl hyl hr1 hE1 hS1 hrun1 hr2 hE2 hS2 hrun2
    refine ⟨fun hnone => ?_, fun i hi => ?_⟩
    · rw [D1.noReady listed hsz hnone] at hrun1
      cases hrun1 with
      | nil h => exact ⟨γ1, s1, hr1, hE1, hS1, h⟩
    · obtain ⟨o, ho, hl, hpre⟩ := ready_iff.1 hi
      have hlt := (Array.getElem?_eq_some_iff.1 ho).1
      obtain ⟨pre1, post1, hs1, hn1, hnp1, hnq1⟩ := D1.take hsz (D1.memL.2 ⟨hlt, hl⟩)
      obtain ⟨pre2, post2, hs2, hn2, hnp2, hnq2⟩ := D2.take hsz (D2.memL.2 ⟨hlt, hl⟩)
      have hclosed := closed_take hsz hc ho hpre
      have hfl1 : (left_ p1 (listed.setIfInBounds i true)).length ≤ fuel := by
        rw [hn1]; rw [hs1] at hf1; simp at hf1 ⊢; omega
      have hfl2 : (left_ p2 (listed.setIfInBounds i true)).length ≤ fuel := by
        rw [hn2]; rw [hs2] at hf2; simp at hf2 ⊢; omega
      have w1 : ∀ j ∈ pre1, (j = x ∧ i = y) ∨ PairOk k ops M j i := fun j hj => by
        have := q1.filter (fun i => !listed.getD i true)
        change (left_ p1 listed).Pairwise _ at this
        rw [hs1] at this
        exact (List.pairwise_append.1 this).2.2 j hj i (by simp)
      have w2 : ∀ j ∈ pre2, (j = y ∧ i = x) ∨ PairOk k ops M j i := fun j hj => by
        have := q2.filter (fun i => !listed.getD i true)
        change (left_ p2 listed).Pairwise _ at this
        rw [hs2] at this
        exact (List.pairwise_append.1 this).2.2 j hj i (by simp)
      rw [hs1] at hrun1
      rw [hs2] at hrun2
      unfold wpOp
      simp only [ho]
      by_cases hiy : i = y
      · -- 'y' comes first: the second order
        subst hiy
        have hagr := D2.agr hsz hc ho hpre hs2 fun j hj => (w2 j hj).resolve_left fun h => hxy h.2.symm
        have hpw' : (left_ p2 (listed.setIfInBounds i true)).Pairwise (PairOk k ops M) := fil q2 (by rw [hn2]; simp [hnp2, hnq2])
        rcases RunI.front ho pre2 s2 hagr hrun2 with ⟨d, hdk, hv, hrest⟩ | ⟨hg, hrest⟩
        · obtain ⟨hg, hop⟩ := hv.2 s2 (fun _ _ => rfl) (Lok.refl _ _)
          rw [guardA_wanted hr2 hg, if_pos rfl]
          refine .inl (hop γ2 a w _ _ hr2 fun γ' a' w' hr' hE' hS' => ?_)
          exact any_of_run D2 _ _ _ γ' a' w' (by simp [hsz]) hclosed hfl2 hpw' hr' (hE2.trans hE') (hS2.trans hS') (by rw [hn2]; exact hrest)
        · rw [guardA_wanted hr2 hg, if_neg (by decide)]
          exact any_of_run D2 _ _ _ γ2 _ w (by simp [hsz]) hclosed hfl2 hpw' (hr2.put o.dst rv_undef) (by rw [St.put_L]; exact hE2) hS2 (by rw [hn2]; exact hrest)
      have hagr1 := D1.agr hsz hc ho hpre hs1 fun j hj => (w1 j hj).resolve_left fun h => hiy h.2
      by_cases hix : i = x
      · subst hix
        have hpw' : (left_ p1 (listed.setIfInBounds i true)).Pairwise (PairOk k ops M) := fil q1 (by rw [hn1]; simp [hnp1, hnq1])
        rcases RunI.front ho pre1 s1 hagr1 hrun1 with ⟨d, hdk, hv, hrest⟩ | ⟨hg, hrest⟩
        · obtain ⟨hg, hop⟩ := hv.2 s1 (fun _ _ => rfl) (Lok.refl _ _)
          rw [guardA_wanted hr1 hg, if_pos rfl]
          refine .inl (hop γ1 a w _ _ hr1 fun γ' a' w' hr' hE' hS' => ?_)
          exact any_of_run D1 _ _ _ γ' a' w' (by simp [hsz]) hclosed hfl1 hpw' hr' (hE1.trans hE') (hS1.trans hS') (by rw [hn1]; exact hrest)
        · rw [guardA_wanted hr1 hg, if_neg (by decide)]
          exact any_of_run D1 _ _ _ γ1 _ w (by simp [hsz]) hclosed hfl1 hpw' (hr1.put o.dst rv_undef) (by rw [St.put_L]; exact hE1) hS1 (by rw [hn1]; exact hrest)
      have hagr2 := D2.agr hsz hc ho hpre hs2 fun j hj => (w2 j hj).resolve_left fun h => hix h.2
      have unl : ∀ {z : Nat}, z ∈ left_ p1 listed → ¬ (M.getD i 0).testBit z = true := by
        intro z hz hb
        have h1 := mask_listed D1 hc i o ho hpre z hb
        have h2 := D1.memL.1 hz
        have hzs : z < listed.size := by omega
        have h2 := h2.2
        simp only [Array.getD, hzs, dif_pos] at h1 h2
        rw [h1] at h2; cases h2
      have hso : simpleOp o = true := by
        rcases hsm i o ho hix hiy with h | h | h
        · exact h
        · exact absurd h (unl hxl)
        · exact absurd h (unl hyl)
      have stay : ∀ {z : Nat}, z ∈ left_ p1 listed → i ≠ z → z ∈ left_ p1 (listed.setIfInBounds i true) := by
        intro z hz hne
        rw [hs1] at hz
        rw [hn1]
        simp only [List.mem_append, List.mem_cons] at hz ⊢
        rcases hz with h | h | h
        · exact .inl h
        · exact absurd h.symm hne
        · exact .inr h
      have hxl' := stay hxl hix
      have hyl' := stay hyl hiy
      rcases RunI.front ho pre1 s1 hagr1 hrun1 with ⟨d1, hdk1, hv1, hrest1⟩ | ⟨hg1, hrest1⟩
      · obtain ⟨hg1, hop1⟩ := hv1.2 s1 (fun _ _ => rfl) (Lok.refl _ _)
        rcases RunI.front ho pre2 s2 hagr2 hrun2 with ⟨d2, hdk2, hv2, hrest2⟩ | ⟨hg2, hrest2⟩
        · obtain ⟨hg2, hop2⟩ := hv2.2 s2 (fun _ _ => rfl) (Lok.refl _ _)
          rw [guardA_wanted hr1 hg1, if_pos rfl]
          refine .inl (Oper.wp_mono (K := fun a' w' => (∃ γ', Rel γ' (d1.app o s1) a' w' ∧ Ext γ1 s1.L γ' (d1.app o s1).L ∧ Stp γ1 w γ' w') ∧ (∃ γ', Rel γ' (d2.app o s2) a' w' ∧ Ext γ2 s2.L γ' (d2.app o s2).L ∧ Stp γ2 w γ' w')) ?_
            (wp_and hso (hop1 γ1 a w _ _ hr1 fun γ' a' w' hr' hE' hS' => ⟨γ', hr', hE', hS'⟩) (hop2 γ2 a w _ _ hr2 fun γ' a' w' hr' hE' hS' => ⟨γ', hr', hE', hS'⟩)))
          rintro a' w' ⟨⟨γa, ha1, ha2, ha3⟩, γb, hb1, hb2, hb3⟩
          exact ih _ _ _ γa γb a' w' (by simp [hsz]) hclosed hfl1 hfl2 hxl' hyl' ha1 (hE1.trans ha2) (hS1.trans ha3) (by rw [hn1]; exact hrest1) hb1 (hE2.trans hb2) (hS2.trans hb3) (by rw [hn2]; exact hrest2)
        · have e1 := guardA_wanted hr1 hg1
          rw [guardA_wanted hr2 hg2] at e1
          cases e1
      · rw [guardA_wanted hr1 hg1, if_neg (by decide)]
        rcases RunI.front ho pre2 s2 hagr2 hrun2 with ⟨d2, hdk2, hv2, hrest2⟩ | ⟨hg2, hrest2⟩
        · obtain ⟨hg2, hop2⟩ := hv2.2 s2 (fun _ _ => rfl) (Lok.refl _ _)
          have e1 := guardA_wanted hr1 hg1
          rw [guardA_wanted hr2 hg2] at e1
          cases e1
        · exact ih _ _ _ γ1 γ2 _ w (by simp [hsz]) hclosed hfl1 hfl2 hxl' hyl' (hr1.put o.dst rv_undef) (by rw [St.put_L]; exact hE1) hS1 (by rw [hn1]; exact hrest1) (hr2.put o.dst rv_undef) (by rw [St.put_L]; exact hE2) hS2 (by rw [hn2]; exact hrest2)

/-- Each two are bound or free to change places, but for the one pair. -/
def okPairs2 (k : Oper → Knd) (ops : Array Oper) (M : Array Nat) (x y : Nat) : List Nat → Bool
  | [] => true
  | j :: rest => (rest.all fun i => (j == x && i == y) || (M.getD i 0).testBit j || (match ops[j]?, ops[i]? with | some p, some o => agrB ops k p o | _, _ => false)) && okPairs2 k ops M x y rest
theorem okPairs2_spec {k : Oper → Knd} {ops : Array Oper} {M : Array Nat} {x y : Nat} : ∀ {l : List Nat}, okPairs2 k ops M x y l = true → l.Pairwise fun j i => (j = x ∧ i = y) ∨ PairOk k ops M j i
  | [], _ => .nil
  | j :: rest, h => by
    simp only [okPairs2, Bool.and_eq_true] at h
    refine List.pairwise_cons.2 ⟨fun i hi => ?_, okPairs2_spec h.2⟩
    have := List.all_eq_true.1 h.1 i hi
    simp only [Bool.or_eq_true, Bool.and_eq_true, beq_iff_eq] at this
    rcases this with (h1 | h1) | h1
    · exact .inl h1
    · exact .inr (.inl h1)
    · split at h1
      · rename_i p o hp ho; exact .inr (.inr ⟨p, o, hp, ho, h1⟩)
      · cases h1
def okPerm2 (k : Oper → Knd) (ops : Array Oper) (p1 p2 : List Nat) (x y : Nat) : Bool :=
  okBase ops p1 && okBase ops p2 && !(x == y) && okPairs2 k ops (Region.before ops) x y p1 && okPairs2 k ops (Region.before ops) y x p2 && p1.contains x && p1.contains y &&
    (List.range ops.size).all fun i => i == x || i == y || (match ops[i]? with | some o => simpleOp o | none => true) || ((Region.before ops).getD i 0).testBit x || ((Region.before ops).getD i 0).testBit y

theorem AWp.permI {P : Program} (hm : P.follows .mixedOrders = true) {k : Oper → Knd} {id : Nat} {ops : Array Oper} {Q : Exit → St → Prop} {s : St} (perm : List Nat) (hok : okPerm k ops perm = true) (h : RunI P k ops perm s (Q .normal)) :
    AWp P (.region id ops true) Q s := by
  obtain ⟨D, hpw⟩ := okPerm_spec hok
  have hnd := D.nodup
  have hbd := D.bound
  intro γ a w hr
  refine wp_region_any hm ?_
  have hI : Inv γ s.L { w with drawn := w.drawn + 1 } := ⟨hr.inv.ro, hr.inv.ow, hr.inv.inj, hr.inv.box, hr.inv.map⟩
  have hr' : Rel γ s a { w with drawn := w.drawn + 1 } := ⟨hr.defers, hr.size, hr.tmps, hI⟩
  have hS : Stp γ w γ { w with drawn := w.drawn + 1 } := ⟨rfl, rfl, rfl, Nat.le_refl _, fun _ _ h => h, fun _ _ h => ⟨h, rfl⟩⟩
  have hl : left_ perm (Array.replicate ops.size false) = perm := by
    unfold left_
    rw [List.filter_eq_self]
    intro i hi
    have : i < ops.size := hbd i hi
    simp [Array.getD, this]
  refine any_of_run D _ _ s γ a _ (by simp) ?_ (by rw [hl]; simp [D.size]) (by rw [hl]; exact hpw) hr' (.refl _ _) hS ?_
  · intro i o e ho hi
    have : i < ops.size := (Array.getElem?_eq_some_iff.1 ho).1
    simp [Array.getD, this] at hi
  · rw [hl]
    exact h

theorem AWp.perm {P : Program} (hm : P.follows .mixedOrders = true) {k : Oper → Knd} {id : Nat} {ops : Array Oper} {Q : Exit → St → Prop} {s : St} (perm : List Nat) (hok : okPerm k ops perm = true) (h : RunL P k ops (perm.filterMap fun i => ops[i]?) s (Q .normal)) :
    AWp P (.region id ops true) Q s := .permI hm perm hok (RunI.of_perm perm s (okPerm_spec hok).1.bound h)

theorem AWp.draw {P : Program} (hm : P.follows .mixedOrders = true) {k : Oper → Knd} {id : Nat} {ops : Array Oper} {Q : Exit → St → Prop} {s : St} (hok : okDraw k ops = true) (h : RunL P k ops ops.toList s (Q .normal)) :
    AWp P (.region id ops true) Q s :=
  .permI hm (List.range ops.size) hok (by
    have := RunI.of_list ops.toList [] s rfl h
    rw [List.range_eq_range']
    simpa using this)

theorem AWp.perm2 {P : Program} (hm : P.follows .mixedOrders = true) {k : Oper → Knd} {id : Nat} {ops : Array Oper} {Q : Exit → St → Prop} {s : St} (p1 p2 : List Nat) (x y : Nat) (hok : okPerm2 k ops p1 p2 x y = true)
    (h1 : RunL P k ops (p1.filterMap fun i => ops[i]?) s (Q .normal)) (h2 : RunL P k ops (p2.filterMap fun i => ops[i]?) s (Q .normal)) : AWp P (.region id ops true) Q s := by
  simp only [okPerm2, Bool.and_eq_true, Bool.not_eq_true', beq_eq_false_iff_ne] at hok
  obtain ⟨⟨⟨⟨⟨⟨⟨b1, b2⟩, hxy⟩, o1⟩, o2⟩, hcx⟩, hcy⟩, hsm⟩ := hok
  have D1 := okBase_spec (k := k) b1
  have D2 := okBase_spec (k := k) b2
  intro γ a w hr
  refine wp_region_any hm ?_
  have hI : Inv γ s.L { w with drawn := w.drawn + 1 } := ⟨hr.inv.ro, hr.inv.ow, hr.inv.inj, hr.inv.box, hr.inv.map⟩
  have hr' : Rel γ s a { w with drawn := w.drawn + 1 } := ⟨hr.defers, hr.size, hr.tmps, hI⟩
  have hS : Stp γ w γ { w with drawn := w.drawn + 1 } := ⟨rfl, rfl, rfl, Nat.le_refl _, fun _ _ h => h, fun _ _ h => ⟨h, rfl⟩⟩
  have hl : ∀ {perm : List Nat}, DrawOk k ops (Region.before ops) perm → left_ perm (Array.replicate ops.size false) = perm := by
    intro perm D
    unfold left_
    rw [List.filter_eq_self]
    intro i hi
    have : i < ops.size := D.bound i hi
    simp [Array.getD, this]
  refine any_of_run2 D1 D2 hxy (okPairs2_spec o1) (okPairs2_spec o2) (fun i o ho hix hiy => by
      have := List.all_eq_true.1 hsm i (List.mem_range.2 (Array.getElem?_eq_some_iff.1 ho).1)
      simp only [ho, Bool.or_eq_true, beq_iff_eq] at this
      rcases this with (((h | h) | h) | h) | h
      · exact absurd h hix
      · exact absurd h hiy
      · exact .inl h
      · exact .inr (.inl h)
      · exact .inr (.inr h)) _ _ s s γ γ a _ (by simp) ?_ (by rw [hl D1]; simp [D1.size]) (by rw [hl D2]; simp [D2.size]) (by rw [hl D1]; simpa using hcx) (by rw [hl D1]; simpa using hcy)
    hr' (.refl _ _) hS ?_ hr' (.refl _ _) hS ?_
  · intro i o e ho hi
    have : i < ops.size := (Array.getElem?_eq_some_iff.1 ho).1
    simp [Array.getD, this] at hi
  · rw [hl D1]; exact RunI.of_perm p1 s D1.bound h1
  · rw [hl D2]; exact RunI.of_perm p2 s D2.bound h2

end Go.Proofs.Ytolfjeedgedblaa.K
