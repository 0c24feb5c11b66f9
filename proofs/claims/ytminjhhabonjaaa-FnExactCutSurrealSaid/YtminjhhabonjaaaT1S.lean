/-
  Trees as data: terms with a tree each; as values that are only read, and as rows of a call's own.
-/
import Derived.Test.YtminjhhabonjaaaK20
namespace Go.Proofs.Ytminjhhabonjaaa.K
set_option linter.unusedVariables false
set_option linter.unusedSimpArgs false
open Go

inductive Su where
  | nil
  | cons (e : Su) (c : Int × Int) (r : Su)

namespace Su
def pay (c : Int × Int) : List AV := [.int .i64 c.1, .int .i64 c.2]
def len : Su → Nat
  | nil => 0
  | cons _ _ r => r.len + 1
/-- How many terms there are, down to all depths. -/
def sz : Su → Nat
  | nil => 0
  | cons e _ r => e.sz + r.sz + 1
def app : Su → Su → Su
  | nil, b => b
  | cons e c r, b => cons e c (r.app b)
theorem app_nil : ∀ a : Su, a.app nil = a
  | nil => rfl
  | cons e c r => by simp [app, app_nil r]
theorem app_assoc : ∀ a b c : Su, (a.app b).app c = a.app (b.app c)
  | nil, b, c => rfl
  | cons e d r, b, c => by simp [app, app_assoc r b c]
theorem len_app : ∀ a b : Su, (a.app b).len = a.len + b.len
  | nil, b => by simp [app, len]
  | cons e c r, b => by simp [app, len, len_app r b]; omega
theorem sz_app : ∀ a b : Su, (a.app b).sz = a.sz + b.sz
  | nil, b => by simp [app, sz]
  | cons e c r, b => by simp [app, sz, sz_app r b]; omega
theorem len_le : ∀ a : Su, a.len ≤ a.sz
  | nil => Nat.le_refl _
  | cons e c r => by simp [len, sz]; have := len_le r; omega

def eqT : Su → Su → Bool
  | nil, nil => true
  | cons e c r, cons e' c' r' => eqT e e' && (c == c') && eqT r r'
  | _, _ => false
theorem eqT_refl : ∀ a : Su, eqT a a = true
  | nil => rfl
  | cons e c r => by simp [eqT, eqT_refl e, eqT_refl r]
theorem eqT_eq : ∀ {a b : Su}, eqT a b = true → a = b
  | nil, nil, _ => rfl
  | cons e c r, cons e' c' r', h => by
    simp only [eqT, Bool.and_eq_true, beq_iff_eq] at h
    rw [eqT_eq h.1.1, h.1.2, eqT_eq h.2]
  | nil, cons _ _ _, h => by simp [eqT] at h
  | cons _ _ _, nil, h => by simp [eqT] at h
theorem eqT_len : ∀ {a b : Su}, eqT a b = true → a.len = b.len := fun h => by rw [eqT_eq h]
theorem eqT_app : ∀ {a b c d : Su}, a.len = b.len → eqT (a.app c) (b.app d) = (eqT a b && eqT c d)
  | nil, nil, c, d, _ => by simp [app, eqT]
  | cons e c r, cons e' c' r', x, y, h => by
    simp only [len, Nat.add_right_cancel_iff] at h
    simp [app, eqT, eqT_app h, Bool.and_assoc]
  | nil, cons _ _ _, _, _, h => by simp [len] at h
  | cons _ _ _, nil, _, _, h => by simp [len] at h

/-- The elements, as values that are only read. -/
def elems : Su → List AV
  | nil => []
  | cons e c r => .agg (.sl false (elems e) :: pay c) :: elems r
theorem elems_length : ∀ a : Su, (elems a).length = a.len
  | nil => rfl
  | cons e c r => by simp [elems, len, elems_length r]
theorem elems_app : ∀ a b : Su, elems (a.app b) = elems a ++ elems b
  | nil, b => rfl
  | cons e c r, b => by simp [app, elems, elems_app r b]
theorem elems_get (a : Su) (e : Su) (c : Int × Int) (r : Su) : (elems (a.app (cons e c r)))[a.len]? = some (.agg (.sl false (elems e) :: pay c)) := by
  rw [elems_app, List.getElem?_append_right (by rw [elems_length]; exact Nat.le_refl _), elems_length, Nat.sub_self]
  rfl
theorem pay_noOwn (xs : List AV) (c : Int × Int) : noOwn1 (.agg (.sl false xs :: pay c)) = true := by simp [noOwn1, AV.cells, pay]
theorem elems_noOwn : ∀ a : Su, noOwn (elems a) = true
  | nil => rfl
  | cons e c r => by simp [elems, noOwn_cons, elems_noOwn r, pay_noOwn]
theorem pay_pure (c : Int × Int) : pureL (pay c) = true := by simp [pay, pureL, pureB]
theorem elems_pure : ∀ a : Su, pureL (elems a) = true
  | nil => rfl
  | cons e c r => by simp [elems, pureL, pureB, elems_pure e, elems_pure r, pay_pure]
/-- The record with its list. -/
def av (a : Su) : AV := .agg [.sl false (elems a)]
theorem av_pure (a : Su) : pureB (av a) = true := by simp [av, pureB, pureL, elems_pure]
theorem elems_cells : ∀ (a : Su) (x : AV), x ∈ elems a → x.cells.length = 3
  | nil, x, h => by simp [elems] at h
  | cons e c r, x, h => by
    simp only [elems, List.mem_cons] at h
    rcases h with rfl | h
    · simp [AV.cells, pay]
    · exact elems_cells r x h

/-! ### rows of a call's own -/
def OwnE (L : List AObj) (T : TypeId) (sz : Nat) : Su → List AV → List Nat → Prop
  | nil, es, S => es = [] ∧ S = []
  | cons e c r, es, S => ∃ x es' S1 S2, es = .agg (x :: pay c) :: es' ∧ S = S1 ++ S2 ∧ OwnE L T sz r es' S2 ∧
      ((e = nil ∧ x = nilV ∧ S1 = []) ∨ ∃ id g es1 S3, x = .ref id [] g es1.length ∧ L[id]? = some (.vec T sz g es1) ∧ S1 = id :: S3 ∧ OwnE L T sz e es1 S3)
def OwnR (L : List AObj) (T : TypeId) (sz : Nat) (a : Su) (x : AV) (S : List Nat) : Prop :=
  (a = nil ∧ x = nilV ∧ S = []) ∨ ∃ id g es1 S3, x = .ref id [] g es1.length ∧ L[id]? = some (.vec T sz g es1) ∧ S = id :: S3 ∧ OwnE L T sz a es1 S3

theorem OwnE_cons {L : List AObj} {T : TypeId} {z : Nat} {e : Su} {c : Int × Int} {r : Su} {es : List AV} {S : List Nat} :
    OwnE L T z (cons e c r) es S ↔ ∃ x es' S1 S2, es = .agg (x :: pay c) :: es' ∧ S = S1 ++ S2 ∧ OwnR L T z e x S1 ∧ OwnE L T z r es' S2 := by
  unfold OwnR
  conv => lhs; unfold OwnE
  constructor
  · rintro ⟨x, es', S1, S2, h1, h2, h3, h4⟩; exact ⟨x, es', S1, S2, h1, h2, h4, h3⟩
  · rintro ⟨x, es', S1, S2, h1, h2, h3, h4⟩; exact ⟨x, es', S1, S2, h1, h2, h4, h3⟩

/-- What holds of rows where no row of 'S' has turned. -/
theorem OwnE.mono {L L' : List AObj} {T : TypeId} {z : Nat} : ∀ {a : Su} {es : List AV} {S : List Nat}, OwnE L T z a es S → (∀ id ∈ S, ∀ g es, L[id]? = some (.vec T z g es) → L'[id]? = some (.vec T z g es)) → OwnE L' T z a es S
  | nil, es, S, h, _ => h
  | cons e c r, es, S, h, hf => by
    rw [OwnE_cons] at h ⊢
    obtain ⟨x, es', S1, S2, h1, rfl, h3, h4⟩ := h
    refine ⟨x, es', S1, S2, h1, rfl, ?_, h4.mono fun id hid => hf id (List.mem_append_right _ hid)⟩
    rcases h3 with h3 | ⟨id, g, es1, S3, k1, k2, rfl, k4⟩
    · exact .inl h3
    · exact .inr ⟨id, g, es1, S3, k1, hf id (by simp) _ _ k2, rfl, k4.mono fun id hid => hf id (List.mem_append_left _ (List.mem_cons_of_mem _ hid))⟩
theorem OwnR.mono {L L' : List AObj} {T : TypeId} {z : Nat} {a : Su} {x : AV} {S : List Nat} (h : OwnR L T z a x S) (hf : ∀ id ∈ S, ∀ g es, L[id]? = some (.vec T z g es) → L'[id]? = some (.vec T z g es)) : OwnR L' T z a x S := by
  rcases h with h | ⟨id, g, es1, S3, k1, k2, rfl, k4⟩
  · exact .inl h
  · exact .inr ⟨id, g, es1, S3, k1, hf id (by simp) _ _ k2, rfl, k4.mono fun id hid => hf id (List.mem_cons_of_mem _ hid)⟩

theorem pay_sh (k : Nat) (c : Int × Int) : (pay c).map (shA k) = pay c := by simp [pay, shA]
theorem OwnE.sh {M L' : List AObj} {T : TypeId} {z k : Nat} (hg : ∀ id, L'[id + k]? = (M[id]?).map (shO k)) : ∀ {a : Su} {es : List AV} {S : List Nat}, OwnE M T z a es S → OwnE L' T z a (es.map (shA k)) (S.map (· + k))
  | nil, es, S, h => by obtain ⟨rfl, rfl⟩ := h; exact ⟨rfl, rfl⟩
  | cons e c r, es, S, h => by
    rw [OwnE_cons] at h ⊢
    obtain ⟨x, es', S1, S2, rfl, rfl, h3, h4⟩ := h
    refine ⟨shA k x, es'.map (shA k), S1.map (· + k), S2.map (· + k), by simp [shA, shL_eq, pay_sh], by simp, ?_, h4.sh hg⟩
    rcases h3 with ⟨h5, rfl, rfl⟩ | ⟨id, g, es1, S3, rfl, k2, rfl, k4⟩
    · exact .inl ⟨h5, rfl, rfl⟩
    · exact .inr ⟨id + k, g, es1.map (shA k), S3.map (· + k), by simp [shA], by rw [hg, k2]; rfl, by simp, k4.sh hg⟩
theorem OwnR.sh {M L' : List AObj} {T : TypeId} {z k : Nat} (hg : ∀ id, L'[id + k]? = (M[id]?).map (shO k)) {a : Su} {x : AV} {S : List Nat} (h : OwnR M T z a x S) : OwnR L' T z a (shA k x) (S.map (· + k)) := by
  rcases h with ⟨h5, rfl, rfl⟩ | ⟨id, g, es1, S3, rfl, k2, rfl, k4⟩
  · exact .inl ⟨h5, rfl, rfl⟩
  · exact .inr ⟨id + k, g, es1.map (shA k), S3.map (· + k), by simp [shA], by rw [hg, k2]; rfl, by simp, k4.sh hg⟩
theorem more_get (L M : List AObj) (id : Nat) : (L ++ M.map (shO L.length))[id + L.length]? = (M[id]?).map (shO L.length) := by
  rw [List.getElem?_append_right (by omega), List.getElem?_map]; congr 2; omega

theorem OwnE.length {L : List AObj} {T : TypeId} {z : Nat} : ∀ {a : Su} {es : List AV} {S : List Nat}, OwnE L T z a es S → es.length = a.len
  | nil, es, S, h => by obtain ⟨rfl, rfl⟩ := h; rfl
  | cons e c r, es, S, h => by
    rw [OwnE_cons] at h
    obtain ⟨x, es', S1, S2, rfl, rfl, h3, h4⟩ := h
    simp [len, h4.length]
theorem OwnR.form {L : List AObj} {T : TypeId} {z : Nat} {a : Su} {x : AV} {S : List Nat} (h : OwnR L T z a x S) : okT x = true ∧ x.cells = [x] ∧ x.solid = true ∧ noOwn1 x = true ∧ (∀ xs, x ≠ .sl true xs) ∧ aggB x = false := by
  rcases h with ⟨_, rfl, _⟩ | ⟨id, g, es1, S3, rfl, _⟩
  · exact ⟨rfl, rfl, rfl, rfl, (by intro xs h; cases h), rfl⟩
  · exact ⟨rfl, rfl, rfl, rfl, (by intro xs h; cases h), rfl⟩
theorem OwnR.shape {L : List AObj} {T : TypeId} {z : Nat} {a : Su} {x : AV} {S : List Nat} (h : OwnR L T z a x S) : x = nilV ∨ ∃ id g n, x = .ref id [] g n := by
  rcases h with ⟨_, rfl, _⟩ | ⟨id, g, es1, S3, rfl, _⟩
  · exact .inl rfl
  · exact .inr ⟨_, _, _, rfl⟩
theorem OwnE.form {L : List AObj} {T : TypeId} {z : Nat} : ∀ {a : Su} {es : List AV} {S : List Nat}, OwnE L T z a es S → okTL es = true ∧ noOwn es = true ∧ ∀ e ∈ es, e.cells.length = 3
  | nil, es, S, h => by obtain ⟨rfl, rfl⟩ := h; exact ⟨rfl, rfl, by simp⟩
  | cons e c r, es, S, h => by
    rw [OwnE_cons] at h
    obtain ⟨x, es', S1, S2, rfl, rfl, h3, h4⟩ := h
    obtain ⟨k1, k2, _, k3, k4, _⟩ := h3.form
    obtain ⟨m1, m2, m3⟩ := h4.form
    refine ⟨by simp [okTL, okT, pay, k1, m1], ?_, fun y hy => ?_⟩
    · rw [noOwn_cons, m2, Bool.and_true]
      refine List.all_eq_true.2 fun y hy => ?_
      simp only [AV.cells, List.mem_cons] at hy
      rcases hy with rfl | hy
      · have := List.all_eq_true.1 k3 y (by rw [k2]; simp)
        exact this
      · simp [pay] at hy
        first | (subst hy; rfl) | (rcases hy with rfl | rfl <;> rfl)
    · rcases List.mem_cons.1 hy with rfl | hy
      · simp [AV.cells, pay]
      · exact m3 y hy
theorem OwnE.objs {L : List AObj} {T : TypeId} {z : Nat} : ∀ {a : Su} {es : List AV} {S : List Nat}, OwnE L T z a es S → ∀ id ∈ S, ∃ g es1, L[id]? = some (.vec T z g es1) ∧ okTO (.vec T z g es1) = true
  | nil, es, S, h, id, hid => by obtain ⟨rfl, rfl⟩ := h; simp at hid
  | cons e c r, es, S, h, id, hid => by
    rw [OwnE_cons] at h
    obtain ⟨x, es', S1, S2, rfl, rfl, h3, h4⟩ := h
    rcases List.mem_append.1 hid with hid | hid
    · rcases h3 with ⟨_, _, rfl⟩ | ⟨id1, g, es1, S3, rfl, k2, rfl, k4⟩
      · simp at hid
      · rcases List.mem_cons.1 hid with rfl | hid
        · obtain ⟨f1, f2, _⟩ := k4.form
          exact ⟨g, es1, k2, by simp [okTO, f1, f2]⟩
        · exact k4.objs id hid
    · exact h4.objs id hid
theorem OwnR.objs {L : List AObj} {T : TypeId} {z : Nat} {a : Su} {x : AV} {S : List Nat} (h : OwnR L T z a x S) : ∀ id ∈ S, ∃ g es1, L[id]? = some (.vec T z g es1) ∧ okTO (.vec T z g es1) = true := by
  intro id hid
  rcases h with ⟨_, _, rfl⟩ | ⟨id1, g, es1, S3, rfl, k2, rfl, k4⟩
  · simp at hid
  · rcases List.mem_cons.1 hid with rfl | hid
    · obtain ⟨f1, f2, _⟩ := k4.form
      exact ⟨g, es1, k2, by simp [okTO, f1, f2]⟩
    · exact k4.objs id hid
theorem OwnR.lt {L : List AObj} {T : TypeId} {z : Nat} {a : Su} {x : AV} {S : List Nat} (h : OwnR L T z a x S) : ∀ id ∈ S, id < L.length := fun id hid => by
  obtain ⟨g, es, hL, _⟩ := h.objs id hid
  exact (List.getElem?_eq_some_iff.1 hL).1
theorem OwnE.lt {L : List AObj} {T : TypeId} {z : Nat} {a : Su} {es : List AV} {S : List Nat} (h : OwnE L T z a es S) : ∀ id ∈ S, id < L.length := fun id hid => by
  obtain ⟨g, es, hL, _⟩ := h.objs id hid
  exact (List.getElem?_eq_some_iff.1 hL).1
theorem OwnR.keep {L : List AObj} {T : TypeId} {z : Nat} {a : Su} {x : AV} {S S' : List Nat} (h : OwnR L T z a x S) (hS : ∀ id ∈ S, id ∈ S') : OwnR (keepS S' L) T z a x S :=
  h.mono fun id hid g es hL => by
    obtain ⟨g', es', hL', hok⟩ := h.objs id hid
    rw [hL] at hL'; cases hL'
    exact keepS_in (hS id hid) hok hL
theorem OwnR.more {L : List AObj} {T : TypeId} {z : Nat} {a : Su} {x : AV} {S : List Nat} (h : OwnR L T z a x S) (X : List AObj) : OwnR (L ++ X) T z a x S :=
  h.mono fun id hid g es hL => by rw [List.getElem?_append_left (List.getElem?_eq_some_iff.1 hL).1]; exact hL
theorem OwnE.more {L : List AObj} {T : TypeId} {z : Nat} {a : Su} {es : List AV} {S : List Nat} (h : OwnE L T z a es S) (X : List AObj) : OwnE (L ++ X) T z a es S :=
  h.mono fun id hid g es hL => by rw [List.getElem?_append_left (List.getElem?_eq_some_iff.1 hL).1]; exact hL
theorem OwnR.set {L : List AObj} {T : TypeId} {z : Nat} {a : Su} {x : AV} {S : List Nat} (h : OwnR L T z a x S) {i : Nat} {o : AObj} (hi : i ∉ S) : OwnR (L.set i o) T z a x S :=
  h.mono fun id hid g es hL => by rw [List.getElem?_set_ne (fun e : i = id => hi (by rw [e]; exact hid))]; exact hL
theorem OwnE.set {L : List AObj} {T : TypeId} {z : Nat} {a : Su} {es : List AV} {S : List Nat} (h : OwnE L T z a es S) {i : Nat} {o : AObj} (hi : i ∉ S) : OwnE (L.set i o) T z a es S :=
  h.mono fun id hid g es hL => by rw [List.getElem?_set_ne (fun e : i = id => hi (by rw [e]; exact hid))]; exact hL
theorem OwnE.app {L : List AObj} {T : TypeId} {z : Nat} {b : Su} {es2 : List AV} {S2 : List Nat} (k : OwnE L T z b es2 S2) : ∀ {a : Su} {es : List AV} {S : List Nat}, OwnE L T z a es S → OwnE L T z (a.app b) (es ++ es2) (S ++ S2)
  | nil, es, S, h => by obtain ⟨rfl, rfl⟩ := h; simpa [Su.app] using k
  | cons e c r, es, S, h => by
    rw [OwnE_cons] at h
    obtain ⟨x, es', S1, S3, rfl, rfl, h3, h4⟩ := h
    show OwnE L T z (cons e c (r.app b)) _ _
    rw [OwnE_cons]
    exact ⟨x, es' ++ es2, S1, S3 ++ S2, rfl, by simp, h3, OwnE.app k h4⟩
theorem OwnE.one {L : List AObj} {T : TypeId} {z : Nat} {e : Su} {x : AV} {S : List Nat} (h : OwnR L T z e x S) (c : Int × Int) : OwnE L T z (cons e c nil) [.agg (x :: pay c)] S := by
  rw [OwnE_cons]
  exact ⟨x, [], S, [], rfl, by simp, h, rfl, rfl⟩

/-- Rows of a call's own, as values that are only read. -/
theorem OwnE.view {L : List AObj} {T : TypeId} {z : Nat} : ∀ {a : Su} {es : List AV} {S : List Nat}, OwnE L T z a es S →
    ∀ (i : Nat) e y, es[i]? = some e → (elems a)[i]? = some y → y.cells.length = e.cells.length ∧ ∀ (j : Nat) c d, e.cells[j]? = some c → y.cells[j]? = some d → (∀ xs, c ≠ .sl true xs) ∧ Vw L c d
  | nil, es, S, h, i, e, y, he, hy => by simp [elems] at hy
  | cons e c r, es, S, h, i, e', y, he, hy => by
    rw [OwnE_cons] at h
    obtain ⟨x, es', S1, S2, rfl, rfl, h3, h4⟩ := h
    cases i with
    | succ i => exact h4.view i e' y (by simpa using he) (by simpa [elems] using hy)
    | zero =>
      simp [elems] at he hy
      subst he hy
      refine ⟨rfl, fun j c' d hc hd => ?_⟩
      cases j with
      | zero =>
        simp [AV.cells] at hc hd
        subst hc hd
        refine ⟨h3.form.2.2.2.2.1, ?_⟩
        rcases h3 with ⟨rfl, rfl, _⟩ | ⟨id, g, es1, S3, rfl, k2, _, k4⟩
        · exact Vw.nil false
        · refine Vw.ref k2 rfl (by rw [elems_length, k4.length]) fun i e y he hy => ?_
          obtain ⟨m1, m2⟩ := k4.view i e y he hy
          refine ⟨m1, fun j c d hc hd => ?_⟩
          obtain ⟨n1, n2⟩ := m2 j c d hc hd
          have : viewC id ([] ++ [(i, j)]) g c = c := by
            unfold viewC
            split
            · exact absurd rfl (n1 _)
            · rfl
          rw [this]; exact n2
      | succ j =>
        simp only [AV.cells, List.getElem?_cons_succ] at hc hd
        rw [hc] at hd; cases hd
        have hp : pureB c' = true := pureL_mem.1 (pay_pure c) c' (List.mem_of_getElem? hc)
        refine ⟨?_, .pur (.of hp)⟩
        rintro xs rfl
        have := List.mem_of_getElem? hc
        simp [pay] at this
theorem OwnR.view {L : List AObj} {T : TypeId} {z : Nat} {a : Su} {x : AV} {S : List Nat} (h : OwnR L T z a x S) (o : Bool) : Vw L x (.sl o (elems a)) := by
  rcases h with ⟨rfl, rfl, _⟩ | ⟨id, g, es1, S3, rfl, k2, _, k4⟩
  · exact Vw.nil o
  · refine Vw.ref k2 rfl (by rw [elems_length, k4.length]) fun i e y he hy => ?_
    obtain ⟨m1, m2⟩ := k4.view i e y he hy
    refine ⟨m1, fun j c d hc hd => ?_⟩
    obtain ⟨n1, n2⟩ := m2 j c d hc hd
    have : viewC id ([] ++ [(i, j)]) g c = c := by
      unfold viewC
      split
      · exact absurd rfl (n1 _)
      · rfl
    rw [this]; exact n2
end Su
end Go.Proofs.Ytminjhhabonjaaa.K
