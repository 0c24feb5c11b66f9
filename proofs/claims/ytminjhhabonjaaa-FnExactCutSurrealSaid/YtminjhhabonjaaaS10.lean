/-
  Surreals: what a law is given; the first laws.
-/
import Derived.Test.YtminjhhabonjaaaS5
import Derived.Test.YtminjhhabonjaaaS9
namespace Go.Proofs.Ytminjhhabonjaaa
open Go K Su
set_option linter.unusedSimpArgs false
set_option linter.unusedVariables false
set_option maxRecDepth 8000
set_option maxHeartbeats 400000

theorem od_of (n : Nat) (h : ∀ (xs : List AV), HasC Try.prog n 83 xs → ∃ (a : Su) (c : Int × Int), xs = [.sl false (elems a), .int .i64 c.1, .int .i64 c.2] ∧ fit a) :
    ∀ es : List AV, es.length ≤ maxLen → (∀ x ∈ es, HasC Try.prog n 83 x.cells ∧ (∃ cs, x = .agg cs)) → ∃ a : Su, es = elems a ∧ fit a
  | [], _, _ => ⟨.nil, rfl, trivial⟩
  | x :: es, hl, hx => by
    obtain ⟨a, h1, h2⟩ := od_of n h es (by simp at hl; omega) (fun y hy => hx y (List.mem_cons_of_mem _ hy))
    obtain ⟨h3, cs, rfl⟩ := hx _ (List.mem_cons_self ..)
    obtain ⟨e, c, h4, h5⟩ := h _ h3
    simp only [AV.cells] at h4
    subst h4 h1
    exact ⟨.cons e c a, rfl, by simp [elems_length] at hl; omega, h5, h2⟩

theorem laws_odC : ∀ (n : Nat), (∀ (xs : List AV), HasC Try.prog n 83 xs → ∃ (a : Su) (c : Int × Int), xs = [.sl false (elems a), .int .i64 c.1, .int .i64 c.2] ∧ fit a) ∧
    (∀ xs, HasC Try.prog n 35 xs → ∃ a : Su, xs = [.sl false (elems a)] ∧ fit a) ∧
    (∀ xs, HasC Try.prog n 33 xs → ∃ a : Su, xs = [.sl false (elems a)] ∧ fit a)
  | 0 => ⟨fun xs h => by simp [HasC] at h, fun xs h => by simp [HasC] at h, fun xs h => by simp [HasC] at h⟩
  | n + 1 => by
    obtain ⟨ih1, ih2, ih3⟩ := laws_odC n
    refine ⟨fun xs h => ?_, fun xs h => ?_, fun xs h => ?_⟩
    · have hu := Try.underlying83
      simp only [HasC, hu] at h
      obtain ⟨hl, hf⟩ := h
      rw [ty_c83] at hl
      match xs, hl with
      | [x, y, z], _ =>
        have h0 := hf _ (List.mem_cons_self ..)
        have h1 := hf _ (List.mem_cons_of_mem _ (List.mem_cons_self ..))
        simp only [ty_c35, List.drop_zero, List.take_succ_cons, List.take_zero] at h0
        simp only [ty_c81, List.drop_succ_cons, List.drop_zero, List.take_succ_cons, List.take_zero] at h1
        obtain ⟨a, e0, f0⟩ := ih2 _ h0
        obtain ⟨_, g0⟩ := h1.field ty_f81_0
        obtain ⟨_, g1⟩ := h1.field ty_f81_1
        obtain ⟨c, e1, _⟩ := g0.int Try.underlying3
        obtain ⟨d, e2, _⟩ := g1.int Try.underlying3
        rw [ty_c3] at e1 e2
        simp at e0 e1 e2
        subst e0 e1 e2
        exact ⟨a, (c, d), rfl, f0⟩
    · have hu := Try.underlying35
      simp only [HasC, hu] at h
      obtain ⟨hl, hf⟩ := h
      rw [ty_c35] at hl
      match xs, hl with
      | [x], _ =>
        have h0 := hf _ (List.mem_cons_self ..)
        simp only [ty_c33, List.drop_zero, List.take_succ_cons, List.take_zero] at h0
        exact ih3 _ h0
    · have hu := Try.underlying33
      simp only [HasC, hu] at h
      obtain ⟨es, rfl, hl, hx⟩ := h
      obtain ⟨a, rfl, hf⟩ := od_of n ih1 es hl (fun x hx' => ⟨(hx x hx').1, (hx x hx').2.2.1 ty_a83⟩)
      exact ⟨a, rfl, hf⟩

theorem laws_isOd {x : AV} (h : IsOf Try.prog 35 x) : ∃ a : Su, x = av a ∧ fit a := by
  obtain ⟨n, cs, rfl, _, h⟩ := h.agg ty_a35
  obtain ⟨a, rfl, hf⟩ := (laws_odC n).2.1 _ h
  exact ⟨a, rfl, hf⟩

/-- The laws' own copy, as a value. -/
theorem toSurreal_ok (a : Su) (hs : a.sz ≤ 1048576) : Ct Try.prog 12 [av a] [] (av a) [] := by
  obtain ⟨x, M, hc, S, ho, _, _⟩ := toSurreal_of (toS_ok a hs)
  exact hc.toV (Vw.agg (.cons (ho.view false) .nil))
theorem szSurreal_ok (a : Su) (l : Int) (hf : fit a) (h0 : 0 ≤ l) (h1 : l ≤ 1048576) : Ct Try.prog 10 [av a, .int .i64 l] [] (.int .i64 (szR a.sz l)) [] :=
  szSurreal_of szR_neg (szTermS_ok a l hf h0 h1)
theorem eqSurreal_ok (a b : Su) (ha : a.sz ≤ 1048576) : Ct Try.prog 14 [av a, av b] [] (.bool (eqT a b)) [] := eqSurreal_of (eqTermS_ok a b ha)

end Go.Proofs.Ytminjhhabonjaaa
