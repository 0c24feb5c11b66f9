/-
  Ordinals: what a law is given; the first laws.
-/
import Derived.Test.YtminjhhabonjaaaG5
import Derived.Test.YtminjhhabonjaaaG9
namespace Go.Proofs.Ytminjhhabonjaaa
open Go K Od
set_option linter.unusedSimpArgs false
set_option linter.unusedVariables false
set_option maxRecDepth 8000
set_option maxHeartbeats 400000

theorem od_of (n : Nat) (h : ∀ (xs : List AV), HasC Try.prog n 116 xs → ∃ (a : Od) (c : Int), xs = [.sl false (elems a), .int .i64 c] ∧ fit a) :
    ∀ es : List AV, es.length ≤ maxLen → (∀ x ∈ es, HasC Try.prog n 116 x.cells ∧ (∃ cs, x = .agg cs)) → ∃ a : Od, es = elems a ∧ fit a
  | [], _, _ => ⟨.nil, rfl, trivial⟩
  | x :: es, hl, hx => by
    obtain ⟨a, h1, h2⟩ := od_of n h es (by simp at hl; omega) (fun y hy => hx y (List.mem_cons_of_mem _ hy))
    obtain ⟨h3, cs, rfl⟩ := hx _ (List.mem_cons_self ..)
    obtain ⟨e, c, h4, h5⟩ := h _ h3
    simp only [AV.cells] at h4
    subst h4 h1
    exact ⟨.cons e c a, rfl, by simp [elems_length] at hl; omega, h5, h2⟩

theorem laws_odC : ∀ (n : Nat), (∀ (xs : List AV), HasC Try.prog n 116 xs → ∃ (a : Od) (c : Int), xs = [.sl false (elems a), .int .i64 c] ∧ fit a) ∧
    (∀ xs, HasC Try.prog n 71 xs → ∃ a : Od, xs = [.sl false (elems a)] ∧ fit a) ∧
    (∀ xs, HasC Try.prog n 69 xs → ∃ a : Od, xs = [.sl false (elems a)] ∧ fit a)
  | 0 => ⟨fun xs h => by simp [HasC] at h, fun xs h => by simp [HasC] at h, fun xs h => by simp [HasC] at h⟩
  | n + 1 => by
    obtain ⟨ih1, ih2, ih3⟩ := laws_odC n
    refine ⟨fun xs h => ?_, fun xs h => ?_, fun xs h => ?_⟩
    · have hu := Try.underlying116
      simp only [HasC, hu] at h
      obtain ⟨hl, hf⟩ := h
      rw [ty_c116] at hl
      match xs, hl with
      | [x, y], _ =>
        have h0 := hf _ (List.mem_cons_self ..)
        have h1 := hf _ (List.mem_cons_of_mem _ (List.mem_cons_self ..))
        simp only [ty_c71, List.drop_zero, List.take_succ_cons, List.take_zero] at h0
        simp only [ty_c3, List.drop_succ_cons, List.drop_zero, List.take_succ_cons, List.take_zero] at h1
        obtain ⟨a, e0, f0⟩ := ih2 _ h0
        obtain ⟨c, e1, _⟩ := h1.int Try.underlying3
        simp at e0 e1
        subst e0 e1
        exact ⟨a, c, rfl, f0⟩
    · have hu := Try.underlying71
      simp only [HasC, hu] at h
      obtain ⟨hl, hf⟩ := h
      rw [ty_c71] at hl
      match xs, hl with
      | [x], _ =>
        have h0 := hf _ (List.mem_cons_self ..)
        simp only [ty_c69, List.drop_zero, List.take_succ_cons, List.take_zero] at h0
        exact ih3 _ h0
    · have hu := Try.underlying69
      simp only [HasC, hu] at h
      obtain ⟨es, rfl, hl, hx⟩ := h
      obtain ⟨a, rfl, hf⟩ := od_of n ih1 es hl (fun x hx' => ⟨(hx x hx').1, (hx x hx').2.2.1 ty_a116⟩)
      exact ⟨a, rfl, hf⟩

theorem laws_isOd {x : AV} (h : IsOf Try.prog 71 x) : ∃ a : Od, x = av a ∧ fit a := by
  obtain ⟨n, cs, rfl, _, h⟩ := h.agg ty_a71
  obtain ⟨a, rfl, hf⟩ := (laws_odC n).2.1 _ h
  exact ⟨a, rfl, hf⟩

/-- The laws' own copy, as a value. -/
theorem toOrdinal_ok (a : Od) (hs : a.sz ≤ 1048576) : Ct Try.prog 56 [av a] [] (av a) [] := by
  obtain ⟨x, M, hc, S, ho, _, _⟩ := toOrdinal_of (toS_ok a hs)
  exact hc.toV (Vw.agg (.cons (ho.view false) .nil))
theorem szOrdinal_ok (a : Od) (l : Int) (hf : fit a) (h0 : 0 ≤ l) (h1 : l ≤ 1048576) : Ct Try.prog 52 [av a, .int .i64 l] [] (.int .i64 (szR a.sz l)) [] :=
  szOrdinal_of szR_neg (szTermS_ok a l hf h0 h1)
theorem eqOrdinal_ok (a b : Od) (ha : a.sz ≤ 1048576) : Ct Try.prog 59 [av a, av b] [] (.bool (eqT a b)) [] := eqOrdinal_of (eqTermS_ok a b ha)

end Go.Proofs.Ytminjhhabonjaaa
