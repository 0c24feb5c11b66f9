/-
  Fractions: the law of draws.
-/
import Derived.Test.YtolfjeedgedblaaF26
import Derived.Test.YtolfjeedgedblaaF27
import Derived.Test.YtolfjeedgedblaaF28
namespace Go.Proofs.Ytolfjeedgedblaa
open Go K
set_option linter.unusedSimpArgs false
set_option linter.unusedVariables false
set_option maxHeartbeats 3200000
set_option maxRecDepth 8000

theorem FnFractions_ok {a0 a1 : AV} (h0 : IsOf Try.prog 38 a0) (h1 : IsOf Try.prog 38 a1) : Ct Try.prog 12 [a0, a1] [] (.bool true) [] := by
  obtain ⟨l, rfl, hb, hl⟩ := laws_isBytes h0
  obtain ⟨k, rfl, _, hk⟩ := laws_isBytes h1
  have hbig := big_ok l k hl hk
  cases hB : (decide ((1048576 : Int) < l.length) || decide (1048576 - (l.length : Int) < k.length))
  case true =>
    rw [hB] at hbig
    refine Ct.by_ hmix [] Try.func12 rfl ?_
    simp only [run0, run1, run2, run3, run4, run5, run6, run7, run8, run9, run10, run11, run12, run13, run14, run15, run16, run17, run18, run19, run20, run21, run22, reduceCtorEq, Nat.reduceEqDiff, Nat.reduceAdd, Nat.reduceSub, Nat.reduceLeDiff, indexAddrA, indexRefA, appendA, strA, Nat.reduceMul, Nat.zero_mul, Nat.reduceMod, Int.reduceEq, Int.reduceLT, Int.reduceLE, Nat.reduceLT, Nat.lt_irrefl, Nat.reduceBEq, tys0, tys1, tys2, tys3, tys4, tys5, tys6, tys7, tys8, tys9, tys10, tys11, Try.ntmps12, Try.results12]
    refine RunL.callp rfl rfl ok_f35 hbig (by simp only [pureL, pureB, bytes_pure, Bool.and_self]) rfl ?_
    simp only [run0, run1, run2, run3, run4, run5, run6, run7, run8, run9, run10, run11, run12, run13, run14, run15, run16, run17, run18, run19, run20, run21, run22, reduceCtorEq, Nat.reduceEqDiff, Nat.reduceAdd, Nat.reduceSub, Nat.reduceLeDiff, indexAddrA, indexRefA, appendA, strA, Nat.reduceMul, Nat.zero_mul, Nat.reduceMod, Int.reduceEq, Int.reduceLT, Int.reduceLE, Nat.reduceLT, Nat.lt_irrefl, Nat.reduceBEq, tys0, tys1, tys2, tys3, tys4, tys5, tys6, tys7, tys8, tys9, tys10, tys11, Try.ntmps12, Try.results12]
    exact Fin.eq rfl rfl
  rw [hB] at hbig
  simp only [Bool.or_eq_false_iff, decide_eq_false_iff_not] at hB
  have hc : bytesOk l := ⟨by omega, hb⟩
  obtain ⟨a, b, c, d, hdraw⟩ := draw_ok l hc
  obtain ⟨s, t, ok1, i1, q1, z1⟩ := add_x a b c d
  obtain ⟨p, q, ok2, i2, q2, z2⟩ := mul_x a b c d
  obtain ⟨u, v, ok3, i3, q3⟩ := div_x a b c d
  obtain ⟨o, ok4, m, w, is, i4, q4, i5, z5⟩ := cmp_x a b c d
  obtain ⟨f, ok6, i6, q6, z6⟩ := floor_x a b
  cases ok1 <;> cases ok2
  · exact frCase0B l k a b c d s t p q u v o m w f ok3 ok4 is ok6 hbig hdraw i1 q1 i2 q2 i3 q3 i4 q4 i5 i6 q6 z5 z6
  · by_cases h : c = 0
    · exact frCase0C l k a b c d s t p q u v o m w f ok3 ok4 is ok6 hbig hdraw i1 q1 i2 q2 i3 q3 i4 q4 i5 i6 q6 z5 z6 (by simp [h])
    · exact frCase0A l k a b c d s t p q u v o m w f ok3 ok4 is ok6 hbig hdraw i1 q1 i2 q2 i3 q3 i4 q4 i5 i6 q6 z5 z6 (z2 rfl h) (by simp [h])
  · exact frCase1B l k a b c d s t p q u v o m w f ok3 ok4 is ok6 hbig hdraw i1 q1 i2 q2 i3 q3 i4 q4 i5 i6 q6 z5 z6 (z1 rfl)
  · by_cases h : c = 0
    · exact frCase1C l k a b c d s t p q u v o m w f ok3 ok4 is ok6 hbig hdraw i1 q1 i2 q2 i3 q3 i4 q4 i5 i6 q6 z5 z6 (z1 rfl) (by simp [h])
    · exact frCase1A l k a b c d s t p q u v o m w f ok3 ok4 is ok6 hbig hdraw i1 q1 i2 q2 i3 q3 i4 q4 i5 i6 q6 z5 z6 (z1 rfl) (z2 rfl h) (by simp [h])

end Go.Proofs.Ytolfjeedgedblaa
