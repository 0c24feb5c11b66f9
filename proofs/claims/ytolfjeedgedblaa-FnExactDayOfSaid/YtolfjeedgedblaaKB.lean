/-
  A logic of values for Go's functions (part 10b): appending to a row of the call's own.
-/
import Derived.Test.YtolfjeedgedblaaKA
namespace Go.Proofs.Ytolfjeedgedblaa.K
set_option linter.unusedVariables false
set_option linter.unusedSimpArgs false
open Go Go.RowKit

theorem rowRep_append {γ γ2 : Nat → Gh} {L L2 : List AObj} (E : Ext γ L γ2 L2) {id sz : Nat} {es ys : List AV} {xs news : List Value} {cur' : Array Value}
    (hes : ∀ e ∈ es, e.cells.length = sz) (hys : ∀ e ∈ ys, e.cells.length = sz) (n1 : noOwn es = true) (n2 : noOwn ys = true) (hxl : xs.length = es.length * sz)
    (hx : ∀ (i : Nat) e (j : Nat) x, es[i]? = some e → e.cells[j]? = some x → ∃ v, xs[i * sz + j]? = some v ∧ v.oneCell' = true ∧ RV γ L x v)
    (hn : ∀ (i : Nat) e (j : Nat) x, ys[i]? = some e → e.cells[j]? = some x → ∃ v, news[i * sz + j]? = some v ∧ v.oneCell' = true ∧ RV γ L x v)
    (hcur : ∀ (q : Nat) u, (xs ++ news)[q]? = some u → cur'[q]? = some u) : RowRep γ2 L2 id [] sz (es ++ ys) cur' := by
  refine ⟨fun e he => ?_, fun i e j x he hx' => ?_⟩
  · rcases List.mem_append.1 he with h | h
    · exact hes e h
    · exact hys e h
  by_cases hi : i < es.length
  · rw [List.getElem?_append_left hi] at he
    obtain ⟨v, h1, h2, h3⟩ := hx i e j x he hx'
    refine ⟨v, hcur _ _ ?_, h2, (noOwn_CV n1 he hx').2 (h3.mono E)⟩
    rw [List.getElem?_append_left (List.getElem?_eq_some_iff.1 h1).1]; exact h1
  · rw [List.getElem?_append_right (by omega)] at he
    obtain ⟨v, h1, h2, h3⟩ := hn _ e j x he hx'
    refine ⟨v, hcur _ _ ?_, h2, (noOwn_CV n2 he hx').2 (h3.mono E)⟩
    have e1 : i * sz + j = xs.length + ((i - es.length) * sz + j) := by
      rw [hxl, ← Nat.add_assoc, ← Nat.add_mul]; congr 2; omega
    rw [e1, List.getElem?_append_right (by omega), Nat.add_sub_cancel_left]
    exact h1

/-- What an append onto a row of the call's own comes to. -/
def appendA (P : Program) (s : St) (t : TypeId) (x y : AV) : Option (AV × List AObj) :=
  match x, y, P.underlying t with
  | .ref id [] g n, .sl _ ys, some (.slice e) =>
    match s.L[id]? with
    | some (.vec T sz g' es) =>
      if (g = g' ∧ T = e ∧ sz = P.cellsOf e) ∧ (n = es.length ∧ n + ys.length ≤ 137438953472 ∧ (decide (P.bytesOf e ≤ 1024)) = true) ∧ (ys ≠ [] ∧ 0 < sz) ∧ (ys.all (fun z => z.cells.length == sz) = true ∧ (P.info? e).isSome) ∧ ((zeroOf P e).map (·.cells.size) = some sz) ∧ noOwn es = true ∧ noOwn ys = true then
        some (.ref id [] (g + 1) (n + ys.length), s.L.set id (.vec T sz (g + 1) (es ++ ys)))
      else none
    | _ => none
  | _, _, _ => none

theorem append_sound {P : Program} {o : Oper} {s : St} {t : TypeId} {x y : Operand} {r : AV} {L' : List AObj}
    (ho : o.op = .call { callee := .builtin .append, args := #[x, y], argTypes := #[t, t] }) (h : appendA P s t (s.ev x) (s.ev y) = some (r, L')) :
    OpS P o s ({ s with L := L' }.put o.dst r) := by
  intro γ a w K Q hr hK
  have hvx := hr.ev x
  have hvy := hr.ev y
  unfold appendA at h
  split at h
  case h_2 => cases h
  rename_i id g n own ys e hx hy ht
  split at h
  case h_2 => cases h
  rename_i T sz g' es hL
  split at h
  case isFalse => cases h
  rename_i hc
  obtain ⟨⟨rfl, hTe, hcs⟩, ⟨rfl, hlen, hbw⟩, ⟨hne, hsz⟩, ⟨hyl, hi⟩, hz, n1, n2⟩ := hc
  obtain rfl : e = T := hTe.symm
  cases h
  rw [hx] at hvx
  rw [hy] at hvy
  generalize hex : a.eval x = vx at hvx
  generalize hey : a.eval y = vy at hvy
  have hyl' : ∀ z ∈ ys, z.cells.length = sz := fun z hz => by simpa using List.all_eq_true.1 hyl z hz
  obtain ⟨zv, hzv, hzs⟩ := Option.map_eq_some_iff.1 hz
  obtain ⟨ti, hti, hzero⟩ := Option.bind_eq_some_iff.1 hzv
  have htsz : ti.size = sz := by rw [hcs]; simp [Program.cellsOf, hti]
  have hby : ti.bytes ≤ 1024 := by
    have h1 : P.bytesOf e ≤ 1024 := by simpa using hbw
    simpa [Program.bytesOf, hti] using h1
  cases hvy with
  | sl _ _ A n' c sz' vals hn' hc' hsz' h2 h1 h3 =>
    subst hn'
    obtain ⟨e0, ys', rfl⟩ : ∃ e0 ys', ys = e0 :: ys' := by cases ys with | nil => exact absurd rfl hne | cons a b => exact ⟨a, b, rfl⟩
    generalize hY : e0 :: ys' = Y at *
    have he0 : Y[0]? = some e0 := by rw [← hY]; rfl
    have hszz : sz' = sz := by rw [← hsz' e0 (List.mem_of_getElem? he0), hyl' e0 (List.mem_of_getElem? he0)]
    subst hszz
    obtain ⟨c0, hc0⟩ : ∃ c0, e0.cells[0]? = some c0 := ⟨_, List.getElem?_eq_getElem (by rw [hyl' e0 (List.mem_of_getElem? he0)]; exact hsz)⟩
    obtain ⟨b2, o2, rfl, arr2, T2, fr2, hg2⟩ : ∃ b2 o2, A = some ⟨b2, o2, none⟩ ∧ ∃ arr2 T2 fr2, γ b2 = .ro (.cells arr2 T2 fr2) := by
      have := h2 0 e0 0 c0 he0 hc0
      unfold roCell at this
      split at this
      · rename_i b2 o2
        split at this
        · rename_i arr2 T2 fr2 hg
          exact ⟨b2, o2, rfl, arr2, T2, fr2, hg⟩
        · cases this
      · cases this
    have hcell2 : ∀ (i : Nat) z (j : Nat) q, Y[i]? = some z → z.cells[j]? = some q → arr2[o2 + (i * sz' + j)]? = some (vals i j) := by
      intro i z j q hi hj
      have := h2 i z j q hi hj
      simpa [roCell, hg2] using this
    let news : List Value := (List.range (Y.length * sz')).map fun q => vals (q / sz') (q % sz')
    have hnl : news.length = Y.length * sz' := by simp [news]
    have hnget : ∀ (q : Nat) u, news[q]? = some u → ∃ z y, Y[q / sz']? = some z ∧ z.cells[q % sz']? = some y ∧ u = vals (q / sz') (q % sz') := by
      intro q u hq
      have hlt : q < Y.length * sz' := by have := (List.getElem?_eq_some_iff.1 hq).1; rw [hnl] at this; exact this
      simp only [news, List.getElem?_map, Option.map_eq_some_iff] at hq
      obtain ⟨q', hq', rfl⟩ := hq
      have : q' = q := by simp [hlt] at hq'; omega
      subst this
      have hi : q' / sz' < Y.length := Nat.div_lt_of_lt_mul (by rw [Nat.mul_comm]; exact hlt)
      have hY2 : Y[q' / sz']? = some Y[q' / sz'] := List.getElem?_eq_getElem hi
      have hj : q' % sz' < (Y[q' / sz']).cells.length := by rw [hyl' _ (List.getElem_mem hi)]; exact Nat.mod_lt _ hsz
      exact ⟨_, _, hY2, List.getElem?_eq_getElem hj, rfl⟩
    have hnews : ∀ (q : Nat) u, news[q]? = some u → w.cell? ((⟨b2, o2, none⟩ : Addr).add q) = some u := by
      intro q u hq
      obtain ⟨z, y, hz, hy, rfl⟩ := hnget q u hq
      have h5 := hcell2 _ _ _ _ hz hy
      have h6 : q / sz' * sz' + q % sz' = q := by rw [Nat.mul_comm]; exact Nat.div_add_mod q sz'
      rw [h6] at h5
      have hadd : (⟨b2, o2, none⟩ : Addr).add q = ⟨b2, o2 + q, none⟩ := by unfold Addr.add; split <;> simp_all
      have hh := hr.inv.ro _ _ hg2
      rw [hadd]
      simp [World.cell?, hh, h5]
    have hnone : ∀ u ∈ news, u.oneCell' = true := by
      intro u hu
      obtain ⟨q, hq, rfl⟩ := List.getElem_of_mem hu
      obtain ⟨z, y, hz, hy, he⟩ := hnget q _ (List.getElem?_eq_getElem hq)
      rw [he]; exact h1 _ _ _ _ hz hy
    have hnrep : ∀ (i : Nat) z (j : Nat) y, Y[i]? = some z → z.cells[j]? = some y → ∃ v, news[i * sz' + j]? = some v ∧ v.oneCell' = true ∧ RV γ s.L y v := by
      intro i z j y hz hy
      have hjl : j < sz' := by rw [← hyl' z (List.mem_of_getElem? hz)]; exact (List.getElem?_eq_some_iff.1 hy).1
      have hil : i < Y.length := (List.getElem?_eq_some_iff.1 hz).1
      have hlt : i * sz' + j < Y.length * sz' := by
        have : (i + 1) * sz' ≤ Y.length * sz' := Nat.mul_le_mul_right _ hil
        rw [Nat.add_mul, Nat.one_mul] at this; omega
      have hd : (i * sz' + j) / sz' = i := by rw [Nat.mul_comm, Nat.mul_add_div hsz, Nat.div_eq_of_lt hjl, Nat.add_zero]
      have hm : (i * sz' + j) % sz' = j := by rw [Nat.mul_comm, Nat.mul_add_mod, Nat.mod_eq_of_lt hjl]
      refine ⟨vals i j, ?_, h1 _ _ _ _ hz hy, h3 _ _ _ _ hz hy⟩
      simp [news, hlt, hd, hm]
    have hlt := (List.getElem?_eq_some_iff.1 hL).1
    -- the end, once the append's run is known
    have fin : ∀ (b' c' : Nat) (cur' : Array Value) (w' : World) (xs : List Value),
        (Builtin.append_ #[t, t] o.type #[vx, .slice (some ⟨b2, o2, none⟩) Y.length c]).run P w = .ok (.slice (some ⟨b', 0, none⟩) (es.length + Y.length) c') w' →
        (∀ k, k < w.heap.size → (∀ p c, γ k ≠ .ow id p c) → w'.heap[k]? = w.heap[k]?) → w.heap.size ≤ w'.heap.size → w'.os = w.os → w'.tape = w.tape → w'.output = w.output →
        w'.heap[b']? = some (.cells cur' e (0, 0)) → ((∃ c, γ b' = .ow id [] c) ∨ w.heap.size ≤ b') → cur'.size = c' * sz' → es.length + Y.length ≤ c' → c' ≤ maxLen →
        (∀ e ∈ es, e.cells.length = sz') → xs.length = es.length * sz' →
        (∀ (i : Nat) e (j : Nat) x, es[i]? = some e → e.cells[j]? = some x → ∃ v, xs[i * sz' + j]? = some v ∧ v.oneCell' = true ∧ RV γ s.L x v) →
        (∀ (q : Nat) u, (xs ++ news)[q]? = some u → cur'[q]? = some u) → o.wp P a w K Q := by
      intro b' c' cur' w' xs hrun f1 f2 f3 f4 f5 f6 f7 f8 f9 f10 f11 f12 f13 f14
      obtain ⟨E, hI, hS⟩ := hr.inv.regen (es2 := es ++ Y) hL f1 f2 f3 f4 f5 f6 f7 f8 (by simpa using f9) f10 (fun E => rowRep_append E f11 hyl' n1 n2 f12 f13 hnrep f14)
      unfold Oper.wp execOp
      simp only [ho, resolve, invoke, builtin, Sem.run_bind, Sem.run_pure, Result.andThen_ok, List.map_toArray, List.map_cons, List.map_nil, hex, hey, hrun]
      refine hK _ _ _ ((hr.mono E hI).put o.dst (.ref _ _ _ _ _ ?_ rfl)) (by rw [St.put_L]; exact E) hS
      unfold RefOk
      simp only [List.getElem?_set_self hlt]
      exact ⟨Nat.le_refl _, fun _ => ⟨es ++ Y, rfl, by simp, .inr ⟨b', c', rfl, by simp [reG]⟩⟩⟩
    have hmax : es.length + Y.length ≤ maxLen := by unfold maxLen; omega
    have hYpos : 0 < Y.length := by have := (List.getElem?_eq_some_iff.1 he0).1; omega
    cases hvx with
    | ref _ _ _ _ _ hok ho1 =>
      obtain ⟨T3, sz3, es3, es', hL3, hs3, hn3, hv⟩ := hok.form (by simp [eptrNow, hL])
      rw [hL] at hL3; cases hL3
      simp [sub] at hs3
      subst hs3
      have hnb : (es.length + Y.length) * ti.bytes ≤ 140737488355328 := by
        calc (es.length + Y.length) * ti.bytes ≤ 137438953472 * 1024 := Nat.mul_le_mul hlen hby
          _ = 140737488355328 := by rfl
      rcases hv with ⟨rfl, rfl, hn0, hnolab⟩ | ⟨b, cap, rfl, hb⟩
      · have hrun := run_append_nil (P := P) w t o.type e ti zv ht hti hzero ⟨b2, o2, none⟩ Y.length c news (by rw [hnl, htsz]) hnews hYpos (by omega) (by simp at hnb; omega)
        have hge := grownCap_ge w Y.length 0 e
        have hcm : grownCap w Y.length 0 e ≤ maxLen := grownCap_le_maxLen w Y.length 0 e (by simpa using hmax)
        refine fin w.heap.size (grownCap w Y.length 0 e) _ _ [] (by simpa using hrun) (fun k hk _ => RowKit.Below.heap_alloc w.drew _ k hk) (by simp) rfl rfl rfl (heap_alloc_new w.drew _) (.inr (Nat.le_refl _)) ?_ (by simpa using hge) hcm (by simp) (by simp) (by simp) ?_
        · simp only [Array.size_append, List.size_toArray, size_zeroCells, hzs, hnl, ← Nat.add_mul]
          congr 1; omega
        · intro q u hq
          simp only [List.nil_append] at hq
          have := (List.getElem?_eq_some_iff.1 hq).1
          rw [Array.getElem?_append_left (by simpa using this)]
          simpa using hq
      · obtain ⟨arr, s3, T', harr, hTs, hasz, hle, hcm, hrow⟩ := hr.inv.rowCell hL rfl hb
        obtain ⟨hT', rfl⟩ := hTs rfl
        obtain rfl : e = T' := hT'.symm
        have hxl : (arr.toList.take (es.length * s3)).length = es.length * s3 := by
          simp only [List.length_take, Array.length_toList, hasz]
          exact Nat.min_eq_left (Nat.mul_le_mul_right _ hle)
        have hxget : ∀ (q : Nat) u, (arr.toList.take (es.length * s3))[q]? = some u → arr[q]? = some u := by
          intro q u hq
          rw [List.getElem?_take] at hq
          split at hq
          · simpa using hq
          · cases hq
        have hxrep : ∀ (i : Nat) e (j : Nat) x, es[i]? = some e → e.cells[j]? = some x → ∃ v, (arr.toList.take (es.length * s3))[i * s3 + j]? = some v ∧ v.oneCell' = true ∧ RV γ s.L x v := by
          intro i e j x he hx
          obtain ⟨v, k1, k2, k3⟩ := hrow.2 i e j x he hx
          refine ⟨v, ?_, k2, (noOwn_CV n1 he hx).1 k3⟩
          have hjl : j < s3 := by rw [← hrow.1 e (List.mem_of_getElem? he)]; exact (List.getElem?_eq_some_iff.1 hx).1
          have hil : i < es.length := (List.getElem?_eq_some_iff.1 he).1
          have hlt : i * s3 + j < es.length * s3 := by
            have : (i + 1) * s3 ≤ es.length * s3 := Nat.mul_le_mul_right _ hil
            rw [Nat.add_mul, Nat.one_mul] at this; omega
          rw [List.getElem?_take, if_pos hlt]
          simpa using k1
        have hblt : b < w.heap.size := (Array.getElem?_eq_some_iff.1 harr).1
        by_cases hroom : es.length + Y.length ≤ cap
        · have hfit : es.length * ti.size + news.length ≤ arr.size := by rw [hnl, hasz, htsz, ← Nat.add_mul]; exact Nat.mul_le_mul_right _ hroom
          have hrun := run_append_room (P := P) w t o.type e ti ht hti b es.length cap arr harr ⟨b2, o2, none⟩ Y.length c news (by rw [hnl, htsz]) hnews hnone hroom hfit
          rw [htsz] at hrun hfit
          refine fin b cap _ _ (arr.toList.take (es.length * s3)) hrun (fun k hk hno => setRow_other w b k _ (fun he => by subst he; exact hno _ _ hb)) (by simp [World.setRow]) rfl rfl rfl (setRow_heap w b arr _ e (0, 0) harr) (.inl ⟨cap, hb⟩) ?_ hroom hcm hrow.1 hxl hxrep ?_
          · simp only [List.size_toArray, List.length_append, List.length_take, List.length_drop, Array.length_toList]
            rw [← hasz]; omega
          · intro q u hq
            have hlt := (List.getElem?_eq_some_iff.1 hq).1
            simp only [List.getElem?_toArray]
            rw [List.getElem?_append_left hlt]; exact hq
        · have holds : ∀ (j : Nat) u, (arr.toList.take (es.length * s3))[j]? = some u → w.cell? ((⟨b, 0, none⟩ : Addr).add j) = some u := by
            intro j u hj
            have hadd : (⟨b, 0, none⟩ : Addr).add j = ⟨b, j, none⟩ := by unfold Addr.add; split <;> simp_all
            rw [hadd, cell_of_row w b j arr e (0, 0) harr]
            exact hxget j u hj
          have hrun := run_append_grow (P := P) w t o.type e ti zv ht hti hzero ⟨b, 0, none⟩ es.length cap (arr.toList.take (es.length * s3)) (by rw [hxl, htsz]) holds ⟨b2, o2, none⟩ Y.length c news (by rw [hnl, htsz]) hnews (by omega) (by omega) (growslice_fits (by omega) hnb)
          have hge := grownCap_ge w (es.length + Y.length) cap e
          have hcm2 : grownCap w (es.length + Y.length) cap e ≤ maxLen := grownCap_le_maxLen w _ cap e hmax
          refine fin w.heap.size (grownCap w (es.length + Y.length) cap e) _ _ (arr.toList.take (es.length * s3)) hrun (fun k hk _ => RowKit.Below.heap_alloc w.drew _ k hk) (by simp) rfl rfl rfl (heap_alloc_new w.drew _) (.inr (Nat.le_refl _)) ?_ hge hcm2 hrow.1 hxl hxrep ?_
          · simp only [Array.size_append, List.size_toArray, size_zeroCells, hzs, hnl, hxl, ← Nat.add_mul]
            congr 1; omega
          · intro q u hq
            have hlt := (List.getElem?_eq_some_iff.1 hq).1
            rw [Array.getElem?_append_left (by simpa using hlt)]
            simpa using hq

end Go.Proofs.Ytolfjeedgedblaa.K
