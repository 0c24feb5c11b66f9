/-
  A logic of values for Go's functions (part 7): operations that make memory.
-/
import Derived.Test.YtolfjeedgedblaaK6
namespace Go.Proofs.Ytolfjeedgedblaa.K
set_option linter.unusedVariables false
set_option linter.unusedSimpArgs false
open Go Go.RowKit

theorem Inv.out {γ : Nat → Gh} {L : List AObj} {w : World} (h : Inv γ L w) {b : Nat} (hb : w.heap.size ≤ b) : γ b = .out := by
  cases hg : γ b with
  | out => rfl
  | ro o =>
    have := (Array.getElem?_eq_some_iff.1 (h.ro b o hg)).1
    omega
  | ow id p c =>
    obtain ⟨o, ho, _⟩ := h.ow b id p c hg
    have := (Array.getElem?_eq_some_iff.1 ho).1
    omega

theorem Inv.idlt {γ : Nat → Gh} {L : List AObj} {w : World} (h : Inv γ L w) {b id c : Nat} {p : Pth} (hb : γ b = .ow id p c) : id < L.length := by
  obtain ⟨o, ho, hr⟩ := h.ow b id p c hb
  unfold BlockRep at hr
  cases hL : L[id]? with
  | none => simp [hL] at hr
  | some x => exact (List.getElem?_eq_some_iff.1 hL).1

theorem CV.mono {γ γ' : Nat → Gh} {L L' : List AObj} (E : Ext γ L γ' L') {id : Nat} {q : Pth} {x : AV} {v : Value}
    (hlab : ∀ b c, γ b = .ow id q c → γ' b = .ow id q c) (hnil : ∀ b c, γ' b = .ow id q c → γ b = .ow id q c) (h : CV γ L id q x v) : CV γ' L' id q x v := by
  unfold CV at *
  split at h
  · rcases h with ⟨h1, h2, h3⟩ | ⟨b, c, h1, h2⟩
    · exact .inl ⟨h1, h2, fun b c hb => h3 b c (hnil b c hb)⟩
    · exact .inr ⟨b, c, h1, hlab b c h2⟩
  · exact h.mono E

/-- A step that only adds objects and blocks keeps what each block holds. -/
theorem BlockRep.grow {γ γ' : Nat → Gh} {L : List AObj} {X : List AObj} (E : Ext γ L γ' (L ++ X)) {o : Obj} {id c : Nat} {p : Pth} (hid : id < L.length)
    (hlab : ∀ b p c, γ b = .ow id p c → γ' b = .ow id p c) (hnil : ∀ b p c, γ' b = .ow id p c → γ b = .ow id p c)
    (h : BlockRep γ L o id p c) : BlockRep γ' (L ++ X) o id p c := by
  unfold BlockRep at *
  rw [List.getElem?_append_left hid]
  split at h
  · rename_i T cs hL
    obtain ⟨h1, arr, h2, h3, h4⟩ := h
    refine ⟨h1, arr, h2, h3, fun j x hx => ?_⟩
    obtain ⟨v, a1, a2, a3⟩ := h4 j x hx
    exact ⟨v, a1, a2, a3.mono E⟩
  · rename_i T sz g es hL
    obtain ⟨es', s, arr, T', h1, h2, h3, h4, h5, h6, h7⟩ := h
    refine ⟨es', s, arr, T', h1, h2, h3, h4, h5, h6, h7.1, fun i e j x he hx => ?_⟩
    obtain ⟨v, a1, a2, a3⟩ := h7.2 i e j x he hx
    exact ⟨v, a1, a2, a3.mono E (fun b c hb => hlab b _ c hb) (fun b c hb => hnil b _ c hb)⟩
  · exact h
  · exact h.elim

def newG (γ : Nat → Gh) (n : Nat) (g : Gh) : Nat → Gh := fun b => if b = n then g else γ b

/-- A new block: it becomes the new object 'X' (or none), or is never written. -/
theorem Inv.alloc {γ : Nat → Gh} {L : List AObj} {w : World} (h : Inv γ L w) (o : Obj) (g : Gh) (X : List AObj)
    (hE : Ext γ L (newG γ w.heap.size g) (L ++ X) → Inv (newG γ w.heap.size g) (L ++ X) (w.alloc o)) (hg : (∃ o', g = .ro o' ) ∨ (∃ c, g = .ow L.length [] c) ∨ g = .out) :
    Ext γ L (newG γ w.heap.size g) (L ++ X) ∧ Inv (newG γ w.heap.size g) (L ++ X) (w.alloc o) ∧ Stp γ w (newG γ w.heap.size g) (w.alloc o) := by
  have hnew : γ w.heap.size = .out := h.out (Nat.le_refl _)
  have E : Ext γ L (newG γ w.heap.size g) (L ++ X) := by
    refine ⟨fun b o' hb => ?_, fun id o' hL => ⟨o', ?_, OStep.refl _⟩, fun b id p c hb => .inl ?_, ?_⟩
    · unfold newG; split
      · subst_vars; rw [hnew] at hb; cases hb
      · exact hb
    · rw [List.getElem?_append_left (List.getElem?_eq_some_iff.1 hL).1]; exact hL
    · unfold newG; split
      · subst_vars; rw [hnew] at hb; cases hb
      · exact hb
    · intro id T sz g' es T' sz' es' hL _ p e1 _ b c hb
      unfold newG at hb; split at hb
      · rcases hg with ⟨o', rfl⟩ | ⟨c', rfl⟩ | rfl
        · cases hb
        · cases hb
          have := (List.getElem?_eq_some_iff.1 hL).1
          omega
        · cases hb
      · exact hb
  refine ⟨E, hE E, rfl, rfl, rfl, by simp, E.ro, fun b hb ho => ⟨?_, heap_alloc_old w o b hb⟩⟩
  unfold newG
  rw [if_neg (by omega)]
  exact ho

theorem Inv.allocObj {γ : Nat → Gh} {L : List AObj} {w : World} (h : Inv γ L w) (o : Obj) (x : AObj) (c : Nat)
    (hr : Ext γ L (newG γ w.heap.size (.ow L.length [] c)) (L ++ [x]) → BlockRep (newG γ w.heap.size (.ow L.length [] c)) (L ++ [x]) o L.length [] c) :
    Ext γ L (newG γ w.heap.size (.ow L.length [] c)) (L ++ [x]) ∧ Inv (newG γ w.heap.size (.ow L.length [] c)) (L ++ [x]) (w.alloc o) ∧ Stp γ w (newG γ w.heap.size (.ow L.length [] c)) (w.alloc o) := by
  refine h.alloc o _ [x] (fun E => ?_) (.inr (.inl ⟨c, rfl⟩))
  have hnew : γ w.heap.size = .out := h.out (Nat.le_refl _)
  have old : ∀ {b id p c'}, newG γ w.heap.size (.ow L.length [] c) b = .ow id p c' → (b = w.heap.size ∧ id = L.length ∧ p = [] ∧ c' = c) ∨ (b ≠ w.heap.size ∧ γ b = .ow id p c') := by
    intro b id p c' hb
    unfold newG at hb
    split at hb
    · cases hb; exact .inl ⟨by assumption, rfl, rfl, rfl⟩
    · exact .inr ⟨by assumption, hb⟩
  have oldlt : ∀ {b id p c'}, γ b = .ow id p c' → b < w.heap.size := by
    intro b id p c' hb
    obtain ⟨o', ho', _⟩ := h.ow _ _ _ _ hb
    exact (Array.getElem?_eq_some_iff.1 ho').1
  refine ⟨?_, ?_, ?_, ?_, ?_⟩
  · intro b o' hb
    unfold newG at hb
    split at hb
    · cases hb
    · have h1 := h.ro b o' hb
      rw [heap_alloc_old w o b (Array.getElem?_eq_some_iff.1 h1).1]; exact h1
  · intro b id p c' hb
    rcases old hb with ⟨rfl, rfl, rfl, rfl⟩ | ⟨hne, hb⟩
    · exact ⟨o, heap_alloc_new w o, hr E⟩
    · obtain ⟨o', ho', hrep⟩ := h.ow _ _ _ _ hb
      have hid := h.idlt hb
      refine ⟨o', by rw [heap_alloc_old w o b (oldlt hb)]; exact ho', hrep.grow E hid ?_ ?_⟩
      · intro b' p' c'' hb'
        have := oldlt hb'
        unfold newG; rw [if_neg (by omega)]; exact hb'
      · intro b' p' c'' hb'
        rcases old hb' with ⟨_, h2, _, _⟩ | ⟨_, hb'⟩
        · omega
        · exact hb'
  · intro b b' id p c1 c2 hb hb'
    rcases old hb with ⟨h1, h2, h3, h4⟩ | ⟨hne, hb⟩ <;> rcases old hb' with ⟨k1, k2, k3, k4⟩ | ⟨kne, hb'⟩
    · omega
    · have := h.idlt hb'; omega
    · have := h.idlt hb; omega
    · exact h.inj _ _ _ _ _ _ hb hb'
  · intro id T cs hL
    by_cases hid : id < L.length
    · rw [List.getElem?_append_left hid] at hL
      obtain ⟨b, c', hb⟩ := h.box _ _ _ hL
      exact ⟨b, c', by have := oldlt hb; unfold newG; rw [if_neg (by omega)]; exact hb⟩
    · have hid2 : id = L.length := by
        have := (List.getElem?_eq_some_iff.1 hL).1
        simp at this; omega
      subst hid2
      exact ⟨w.heap.size, c, by simp [newG]⟩
  · intro id kt vt es hL
    by_cases hid : id < L.length
    · rw [List.getElem?_append_left hid] at hL
      obtain ⟨b, c', hb⟩ := h.map _ _ _ _ hL
      exact ⟨b, c', by have := oldlt hb; unfold newG; rw [if_neg (by omega)]; exact hb⟩
    · have hid2 : id = L.length := by
        have := (List.getElem?_eq_some_iff.1 hL).1
        simp at this; omega
      subst hid2
      exact ⟨w.heap.size, c, by simp [newG]⟩

/-- A new block that is never written. -/
theorem Inv.allocRo {γ : Nat → Gh} {L : List AObj} {w : World} (h : Inv γ L w) (o : Obj) :
    Ext γ L (newG γ w.heap.size (.ro o)) L ∧ Inv (newG γ w.heap.size (.ro o)) L (w.alloc o) ∧ Stp γ w (newG γ w.heap.size (.ro o)) (w.alloc o) := by
  have := h.alloc o (.ro o) [] (fun E => ?_) (.inl ⟨o, rfl⟩)
  · simpa using this
  have hnew : γ w.heap.size = .out := h.out (Nat.le_refl _)
  have old : ∀ {b id p c'}, newG γ w.heap.size (.ro o) b = .ow id p c' → γ b = .ow id p c' := by
    intro b id p c' hb
    unfold newG at hb
    split at hb
    · cases hb
    · exact hb
  have oldlt : ∀ {b id p c'}, γ b = .ow id p c' → b < w.heap.size := by
    intro b id p c' hb
    obtain ⟨o', ho', _⟩ := h.ow _ _ _ _ hb
    exact (Array.getElem?_eq_some_iff.1 ho').1
  have new : ∀ {b id p c'}, γ b = .ow id p c' → newG γ w.heap.size (.ro o) b = .ow id p c' := by
    intro b id p c' hb
    have := oldlt hb
    unfold newG; rw [if_neg (by omega)]; exact hb
  refine ⟨?_, ?_, fun b b' id p c1 c2 hb hb' => h.inj _ _ _ _ _ _ (old hb) (old hb'), ?_, ?_⟩
  · intro b o' hb
    unfold newG at hb
    split at hb
    · cases hb; subst_vars; exact heap_alloc_new w o
    · have h1 := h.ro b o' hb
      rw [heap_alloc_old w o b (Array.getElem?_eq_some_iff.1 h1).1]; exact h1
  · intro b id p c' hb
    obtain ⟨o', ho', hrep⟩ := h.ow _ _ _ _ (old hb)
    exact ⟨o', by rw [heap_alloc_old w o b (oldlt (old hb))]; exact ho', hrep.grow E (h.idlt (old hb)) (fun _ _ _ => new) (fun _ _ _ => old)⟩
  · intro id T cs hL
    rw [List.append_nil] at hL
    obtain ⟨b, c', hb⟩ := h.box _ _ _ hL
    exact ⟨b, c', new hb⟩
  · intro id kt vt es hL
    rw [List.append_nil] at hL
    obtain ⟨b, c', hb⟩ := h.map _ _ _ _ hL
    exact ⟨b, c', new hb⟩

/-- A value laid into a variable of its own. -/
theorem box_sound {P : Program} {o : Oper} {s : St} {T : TypeId} {x : Operand} (ho : o.op = .box T x) (hj : s.ev x ≠ .junk) (ht : ∀ vs, s.ev x ≠ .tup vs) :
    OpS P o s ({ s with L := s.L ++ [AObj.box T (s.ev x).cells] }.put o.dst (.ptr s.L.length 0)) := by
  intro γ a w K Q hr hK
  have hc := (hr.ev x).cells hj ht
  have hA := hr.inv.allocObj (.cells (a.eval x).cells T) (AObj.box T (s.ev x).cells) 0 (fun E => by
    unfold BlockRep
    simp only [List.getElem?_append_right (Nat.le_refl _), Nat.sub_self, List.getElem?_cons_zero]
    refine ⟨trivial, _, rfl, hc.1, fun j y hy => ?_⟩
    obtain ⟨u, h1, h2, h3⟩ := hc.2 j y hy
    exact ⟨u, h1, h2, h3.mono E⟩)
  obtain ⟨E, hI, hS⟩ := hA
  unfold Oper.wp execOp
  rw [ho]
  have hrun : (Instr.box T (a.eval x)).run P w = .ok (.pointer (some ⟨w.heap.size, 0, none⟩)) (w.alloc (.cells (a.eval x).cells T)) := by
    simp [Instr.box, newVar, newRow, newObj, Sem.run]
  simp only [Sem.run_bind, hrun, Result.andThen_ok, Sem.run_pure]
  refine hK _ _ _ ((hr.mono E hI).put o.dst (.ptr _ _ _ 0 T (s.ev x).cells ?_ ?_)) (by rw [St.put_L]; exact E) hS
  · simp
  · simp [newG]

/-- A new variable, at its zero value. -/
theorem alloc_sound {P : Program} {o : Oper} {s : St} {T : TypeId} {z : Value} (ho : o.op = .alloc T) (hz : zeroOf P T = some z) (h1 : z.cells.all (·.oneCell') = true) :
    OpS P o s ({ s with L := s.L ++ [AObj.box T (z.cells.toList.map absV)] }.put o.dst (.ptr s.L.length 0)) := by
  intro γ a w K Q hr hK
  have hA := hr.inv.allocObj (.cells z.cells T) (AObj.box T (z.cells.toList.map absV)) 0 (fun E => by
    unfold BlockRep
    simp only [List.getElem?_append_right (Nat.le_refl _), Nat.sub_self, List.getElem?_cons_zero]
    refine ⟨trivial, _, rfl, by simp, fun j y hy => ?_⟩
    simp only [List.getElem?_map, Option.map_eq_some_iff] at hy
    obtain ⟨u, hu, rfl⟩ := hy
    refine ⟨u, by simpa using hu, ?_, .absV _⟩
    exact (Array.all_eq_true_iff_forall_mem.1 h1) u (by simpa using List.mem_of_getElem? hu))
  obtain ⟨E, hI, hS⟩ := hA
  unfold Oper.wp execOp
  rw [ho]
  have hzr : (zeroValue T).run P w = .ok z w := by
    unfold zeroOf at hz
    obtain ⟨i, hi, hz⟩ := Option.bind_eq_some_iff.1 hz
    simp [zeroValue, typeInfo, hi, hz]
  have hrun : (Instr.alloc T true (.tuple #[])).run P w = .ok (.pointer (some ⟨w.heap.size, 0, none⟩)) (w.alloc (.cells z.cells T)) := by
    simp [Instr.alloc, hzr, newVar, newRow, newObj, Sem.run]
  simp only [Sem.run_bind, hrun, Result.andThen_ok, Sem.run_pure]
  refine hK _ _ _ ((hr.mono E hI).put o.dst (.ptr _ _ _ 0 T (z.cells.toList.map absV) ?_ ?_)) (by rw [St.put_L]; exact E) hS
  · simp
  · simp [newG]

end Go.Proofs.Ytolfjeedgedblaa.K
