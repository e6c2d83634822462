/- Library: an abstract machine over the model, part 2. -/
import Derived.Test.YtmcjdeiicbgmhabAbs1
set_option linter.unusedVariables false
set_option linter.unusedSimpArgs false
namespace Go.Abs
open Go

theorem lt_of_get {α : Type} {l : List α} {i : Nat} {x : α} (h : l[i]? = some x) : i < l.length := by
  rcases Nat.lt_or_ge i l.length with h' | h'
  · exact h'
  · simp [List.getElem?_eq_none h'] at h

theorem cell_at {w : World} {b o : Nat} {c : Array Value} {e : TypeId} {f : Nat × Nat} (h : w.heap[b]? = some (.cells c e f)) : w.cell? ⟨b, o, none⟩ = c[o]? := by
  simp [World.cell?, h]
theorem getD_some {c : Array Value} {o : Nat} (h : o < c.size) : c[o]? = some (c.getD o Go.undef) := by
  simp [Array.getD, h]
theorem cell_getD {w : World} {b o : Nat} {c : Array Value} {e : TypeId} {f : Nat × Nat} (h : w.heap[b]? = some (.cells c e f)) (ho : o < c.size) :
    w.cell? ⟨b, o, none⟩ = some (c.getD o Go.undef) := by rw [cell_at h, getD_some ho]
theorem cell_congr {w w' : World} {b o : Nat} (h : w'.heap[b]? = w.heap[b]?) : w'.cell? ⟨b, o, none⟩ = w.cell? ⟨b, o, none⟩ := by
  simp [World.cell?, h]
theorem isSome_cell {w : World} {b o : Nat} {c : Array Value} {e : TypeId} {f : Nat × Nat} (h : w.heap[b]? = some (.cells c e f)) :
    (w.cell? ⟨b, o, none⟩).isSome = true ↔ o < c.size := by
  rw [cell_at h]; simp

def upd (w : World) (b : Nat) (o : Obj) : World := { w with heap := w.heap.setIfInBounds b o }
theorem upd_size (w : World) (b : Nat) (o : Obj) : (upd w b o).heap.size = w.heap.size := by simp [upd]
theorem upd_same {w : World} {b : Nat} {o : Obj} (h : b < w.heap.size) : (upd w b o).heap[b]? = some o := by
  simp [upd, Array.getElem?_setIfInBounds, h]
theorem upd_other {w : World} {b k : Nat} {o : Obj} (h : k ≠ b) : (upd w b o).heap[k]? = w.heap[k]? := by
  simp only [upd, Array.getElem?_setIfInBounds]; rw [if_neg (Ne.symm h)]
theorem alloc_new (w : World) (o : Obj) : (w.alloc o).heap[w.heap.size]? = some o := heap_alloc_new w o
theorem alloc_old {w : World} {o : Obj} {k : Nat} (h : k < w.heap.size) : (w.alloc o).heap[k]? = w.heap[k]? := heap_alloc_old w o k h
theorem lt_of_heap {w : World} {b : Nat} {o : Obj} (h : w.heap[b]? = some o) : b < w.heap.size := by
  rcases Nat.lt_or_ge b w.heap.size with h' | h'
  · exact h'
  · simp [Array.getElem?_eq_none h'] at h

/-- Where the heap is the same. -/
theorem same_heap {E : Env} (hE : Rel E) {w' : World} (hw : w'.heap = E.w.heap) (ho : w'.os = E.w.os) (ht : w'.tape = E.w.tape) (hp : w'.output = E.w.output) (N : Nat) :
    Rel ⟨E.rows, E.m, w', E.x⟩ ∧ Evo N E ⟨E.rows, E.m, w', E.x⟩ := by
  have hcell : ∀ b o, w'.cell? ⟨b, o, none⟩ = E.w.cell? ⟨b, o, none⟩ := fun b o => by simp [World.cell?, hw]
  have hI : ∀ b o v, Imm E b o → E.w.cell? ⟨b, o, none⟩ = some v → Imm ⟨E.rows, E.m, w', E.x⟩ b o ∧ w'.cell? ⟨b, o, none⟩ = some v :=
    fun b o v h hc => ⟨⟨by rw [show (Env.mk E.rows E.m w' E.x).w.heap = E.w.heap from hw]; exact h.1, h.2⟩, by rw [hcell]; exact hc⟩
  have hV : ∀ x v, V E x v → V ⟨E.rows, E.m, w', E.x⟩ x v := fun x v h => by
    refine V.mono (N := E.rows.length) hI (fun id r _ hr => ⟨r, hr, ?_⟩) h h.refLt
    cases hs : r.st with
    | fresh => exact .fresh hs hs rfl rfl rfl (fun b o _ h => by rw [show (Env.mk E.rows E.m w' E.x).w = w' from rfl, hcell]; exact h)
    | grown => exact .grown hs (.inl hs) rfl ⟨[], by simp⟩ (fun _ _ => ⟨rfl, fun b o _ h => by rw [show (Env.mk E.rows E.m w' E.x).w = w' from rfl, hcell]; exact h⟩)
    | frozen => exact .frozen hs hs rfl rfl
    | map => exact .map hs hs rfl
  refine ⟨⟨fun b o h => by rw [show (Env.mk E.rows E.m w' E.x).w.heap = E.w.heap from hw]; exact hE.xlt b o h, hE.xr, hE.inj, ?_, hE.grown, ?_⟩, ⟨fun x v h _ => hV x v h, by simp [hw], fun b _ h => ⟨by simp [hw], h⟩, ho, ht, hp⟩⟩
  · intro i r hr hs hs'
    rcases hE.own i r hr hs hs' with h | ⟨b, c, e, h1, h2, h3, h4⟩
    · exact .inl h
    · exact .inr ⟨b, c, e, h1, by rw [show (Env.mk E.rows E.m w' E.x).w.heap = E.w.heap from hw]; exact h2, h3, fun j hj => hV _ _ (h4 j hj)⟩
  · intro i r hr hs
    obtain ⟨b, es, k, h1, h2, h3, h4⟩ := hE.map i r hr hs
    exact ⟨b, es, k, h1, by rw [show (Env.mk E.rows E.m w' E.x).w.heap = E.w.heap from hw]; exact h2, h3, fun j hj => ⟨hV _ _ (h4 j hj).1, hV _ _ (h4 j hj).2⟩⟩

/-- The block of a row that is not frozen. -/
theorem Rel.block {E : Env} (hE : Rel E) {id b : Nat} {r : Row} (hr : E.rows[id]? = some r) (hs : r.st = .fresh ∨ r.st = .grown) (hm : E.m id = some b) :
    ∃ c e, E.w.heap[b]? = some (.cells c e (0, 0)) ∧ r.cells.length ≤ c.size ∧ ∀ j, j < r.cells.length → V E (r.cells.getD j .undef) (c.getD j Go.undef) := by
  rcases hE.own id r hr (by rcases hs with h | h <;> simp [h]) (by rcases hs with h | h <;> simp [h]) with ⟨h, _⟩ | ⟨b', c, e, h1, h2, h3, h4⟩
  · simp [h] at hm
  · rw [hm] at h1; cases h1; exact ⟨c, e, h2, h3, h4⟩

theorem Rel.lt {E : Env} (hE : Rel E) {id b : Nat} {r : Row} (hr : E.rows[id]? = some r) (hs : r.st ≠ .frozen) (hm : E.m id = some b) : b < E.w.heap.size := by
  cases hst : r.st with
  | frozen => exact absurd hst hs
  | map => obtain ⟨b', es, k, h1, h2, _⟩ := hE.map id r hr hst; rw [hm] at h1; cases h1; exact lt_of_heap h2
  | fresh => obtain ⟨c, e, h2, _⟩ := hE.block hr (.inl hst) hm; exact lt_of_heap h2
  | grown => obtain ⟨c, e, h2, _⟩ := hE.block hr (.inr hst) hm; exact lt_of_heap h2

theorem get_append_old {l : List Row} {r s : Row} {i : Nat} (h : l[i]? = some s) : (l ++ [r])[i]? = some s := by
  rw [List.getElem?_append_left (lt_of_get h)]; exact h
theorem get_append_new {l : List Row} {r : Row} : (l ++ [r])[l.length]? = some r := by simp
theorem get_append_cases {l : List Row} {r s : Row} {i : Nat} (h : (l ++ [r])[i]? = some s) : (i < l.length ∧ l[i]? = some s) ∨ (i = l.length ∧ s = r) := by
  rcases Nat.lt_trichotomy i l.length with h' | h' | h'
  · exact .inl ⟨h', by rw [List.getElem?_append_left h'] at h; exact h⟩
  · subst h'; simp at h; exact .inr ⟨rfl, h.symm⟩
  · rw [List.getElem?_eq_none (by simp; omega)] at h; simp at h
theorem get_set_cases {l : List Row} {r s : Row} {i j : Nat} (h : (l.set j r)[i]? = some s) : (i = j ∧ s = r ∧ j < l.length) ∨ (i ≠ j ∧ l[i]? = some s) := by
  rw [List.getElem?_set] at h
  split at h
  · rename_i e; subst e
    split at h
    · rename_i hl; simp at h; exact .inl ⟨rfl, h.symm, hl⟩
    · simp at h
  · rename_i e; exact .inr ⟨fun h' => e h'.symm, h⟩
theorem get_set_same {l : List Row} {r s : Row} {j : Nat} (h : l[j]? = some s) : (l.set j r)[j]? = some r := by
  rw [List.getElem?_set]; simp [lt_of_get h]
theorem get_set_other {l : List Row} {r : Row} {i j : Nat} (h : i ≠ j) : (l.set j r)[i]? = l[i]? := by
  rw [List.getElem?_set]; simp [Ne.symm h]

/-- A row as it was. -/
theorem RowEvo.keep {E E' : Env} {id : Nat} {r : Row} (hm : E'.m id = E.m id) (hc : r.st = .fresh ∨ r.st = .grown → ∀ b o, E.m id = some b → (E.w.cell? ⟨b, o, none⟩).isSome = true → (E'.w.cell? ⟨b, o, none⟩).isSome = true) :
    RowEvo E E' id r r := by
  cases hs : r.st with
  | fresh => exact .fresh hs hs rfl hm rfl (hc (.inl hs))
  | grown => exact .grown hs (.inl hs) rfl ⟨[], by simp⟩ (fun _ _ => ⟨hm, hc (.inr hs)⟩)
  | frozen => exact .frozen hs hs rfl rfl
  | map => exact .map hs hs hm

/-- A new block for a new row. -/
theorem alloc_step {E : Env} (hE : Rel E) (r : Row) (c : Array Value) (e : TypeId) (hf : r.st = .fresh) (hl : r.cells.length ≤ c.size)
    (hv : ∀ j, j < r.cells.length → V E (r.cells.getD j .undef) (c.getD j Go.undef)) :
    let E' : Env := ⟨E.rows ++ [r], fun i => if i = E.rows.length then some E.w.heap.size else E.m i, E.w.alloc (.cells c e), E.x⟩
    Rel E' ∧ Evo E.rows.length E E' := by
  intro E'
  have hold : ∀ {i : Nat}, i < E.rows.length → E'.m i = E.m i := fun h => by show (if _ then _ else _) = _; rw [if_neg (by omega)]
  have hnew : E'.m E.rows.length = some E.w.heap.size := by show (if _ then _ else _) = _; rw [if_pos rfl]
  have hheap : ∀ {k : Nat}, k < E.w.heap.size → E'.w.heap[k]? = E.w.heap[k]? := fun h => alloc_old h
  have hI : ∀ b o v, Imm E b o → E.w.cell? ⟨b, o, none⟩ = some v → Imm E' b o ∧ E'.w.cell? ⟨b, o, none⟩ = some v := by
    intro b o v h hc
    refine ⟨⟨by show b < (E.w.alloc _).heap.size; simp; have := h.1; omega, h.2.1, ?_⟩, by rw [cell_congr (hheap h.1)]; exact hc⟩
    intro id s hs hns hm
    rcases get_append_cases hs with ⟨hlt, hs⟩ | ⟨he, _⟩
    · rw [hold hlt] at hm; exact h.2.2 id s hs hns hm
    · subst he; rw [hnew] at hm; have := h.1; simp at hm; omega
  have hV : ∀ x v, V E x v → V E' x v := fun x v h => by
    refine V.mono (N := E.rows.length) hI (fun id s _ hs => ⟨s, get_append_old hs, RowEvo.keep (hold (lt_of_get hs)) ?_⟩) h h.refLt
    intro hst b o hm hc
    rw [cell_congr (hheap (hE.lt hs (by rcases hst with h | h <;> simp [h]) hm))]; exact hc
  refine ⟨⟨?_, ?_, ?_, ?_, ?_, ?_⟩, ⟨fun x v h _ => hV x v h, by show _ ≤ (E.w.alloc _).heap.size; simp, ?_, rfl, rfl, rfl⟩⟩
  · intro b o h; show b < (E.w.alloc _).heap.size; have := hE.xlt b o h; simp; omega
  · intro i s b hs hns hi o hx
    rcases get_append_cases hs with ⟨hlt, hs⟩ | ⟨he, he2⟩
    · rw [hold hlt] at hi; exact hE.xr i s b hs hns hi o hx
    · rw [he, hnew] at hi; simp at hi; have := hE.xlt b o hx; omega
  · intro i j s t b hs ht hns hnt hi hj
    rcases get_append_cases hs with ⟨hlt, hs⟩ | ⟨he, he2⟩ <;> rcases get_append_cases ht with ⟨hlt', ht⟩ | ⟨he', he2'⟩
    · rw [hold hlt] at hi; rw [hold hlt'] at hj; exact hE.inj i j s t b hs ht hns hnt hi hj
    · rw [hold hlt] at hi; rw [he', hnew] at hj; have := hE.lt hs hns hi; simp at hj; omega
    · rw [hold hlt'] at hj; rw [he, hnew] at hi; have := hE.lt ht hnt hj; simp at hi; omega
    · omega
  · intro i s hs hns hnm
    rcases get_append_cases hs with ⟨hlt, hs⟩ | ⟨he, he2⟩
    · rcases hE.own i s hs hns hnm with h | ⟨b, c', e', h1, h2, h3, h4⟩
      · exact .inl ⟨(hold hlt).trans h.1, h.2⟩
      · exact .inr ⟨b, c', e', (hold hlt).trans h1, (hheap (lt_of_heap h2)).trans h2, h3, fun j hj => hV _ _ (h4 j hj)⟩
    · subst he; subst he2
      exact .inr ⟨_, c, e, hnew, alloc_new _ _, hl, fun j hj => hV _ _ (hv j hj)⟩
  · intro i s hs hg
    rcases get_append_cases hs with ⟨hlt, hs⟩ | ⟨he, he2⟩
    · exact hE.grown i s hs hg
    · subst he2; simp [hf] at hg
  · intro i s hs hg
    rcases get_append_cases hs with ⟨hlt, hs⟩ | ⟨he, he2⟩
    · obtain ⟨b, es, k, h1, h2, h3, h4⟩ := hE.map i s hs hg
      exact ⟨b, es, k, (hold hlt).trans h1, (hheap (lt_of_heap h2)).trans h2, h3, fun j hj => ⟨hV _ _ (h4 j hj).1, hV _ _ (h4 j hj).2⟩⟩
    · subst he2; simp [hf] at hg
  · intro b hb hfree
    refine ⟨hheap hb, fun id s hs hns hm => ?_⟩
    rcases get_append_cases hs with ⟨hlt, hs⟩ | ⟨he, _⟩
    · rw [hold hlt] at hm; exact hfree id s hs hns hm
    · subst he; rw [hnew] at hm; simp at hm; omega

/-- A row without a block. -/
theorem virtual_step {E : Env} (hE : Rel E) (esz : Nat) :
    let E' : Env := ⟨E.rows ++ [⟨[], esz, .fresh⟩], fun i => if i = E.rows.length then none else E.m i, E.w, E.x⟩
    Rel E' ∧ Evo E.rows.length E E' := by
  intro E'
  have hold : ∀ {i : Nat}, i < E.rows.length → E'.m i = E.m i := fun h => by show (if _ then _ else _) = _; rw [if_neg (by omega)]
  have hnew : E'.m E.rows.length = none := by show (if _ then _ else _) = _; rw [if_pos rfl]
  have hI : ∀ b o v, Imm E b o → E.w.cell? ⟨b, o, none⟩ = some v → Imm E' b o ∧ E'.w.cell? ⟨b, o, none⟩ = some v := by
    intro b o v h hc
    refine ⟨⟨h.1, h.2.1, ?_⟩, hc⟩
    intro id s hs hns hm
    rcases get_append_cases hs with ⟨hlt, hs⟩ | ⟨he, _⟩
    · rw [hold hlt] at hm; exact h.2.2 id s hs hns hm
    · subst he; rw [hnew] at hm; simp at hm
  have hV : ∀ x v, V E x v → V E' x v := fun x v h =>
    V.mono (N := E.rows.length) hI (fun id s _ hs => ⟨s, get_append_old hs, RowEvo.keep (hold (lt_of_get hs)) (fun _ b o _ h => h)⟩) h h.refLt
  refine ⟨⟨hE.xlt, ?_, ?_, ?_, ?_, ?_⟩, ⟨fun x v h _ => hV x v h, Nat.le_refl _, ?_, rfl, rfl, rfl⟩⟩
  · intro i s b hs hns hi o hx
    rcases get_append_cases hs with ⟨hlt, hs⟩ | ⟨he, he2⟩
    · rw [hold hlt] at hi; exact hE.xr i s b hs hns hi o hx
    · rw [he, hnew] at hi; simp at hi
  · intro i j s t b hs ht hns hnt hi hj
    rcases get_append_cases hs with ⟨hlt, hs⟩ | ⟨he, he2⟩ <;> rcases get_append_cases ht with ⟨hlt', ht⟩ | ⟨he', he2'⟩
    · rw [hold hlt] at hi; rw [hold hlt'] at hj; exact hE.inj i j s t b hs ht hns hnt hi hj
    · rw [he', hnew] at hj; simp at hj
    · rw [he, hnew] at hi; simp at hi
    · omega
  · intro i s hs hns hnm
    rcases get_append_cases hs with ⟨hlt, hs⟩ | ⟨he, he2⟩
    · rcases hE.own i s hs hns hnm with h | ⟨b, c', e', h1, h2, h3, h4⟩
      · exact .inl ⟨(hold hlt).trans h.1, h.2⟩
      · exact .inr ⟨b, c', e', (hold hlt).trans h1, h2, h3, fun j hj => hV _ _ (h4 j hj)⟩
    · subst he; subst he2
      exact .inl ⟨hnew, rfl⟩
  · intro i s hs hg
    rcases get_append_cases hs with ⟨hlt, hs⟩ | ⟨he, he2⟩
    · exact hE.grown i s hs hg
    · subst he2; simp at hg
  · intro i s hs hg
    rcases get_append_cases hs with ⟨hlt, hs⟩ | ⟨he, he2⟩
    · obtain ⟨b, es, k, h1, h2, h3, h4⟩ := hE.map i s hs hg
      exact ⟨b, es, k, (hold hlt).trans h1, h2, h3, fun j hj => ⟨hV _ _ (h4 j hj).1, hV _ _ (h4 j hj).2⟩⟩
    · subst he2; simp at hg
  · intro b hb hfree
    refine ⟨rfl, fun id s hs hns hm => ?_⟩
    rcases get_append_cases hs with ⟨hlt, hs⟩ | ⟨he, _⟩
    · rw [hold hlt] at hm; exact hfree id s hs hns hm
    · subst he; rw [hnew] at hm; simp at hm

/-- The contents of one row turn; its block is the same, or a new one. -/
theorem row_step {E : Env} (hE : Rel E) {id b : Nat} {r r' : Row} (hr : E.rows[id]? = some r) (hs : r.st = .fresh ∨ r.st = .grown) (hm : E.m id = some b)
    {w' : World} {b' : Nat} {c' : Array Value} {e' : TypeId} (hw : (b' = b ∧ w' = upd E.w b (.cells c' e' (0, 0))) ∨ (b' = E.w.heap.size ∧ w' = E.w.alloc (.cells c' e') ∧ r'.st = .grown))
    (hs' : r'.st = .fresh ∨ r'.st = .grown) (hse : r'.st = .fresh → r.st = .fresh ∧ r'.cells.length = r.cells.length) (he : r'.esz = r.esz)
    (hg : r'.st = .grown → (∃ t, r'.cells = r.cells ++ t ∧ (b' = b ∨ t ≠ [])) ∧ dataAll r'.cells = true)
    (hl : r'.cells.length ≤ c'.size) (hkeep : b' = b → ∀ c e, E.w.heap[b]? = some (.cells c e (0, 0)) → c'.size = c.size ∧ (r'.st = .grown → ∀ j, j < r.cells.length → c'.getD j Go.undef = c.getD j Go.undef))
    (hv : ∀ j, j < r'.cells.length → V E (r'.cells.getD j .undef) (c'.getD j Go.undef)) :
    let E' : Env := ⟨E.rows.set id r', fun i => if i = id then some b' else E.m i, w', E.x⟩
    Rel E' ∧ Evo E.rows.length E E' := by
  intro E'
  obtain ⟨c, e, hb, hbl, hbv⟩ := hE.block hr hs hm
  have hnf : r.st ≠ .frozen := by rcases hs with h | h <;> simp [h]
  have hnf' : r'.st ≠ .frozen := by rcases hs' with h | h <;> simp [h]
  have hblt := lt_of_heap hb
  have hmid : E'.m id = some b' := by show (if _ then _ else _) = _; rw [if_pos rfl]
  have hmo : ∀ {i : Nat}, i ≠ id → E'.m i = E.m i := fun h => by show (if _ then _ else _) = _; rw [if_neg h]
  have hsz : E.w.heap.size ≤ E'.w.heap.size := by
    show _ ≤ w'.heap.size
    rcases hw with ⟨_, hw⟩ | ⟨_, hw, _⟩
    · rw [hw, upd_size]; omega
    · rw [hw]; simp
  have hwb : E'.w.heap[b']? = some (.cells c' e' (0, 0)) := by
    show w'.heap[b']? = _
    rcases hw with ⟨h1, hw⟩ | ⟨h1, hw, _⟩
    · rw [hw, h1]; exact upd_same hblt
    · rw [hw, h1]; exact alloc_new _ _
  have hheap : ∀ {k : Nat}, k < E.w.heap.size → k ≠ b → E'.w.heap[k]? = E.w.heap[k]? := by
    intro k hk hkb
    show w'.heap[k]? = _
    rcases hw with ⟨_, hw⟩ | ⟨_, hw, _⟩
    · rw [hw]; exact upd_other hkb
    · rw [hw]; exact alloc_old hk
  -- the old block, where the row has left it
  have hleft : b' ≠ b → E'.w.heap[b]? = E.w.heap[b]? ∧ b' = E.w.heap.size := by
    intro hne
    rcases hw with ⟨h1, _⟩ | ⟨h1, hw, _⟩
    · exact absurd h1 hne
    · exact ⟨by show w'.heap[b]? = _; rw [hw]; exact alloc_old hblt, h1⟩
  have hother : ∀ {i : Nat} {s : Row}, i ≠ id → E.rows[i]? = some s → s.st ≠ .frozen → E.m i ≠ some b := by
    intro i s hi hs1 hns h
    exact hi (hE.inj i id s r b hs1 hr hns hnf h hm)
  have hImmNew : ∀ o, r'.st = .grown → o < r.cells.length → Imm E' b o ∧ E'.w.cell? ⟨b, o, none⟩ = some (c.getD o Go.undef) := by
    intro o hgr ho
    obtain ⟨⟨t, ht, _⟩, _⟩ := hg hgr
    by_cases hbb : b' = b
    · obtain ⟨hk1, hk2⟩ := hkeep hbb c e hb
      refine ⟨⟨Nat.lt_of_lt_of_le hblt hsz, hE.xr id r b hr hnf hm o, ?_⟩, ?_⟩
      · intro i s hs1 hns hmi
        rcases get_set_cases hs1 with ⟨h1, h2, _⟩ | ⟨h1, h2⟩
        · subst h2; exact ⟨hgr, by rw [ht, List.length_append]; omega⟩
        · rw [hmo h1] at hmi; exact absurd hmi (hother h1 h2 hns)
      · rw [hbb] at hwb; rw [cell_getD hwb (by omega), hk2 hgr o ho]
    · obtain ⟨h1, h2⟩ := hleft hbb
      refine ⟨⟨Nat.lt_of_lt_of_le hblt hsz, hE.xr id r b hr hnf hm o, ?_⟩, ?_⟩
      · intro i s hs1 hns hmi
        rcases get_set_cases hs1 with ⟨h3, h4, _⟩ | ⟨h3, h4⟩
        · subst h3; rw [hmid] at hmi; simp at hmi; exact absurd hmi hbb
        · rw [hmo h3] at hmi; exact absurd hmi (hother h3 h4 hns)
      · rw [cell_congr h1, cell_getD hb (by omega)]
  have hI : ∀ b0 o v, Imm E b0 o → E.w.cell? ⟨b0, o, none⟩ = some v → Imm E' b0 o ∧ E'.w.cell? ⟨b0, o, none⟩ = some v := by
    intro b0 o v h hc
    by_cases hbb : b0 = b
    · subst hbb
      obtain ⟨hgr, ho⟩ := h.2.2 id r hr hnf hm
      have hgr' : r'.st = .grown := by
        rcases hs' with h' | h'
        · have := (hse h').1; simp [hgr] at this
        · exact h'
      obtain ⟨h1, h2⟩ := hImmNew o hgr' ho
      refine ⟨h1, h2.trans ?_⟩
      rw [cell_getD hb (by omega)] at hc; exact hc
    · refine ⟨⟨Nat.lt_of_lt_of_le h.1 hsz, h.2.1, ?_⟩, by rw [cell_congr (hheap h.1 hbb)]; exact hc⟩
      intro i s hs1 hns hmi
      rcases get_set_cases hs1 with ⟨h1, h2, _⟩ | ⟨h1, h2⟩
      · subst h1; rw [hmid] at hmi; simp at hmi
        by_cases hb2 : b' = b
        · omega
        · have := (hleft hb2).2; have := h.1; omega
      · rw [hmo h1] at hmi; exact h.2.2 i s h2 hns hmi
  have hV1 : ∀ x v, V E x v → x.data = true → V E' x v := fun x v h hd =>
    V.mono (N := 0) hI (fun id r h _ => absurd h (by omega)) h (AVal.lt_of_data 0 x hd)
  have hsome : b' = b → ∀ o, (E.w.cell? ⟨b, o, none⟩).isSome = true → (E'.w.cell? ⟨b, o, none⟩).isSome = true := by
    intro hbb o ho
    rw [isSome_cell hb] at ho
    have := (hkeep hbb c e hb).1
    rw [hbb] at hwb
    rw [isSome_cell hwb]; omega
  have hV : ∀ x v, V E x v → V E' x v := fun x v h => by
    refine V.mono (N := E.rows.length) hI (fun i s _ hs1 => ?_) h h.refLt
    by_cases hi : i = id
    · subst hi
      rw [hr] at hs1; cases hs1
      refine ⟨r', get_set_same hr, ?_⟩
      rcases hs' with h' | h'
      · obtain ⟨h1, h2⟩ := hse h'
        have hbb : b' = b := by
          rcases hw with ⟨h3, _⟩ | ⟨_, _, h3⟩
          · exact h3
          · simp [h'] at h3
        exact .fresh h1 h' he (by rw [hmid, hm, hbb]) h2 (fun b1 o hb1 ho => by rw [hm] at hb1; cases hb1; exact hsome hbb o ho)
      · obtain ⟨⟨t, ht, htb⟩, hd⟩ := hg h'
        have hlast : r'.st = .grown → r'.cells.length = r.cells.length → E'.m i = E.m i ∧ ∀ b1 o, E.m i = some b1 → (E.w.cell? ⟨b1, o, none⟩).isSome = true → (E'.w.cell? ⟨b1, o, none⟩).isSome = true := by
          intro _ hlen
          have hbb : b' = b := by
            rcases htb with h1 | h1
            · exact h1
            · rw [ht, List.length_append] at hlen
              exact absurd (List.eq_nil_of_length_eq_zero (by omega)) h1
          exact ⟨by rw [hmid, hm, hbb], fun b1 o hb1 ho => by rw [hm] at hb1; cases hb1; exact hsome hbb o ho⟩
        rcases hs with h1 | h1
        · refine .left h1 (.inl h') he (by rw [ht, List.length_append]; omega) ?_ hlast
          intro b1 hb1 j hj
          rw [hm] at hb1; cases hb1
          obtain ⟨hi1, hi2⟩ := hImmNew j h' hj
          have hdj : (r'.cells.getD j .undef).data = true := (dataAll_iff _).1 hd j (by rw [ht, List.length_append]; omega)
          refine ⟨hi1, hdj, _, hi2, ?_⟩
          have hcj : r'.cells.getD j .undef = r.cells.getD j .undef := by
            rw [ht, List.getD_eq_getElem?_getD, List.getD_eq_getElem?_getD, List.getElem?_append_left hj]
          rw [hcj] at hdj ⊢
          exact hV1 _ _ (hbv j hj) hdj
        · exact .grown h1 (.inl h') he ⟨t, ht⟩ hlast
    · refine ⟨s, by rw [get_set_other hi]; exact hs1, RowEvo.keep (hmo hi) ?_⟩
      intro hst b1 o hb1 ho
      have hns : s.st ≠ .frozen := by rcases hst with h | h <;> simp [h]
      have hne : b1 ≠ b := fun h => hother hi hs1 hns (h ▸ hb1)
      rw [cell_congr (hheap (hE.lt hs1 hns hb1) hne)]; exact ho
  refine ⟨⟨fun b1 o h => Nat.lt_of_lt_of_le (hE.xlt b1 o h) hsz, ?_, ?_, ?_, ?_, ?_⟩, ⟨fun x v h _ => hV x v h, hsz, ?_, ?_, ?_, ?_⟩⟩
  · intro i s b1 h1 hns hmi o hx
    rcases get_set_cases h1 with ⟨a1, a2, _⟩ | ⟨a1, a2⟩
    · rw [a1, hmid] at hmi; simp at hmi
      by_cases hbb : b' = b
      · exact hE.xr id r b hr hnf hm o (by rw [← hbb, hmi]; exact hx)
      · have := (hleft hbb).2; have := hE.xlt b1 o hx; omega
    · rw [hmo a1] at hmi; exact hE.xr i s b1 a2 hns hmi o hx
  · intro i j s t b1 h1 h2 hn1 hn2 hi hj
    have key : ∀ {i : Nat} {s : Row}, i ≠ id → E.rows[i]? = some s → s.st ≠ .frozen → E.m i ≠ some b' := by
      intro i s hne h1 hn1 hmi
      by_cases hbb : b' = b
      · exact hother hne h1 hn1 (hbb ▸ hmi)
      · have := hE.lt h1 hn1 hmi; have := (hleft hbb).2; omega
    rcases get_set_cases h1 with ⟨a1, a2, _⟩ | ⟨a1, a2⟩ <;> rcases get_set_cases h2 with ⟨d1, d2, _⟩ | ⟨d1, d2⟩
    · omega
    · rw [hmo d1] at hj; rw [a1, hmid] at hi; cases hi; exact absurd hj (key d1 d2 hn2)
    · rw [hmo a1] at hi; rw [d1, hmid] at hj; cases hj; exact absurd hi (key a1 a2 hn1)
    · rw [hmo a1] at hi; rw [hmo d1] at hj; exact hE.inj i j s t b1 a2 d2 hn1 hn2 hi hj
  · intro i s h1 hns hnm
    rcases get_set_cases h1 with ⟨a1, a2, _⟩ | ⟨a1, a2⟩
    · subst a1; subst a2
      exact .inr ⟨b', c', e', hmid, hwb, hl, fun j hj => hV _ _ (hv j hj)⟩
    · rcases hE.own i s a2 hns hnm with h | ⟨b1, c1, e1, h1, h2, h3, h4⟩
      · exact .inl ⟨(hmo a1).trans h.1, h.2⟩
      · exact .inr ⟨b1, c1, e1, (hmo a1).trans h1, (hheap (lt_of_heap h2) (fun h => hother a1 a2 hns (h ▸ h1))).trans h2, h3, fun j hj => hV _ _ (h4 j hj)⟩
  · intro i s h1 hgr
    rcases get_set_cases h1 with ⟨a1, a2, _⟩ | ⟨a1, a2⟩
    · subst a2; exact (hg hgr).2
    · exact hE.grown i s a2 hgr
  · intro i s h1 hmp
    rcases get_set_cases h1 with ⟨a1, a2, _⟩ | ⟨a1, a2⟩
    · subst a2; rcases hs' with h | h <;> simp [h] at hmp
    · obtain ⟨b1, es, k, h1, h2, h3, h4⟩ := hE.map i s a2 hmp
      exact ⟨b1, es, k, (hmo a1).trans h1, (hheap (lt_of_heap h2) (fun h => hother a1 a2 (by simp [hmp]) (h ▸ h1))).trans h2, h3, fun j hj => ⟨hV _ _ (h4 j hj).1, hV _ _ (h4 j hj).2⟩⟩
  · intro b1 hb1 hfree
    have hne : b1 ≠ b := fun h => hfree id r hr hnf (h ▸ hm)
    refine ⟨hheap hb1 hne, fun i s h1 hns hmi => ?_⟩
    rcases get_set_cases h1 with ⟨a1, a2, _⟩ | ⟨a1, a2⟩
    · subst a1; rw [hmid] at hmi; simp at hmi
      by_cases hbb : b' = b
      · omega
      · have := (hleft hbb).2; omega
    · rw [hmo a1] at hmi; exact hfree i s a2 hns hmi
  all_goals (show _ = _; rcases hw with ⟨_, hw⟩ | ⟨_, hw, _⟩ <;> (rw [show E'.w = w' from rfl, hw]; rfl))

/-- A row is not written any more. -/
theorem freeze_step {E : Env} (hE : Rel E) {id : Nat} {r : Row} (hr : E.rows[id]? = some r) (hs : r.st = .fresh ∨ r.st = .grown) (hd : dataAll r.cells = true) :
    let E' : Env := ⟨E.rows.set id { r with st := .frozen }, E.m, E.w, E.x⟩
    Rel E' ∧ Evo E.rows.length E E' := by
  intro E'
  have hnf : r.st ≠ .frozen := by rcases hs with h | h <;> simp [h]
  have hI : ∀ b o v, Imm E b o → E.w.cell? ⟨b, o, none⟩ = some v → Imm E' b o ∧ E'.w.cell? ⟨b, o, none⟩ = some v := by
    intro b o v h hc
    refine ⟨⟨h.1, h.2.1, ?_⟩, hc⟩
    intro i s hs1 hns hm
    rcases get_set_cases hs1 with ⟨_, h2, _⟩ | ⟨_, h2⟩
    · subst h2; exact absurd rfl hns
    · exact h.2.2 i s h2 hns hm
  have hV1 : ∀ x v, V E x v → x.data = true → V E' x v := fun x v h hdx =>
    V.mono (N := 0) hI (fun id r h _ => absurd h (by omega)) h (AVal.lt_of_data 0 x hdx)
  have hV : ∀ x v, V E x v → V E' x v := fun x v h => by
    refine V.mono (N := E.rows.length) hI (fun i s _ hs1 => ?_) h h.refLt
    by_cases hi : i = id
    · subst hi
      rw [hr] at hs1; cases hs1
      refine ⟨_, get_set_same hr, ?_⟩
      rcases hs with h1 | h1
      · refine .left h1 (.inr rfl) rfl (Nat.le_refl _) ?_ (fun h => by simp at h)
        intro b hb j hj
        obtain ⟨c, e, hbk, hbl, hbv⟩ := hE.block hr (.inl h1) hb
        have hdj := (dataAll_iff _).1 hd j hj
        refine ⟨⟨lt_of_heap hbk, hE.xr i r b hr hnf hb j, ?_⟩, hdj, _, cell_getD hbk (by omega), hV1 _ _ (hbv j hj) hdj⟩
        intro i' s' hs' hns hmi
        rcases get_set_cases hs' with ⟨_, a2, _⟩ | ⟨a1, a2⟩
        · subst a2; exact absurd rfl hns
        · exact absurd (hE.inj i' i s' r b a2 hr hns hnf hmi hb) a1
      · exact .grown h1 (.inr rfl) rfl ⟨[], by simp⟩ (fun h => by simp at h)
    · exact ⟨s, by rw [get_set_other hi]; exact hs1, RowEvo.keep rfl (fun _ _ _ _ h => h)⟩
  refine ⟨⟨hE.xlt, ?_, ?_, ?_, ?_, ?_⟩, ⟨fun x v h _ => hV x v h, Nat.le_refl _, ?_, rfl, rfl, rfl⟩⟩
  · intro i s b h1 hns hmi o hx
    rcases get_set_cases h1 with ⟨_, a2, _⟩ | ⟨_, a2⟩
    · subst a2; exact absurd rfl hns
    · exact hE.xr i s b a2 hns hmi o hx
  · intro i j s t b h1 h2 hn1 hn2 hi hj
    rcases get_set_cases h1 with ⟨_, a2, _⟩ | ⟨_, a2⟩
    · subst a2; exact absurd rfl hn1
    · rcases get_set_cases h2 with ⟨_, d2, _⟩ | ⟨_, d2⟩
      · subst d2; exact absurd rfl hn2
      · exact hE.inj i j s t b a2 d2 hn1 hn2 hi hj
  · intro i s h1 hns hnm
    rcases get_set_cases h1 with ⟨_, a2, _⟩ | ⟨_, a2⟩
    · subst a2; exact absurd rfl hns
    · rcases hE.own i s a2 hns hnm with h | ⟨b, c', e', h1, h2, h3, h4⟩
      · exact .inl h
      · exact .inr ⟨b, c', e', h1, h2, h3, fun j hj => hV _ _ (h4 j hj)⟩
  · intro i s h1 hg
    rcases get_set_cases h1 with ⟨_, a2, _⟩ | ⟨_, a2⟩
    · subst a2; simp at hg
    · exact hE.grown i s a2 hg
  · intro i s h1 hg
    rcases get_set_cases h1 with ⟨_, a2, _⟩ | ⟨_, a2⟩
    · subst a2; simp at hg
    · obtain ⟨b, es, k, h1, h2, h3, h4⟩ := hE.map i s a2 hg
      exact ⟨b, es, k, h1, h2, h3, fun j hj => ⟨hV _ _ (h4 j hj).1, hV _ _ (h4 j hj).2⟩⟩
  · intro b hb hfree
    refine ⟨rfl, fun i s h1 hns hmi => ?_⟩
    rcases get_set_cases h1 with ⟨_, a2, _⟩ | ⟨_, a2⟩
    · subst a2; exact absurd rfl hns
    · exact hfree i s a2 hns hmi
end Go.Abs
