/- Library: an abstract machine over the model, part 10. -/
import Derived.Test.YtmcjdeiicbgmhabAbs9
set_option linter.unusedVariables false
set_option linter.unusedSimpArgs false
namespace Go.Abs
open Go

/-- A new block that no row owns. -/
theorem push_step {E : Env} (hE : Rel E) (c : Array Value) (e : TypeId) (f : Nat × Nat) :
    let E' : Env := ⟨E.rows, E.m, { E.w with heap := E.w.heap.push (.cells c e f) }, E.x⟩
    Rel E' ∧ (∀ N, Evo N E E') ∧ (∀ o, Imm E' E.w.heap.size o) ∧ (∀ o, E'.w.cell? ⟨E.w.heap.size, o, none⟩ = c[o]?) := by
  intro E'
  have hheap : ∀ {k : Nat}, k < E.w.heap.size → E'.w.heap[k]? = E.w.heap[k]? := fun h => alloc_old (w := E.w) (o := .cells c e f) h
  have hnew : E'.w.heap[E.w.heap.size]? = some (.cells c e f) := alloc_new E.w _
  have hsz : E'.w.heap.size = E.w.heap.size + 1 := by show (E.w.heap.push _).size = _; simp
  have hI : ∀ b o v, Imm E b o → E.w.cell? ⟨b, o, none⟩ = some v → Imm E' b o ∧ E'.w.cell? ⟨b, o, none⟩ = some v :=
    fun b o v h hc => ⟨⟨by rw [hsz]; have := h.1; omega, h.2.1, h.2.2⟩, by rw [cell_congr (hheap h.1)]; exact hc⟩
  have hV : ∀ x v, V E x v → V E' x v := fun x v h => by
    refine V.mono (N := E.rows.length) hI (fun id s _ hs => ⟨s, hs, RowEvo.keep rfl ?_⟩) h h.refLt
    intro hst b o hm hc
    rw [cell_congr (hheap (hE.lt hs (by rcases hst with h | h <;> simp [h]) hm))]; exact hc
  refine ⟨⟨fun b o h => by rw [hsz]; have := hE.xlt b o h; omega, hE.xr, hE.inj, ?_, hE.grown, ?_⟩, fun N => ⟨fun x v h _ => hV x v h, by rw [hsz]; omega, fun b hb hf => ⟨hheap hb, hf⟩, rfl, rfl, rfl⟩, ?_, ?_⟩
  · intro i s hs hns hnm
    rcases hE.own i s hs hns hnm with h | ⟨b, c', e', h1, h2, h3, h4⟩
    · exact .inl h
    · exact .inr ⟨b, c', e', h1, (hheap (lt_of_heap h2)).trans h2, h3, fun j hj => hV _ _ (h4 j hj)⟩
  · intro i s hs hg
    obtain ⟨b, es, k, h1, h2, h3, h4⟩ := hE.map i s hs hg
    exact ⟨b, es, k, h1, (hheap (lt_of_heap h2)).trans h2, h3, fun j hj => ⟨hV _ _ (h4 j hj).1, hV _ _ (h4 j hj).2⟩⟩
  · intro o
    refine ⟨by rw [hsz]; omega, fun hx => ?_, fun id s hs hns hm => ?_⟩
    · have := hE.xlt _ _ hx; omega
    · have := hE.lt hs hns hm; omega
  · intro o; exact cell_at hnew

/-- A slice of data in a block of its own. -/
theorem newSl {E : Env} (hE : Rel E) (cells : List AVal) (c : Array Value) (e : TypeId) (f : Nat × Nat) (n cap : Nat) (hn : n ≤ cap) (hd : dataAll cells = true) (hl : cells.length ≤ c.size)
    (hv : ∀ i, i < cells.length → V E (cells.getD i .undef) (c.getD i Go.undef)) :
    let E' : Env := ⟨E.rows, E.m, { E.w with heap := E.w.heap.push (.cells c e f) }, E.x⟩
    Rel E' ∧ (∀ N, Evo N E E') ∧ V E' (.sl cells n .nn) (.slice (some ⟨E.w.heap.size, 0, none⟩) n cap) := by
  intro E'
  obtain ⟨h1, h2, h3, h4⟩ := push_step hE c e f
  refine ⟨h1, h2, .sl cells n .nn _ 0 cap (fun i => c.getD i Go.undef) (.inr rfl) hn hd (fun i hi => (h2 E.rows.length).val _ _ (hv i hi) (hv i hi).refLt) (fun i hi => ?_)⟩
  rw [Nat.zero_add]
  exact ⟨by rw [h4, getD_some (by omega)], h3 i⟩

/-! ### buildSlice -/
def repA (z : List AVal) : Nat → List AVal
  | 0 => []
  | n + 1 => z ++ repA z n
theorem repA_length (z : List AVal) (n : Nat) : (repA z n).length = n * z.length := by
  induction n with
  | zero => simp [repA]
  | succ n ih => simp [repA, ih, Nat.succ_mul, Nat.add_comm]
theorem repA_getD (z : List AVal) : ∀ (n i : Nat), i < n * z.length → (repA z n).getD i .undef = z.getD (i % z.length) .undef
  | 0, i, h => by simp at h
  | n + 1, i, h => by
    simp only [repA]
    rw [Nat.succ_mul] at h
    rcases Nat.lt_or_ge i z.length with hlt | hge
    · rw [List.getD_eq_getElem?_getD, List.getElem?_append_left hlt, Nat.mod_eq_of_lt hlt, List.getD_eq_getElem?_getD]
    · rw [List.getD_eq_getElem?_getD, List.getElem?_append_right hge, ← List.getD_eq_getElem?_getD, repA_getD z n (i - z.length) (by omega), Nat.mod_eq_sub_mod hge]

def buildSliceA (P : Program) (t : TypeId) (len : Nat) (ρ : Operand → AVal) (parts : List (Nat × Operand)) (rows : List Row) (keep : Bool := false) : Option (AVal × List Row) :=
  match P.underlying t with
  | some (.slice el) => match tyS P el, partsA ρ parts with
    | some size, some ps =>
      if len * size ≤ 2 ^ 24 ∧ (parts.all fun p => standsB rows (ρ p.2)) = true then
        match len * size with
        | 0 => if ps.length = 0 ∧ len = 0 then some (.sl [] 0 .cap0, rows) else none
        | _ + 1 => match (zeroA P el).bind AVal.cellsA with
          | some z => if z.length = size then match fillA (fun i => some (i * size, size)) (repA z len) ps with
            | some cells => if dataAll cells = true ∧ keep = false then some (.sl cells len .nn, rows) else some (.row rows.length 0 len, rows ++ [⟨cells, size, .fresh⟩])
            | none => none
            else none
          | none => none
      else none
    | _, _ => none
  | _ => none

theorem buildSlice_spec {P : Program} {t : TypeId} {len : Nat} {ρ : Operand → AVal} {τ : Operand → Value} {parts : Array (Nat × Operand)} {rows rows' : List Row} {r : AVal} {keep : Bool} (h : buildSliceA P t len ρ parts.toList rows keep = some (r, rows'))
    {X : Nat → Nat → Prop} {m : Nat → Option Nat} {w : World} (hrel : Rel ⟨rows, m, w, X⟩) (hv : ∀ x ∈ parts.toList.map (·.2), V ⟨rows, m, w, X⟩ (ρ x) (τ x)) :
    ∃ v w' m', (Instr.buildSlice t len (parts.map fun p => (p.1, τ p.2))).run P w = .ok v w' ∧ Rel ⟨rows', m', w', X⟩ ∧ V ⟨rows', m', w', X⟩ r v ∧ rows.length ≤ rows'.length ∧ Evo rows.length ⟨rows, m, w, X⟩ ⟨rows', m', w', X⟩ := by
  unfold buildSliceA at h
  split at h
  · rename_i el hu
    split at h
    · rename_i size ps hs hp
      split at h
      · rename_i hc
        obtain ⟨hc1, hc2⟩ := hc
        have hparts := parts_spec (E := ⟨rows, m, w, X⟩) (τ := τ) parts.toList hp (fun x hx => ⟨hv x hx, by
          obtain ⟨q, hq, rfl⟩ := List.mem_map.1 hx
          exact List.all_eq_true.1 hc2 q hq⟩)
        split at h
        · rename_i h0
          split at h
          · rename_i hps
            simp only [Option.some.injEq, Prod.mk.injEq] at h
            obtain ⟨rfl, rfl⟩ := h
            obtain ⟨hps, hl0⟩ := hps
            have hnil' : parts = #[] := by
              have := hparts.1; simp [hps] at this; exact Array.eq_empty_of_size_eq_zero this.symm
            subst hnil'
            obtain ⟨k1, k2, k3, k4⟩ := push_step hrel #[] el (0, 0)
            refine ⟨.slice (some ⟨w.heap.size, 0, none⟩) 0 0, _, m, ?_, k1, ?_, Nat.le_refl _, k2 _⟩
            · subst hl0
              simp [Instr.buildSlice, run_underlying hu, run_sizeOf' hs, Instr.fill, newRow, newObj, Sem.run]
              have e : (Array.map (fun x => default) (Array.range 0) : Array Value) = #[] := by apply Array.eq_empty_of_size_eq_zero; simp
              rw [e]
            · exact .slz _ 0
          · simp at h
        · rename_i k hk
          split at h
          · rename_i z hz
            split at h
            · rename_i hzl
              split at h
              · rename_i cells hfill
                cases hzz : zeroA P el with
                | none => simp [hzz] at hz
                | some zz =>
                  simp only [hzz, Option.bind_some] at hz
                  obtain ⟨zv, hzr, hzV⟩ := run_zero hzz w
                  have hzc : VC ⟨rows, m, w, X⟩ z zv.cells := (hzV ⟨rows, m, w, X⟩).cells hz (fun id off he => by
                    exfalso
                    subst he
                    have := (hzV ⟨[], fun _ => none, w, fun _ _ => False⟩)
                    generalize hq : AVal.ptr id off = q at this
                    cases this <;> simp_all)
                  have hrep : VC ⟨rows, m, w, X⟩ (repA z len) ((Array.range (len * size)).map (fun i => zv.cells[i % zv.cells.size]!)) := by
                    refine ⟨by simp [repA_length, hzl], fun i hi => ?_⟩
                    rw [repA_length] at hi
                    rw [repA_getD z len i hi]
                    have hzpos : 0 < z.length := by
                      rcases Nat.eq_zero_or_pos z.length with h0 | h0
                      · rw [h0] at hi; simp at hi
                      · exact h0
                    have hlt : i % z.length < z.length := Nat.mod_lt _ hzpos
                    have := hzc.2 _ hlt
                    have hi' : i < len * size := by rw [← hzl]; exact hi
                    have e1 : (((Array.range (len * size)).map (fun i => zv.cells[i % zv.cells.size]!)).getD i Go.undef) = zv.cells.getD (i % z.length) Go.undef := by
                      rw [hzc.1]
                      have hlt' : i % zv.cells.size < zv.cells.size := by rw [← hzc.1]; exact hlt
                      simp [Array.getD, hi', hlt']
                    rw [e1]; exact this
                  obtain ⟨c', hf1, hf2⟩ := fill_spec ps _ (repA z len) _ hparts.1 hparts.2 hrep hfill
                  have hrun : ∀ g : Addr → Sem Value, True := fun _ => trivial
                  have hne : ¬ (len * size = 0) := by rw [hk]; simp
                  have hpre : (Instr.buildSlice t len (parts.map fun p => (p.1, τ p.2))).run P w = .ok (.slice (some ⟨w.heap.size, 0, none⟩) len len) (w.alloc (.cells c' el)) := by
                    simp only [Instr.buildSlice, Sem.run_bind, run_underlying hu, Result.andThen_ok, run_sizeOf' hs]
                    rw [if_neg (by omega), if_neg hne]
                    simp only [Sem.run_bind, hzr, Result.andThen_ok, Sem.run_pure, Array.toList_map]
                    rw [hf1]
                    simp [newRow, newObj, Sem.run]
                  split at h
                  · rename_i hd
                    simp only [Option.some.injEq, Prod.mk.injEq] at h
                    obtain ⟨rfl, rfl⟩ := h
                    obtain ⟨k1, k2, k3⟩ := newSl hrel cells c' el (0, 0) len len (Nat.le_refl _) hd.1 (Nat.le_of_eq hf2.1) hf2.2
                    exact ⟨_, _, m, hpre, k1, k3, Nat.le_refl _, k2 _⟩
                  · rename_i hd
                    simp only [Option.some.injEq, Prod.mk.injEq] at h
                    obtain ⟨rfl, rfl⟩ := h
                    obtain ⟨w', m', k1, k2, k3, k4, rfl⟩ := newRow_spec (P := P) hrel hf2 size el
                    refine ⟨_, _, m', hpre, k2, ?_, by simp, k4⟩
                    have hcl : cells.length = len * size := by
                      have := hf2.1
                      have h2 : ∀ (ps : List (Nat × List AVal)) (l out : List AVal), fillA (fun i => some (i * size, size)) l ps = some out → out.length = l.length := by
                        intro ps
                        induction ps with
                        | nil => intro l out h; simp [fillA] at h; rw [h]
                        | cons p ps ih =>
                          intro l out h
                          obtain ⟨i, cs⟩ := p
                          simp only [fillA] at h
                          split at h
                          · rw [ih _ _ h, spliceA_length]
                          · simp at h
                      rw [h2 _ _ _ hfill, repA_length, hzl]
                    refine .rowF _ 0 len _ len ⟨cells, size, .fresh⟩ (by simp) rfl k3 (Nat.le_refl _) (by simp [hcl]) (fun i hi => ?_)
                    rw [Nat.zero_add, isSome_cell (alloc_new w _), ← hf2.1, hcl]; exact hi
              · simp at h
            · simp at h
          · simp at h
      · simp at h
    · simp at h
  · simp at h
end Go.Abs
