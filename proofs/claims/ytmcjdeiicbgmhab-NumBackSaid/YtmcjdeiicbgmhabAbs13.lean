/- Library: an abstract machine over the model, part 13. -/
import Derived.Test.YtmcjdeiicbgmhabAbs12
set_option linter.unusedVariables false
set_option linter.unusedSimpArgs false
namespace Go.Abs
open Go

/-- A row without a block gets one, or is only said to grow. -/
theorem virt_step {E : Env} (hE : Rel E) {id : Nat} {r r' : Row} (hr : E.rows[id]? = some r) (hs : r.st = .fresh ∨ r.st = .grown) (hm : E.m id = none) (hc : r.cells = []) (he : r'.esz = r.esz) (hs' : r'.st = .grown) (hd : dataAll r'.cells = true)
    {w' : World} {mb : Option Nat} {c' : Array Value} {e' : TypeId} (hw : (mb = none ∧ w' = E.w ∧ r'.cells = []) ∨ (mb = some E.w.heap.size ∧ w' = E.w.alloc (.cells c' e') ∧ r'.cells ≠ [] ∧ r'.cells.length ≤ c'.size ∧ ∀ j, j < r'.cells.length → V E (r'.cells.getD j .undef) (c'.getD j Go.undef))) :
    let E' : Env := ⟨E.rows.set id r', fun i => if i = id then mb else E.m i, w', E.x⟩
    Rel E' ∧ Evo E.rows.length E E' := by
  intro E'
  have hnf : r.st ≠ .frozen := by rcases hs with h | h <;> simp [h]
  have hmid : E'.m id = mb := by show (if _ then _ else _) = _; rw [if_pos rfl]
  have hmo : ∀ {i : Nat}, i ≠ id → E'.m i = E.m i := fun h => by show (if _ then _ else _) = _; rw [if_neg h]
  have hsz : E.w.heap.size ≤ E'.w.heap.size := by
    show _ ≤ w'.heap.size
    rcases hw with ⟨_, h, _⟩ | ⟨_, h, _⟩ <;> rw [h] <;> simp
  have hheap : ∀ {k : Nat}, k < E.w.heap.size → E'.w.heap[k]? = E.w.heap[k]? := by
    intro k hk
    show w'.heap[k]? = _
    rcases hw with ⟨_, h, _⟩ | ⟨_, h, _⟩
    · rw [h]
    · rw [h]; exact alloc_old hk
  have hmb : ∀ b, mb = some b → b = E.w.heap.size := by
    intro b hb
    rcases hw with ⟨h, _⟩ | ⟨h, _⟩
    · rw [h] at hb; simp at hb
    · rw [h] at hb; simpa using hb.symm
  have hI : ∀ b o v, Imm E b o → E.w.cell? ⟨b, o, none⟩ = some v → Imm E' b o ∧ E'.w.cell? ⟨b, o, none⟩ = some v := by
    intro b o v h hcc
    refine ⟨⟨Nat.lt_of_lt_of_le h.1 hsz, h.2.1, fun i s hs1 hns hmi => ?_⟩, by rw [cell_congr (hheap h.1)]; exact hcc⟩
    rcases get_set_cases hs1 with ⟨h1, h2, _⟩ | ⟨h1, h2⟩
    · subst h1; rw [hmid] at hmi; have := hmb b hmi; have := h.1; omega
    · rw [hmo h1] at hmi; exact h.2.2 i s h2 hns hmi
  have hV : ∀ x v, V E x v → V E' x v := fun x v h => by
    refine V.mono (N := E.rows.length) hI (fun i s _ hs1 => ?_) h h.refLt
    by_cases hi : i = id
    · subst hi
      rw [hr] at hs1; cases hs1
      refine ⟨r', get_set_same hr, ?_⟩
      have hg : r'.st = .grown → r'.cells.length = r.cells.length → E'.m i = E.m i ∧ ∀ b o, E.m i = some b → (E.w.cell? ⟨b, o, none⟩).isSome = true → (E'.w.cell? ⟨b, o, none⟩).isSome = true := by
        intro _ hlen
        rcases hw with ⟨h1, _⟩ | ⟨h1, _, h3, _⟩
        · exact ⟨by rw [hmid, h1, hm], fun b o hb => by rw [hm] at hb; simp at hb⟩
        · rw [hc] at hlen; exact absurd (List.eq_nil_of_length_eq_zero hlen) h3
      rcases hs with h1 | h1
      · exact .left h1 (.inl hs') he (by rw [hc]; simp) (fun b hb => by rw [hm] at hb; simp at hb) hg
      · exact .grown h1 (.inl hs') he ⟨r'.cells, by simp [hc]⟩ hg
    · refine ⟨s, by rw [get_set_other hi]; exact hs1, RowEvo.keep (hmo hi) ?_⟩
      intro hst b o hb ho
      rw [cell_congr (hheap (hE.lt hs1 (by rcases hst with h | h <;> simp [h]) hb))]; exact ho
  refine ⟨⟨fun b o h => Nat.lt_of_lt_of_le (hE.xlt b o h) hsz, ?_, ?_, ?_, ?_, ?_⟩, ⟨fun x v h _ => hV x v h, hsz, ?_, ?_, ?_, ?_⟩⟩
  · intro i s b h1 hns hmi o hx
    rcases get_set_cases h1 with ⟨a1, a2, _⟩ | ⟨a1, a2⟩
    · rw [a1, hmid] at hmi; have := hmb b hmi; have := hE.xlt b o hx; omega
    · rw [hmo a1] at hmi; exact hE.xr i s b a2 hns hmi o hx
  · intro i j s t b h1 h2 hn1 hn2 hi hj
    rcases get_set_cases h1 with ⟨a1, a2, _⟩ | ⟨a1, a2⟩ <;> rcases get_set_cases h2 with ⟨d1, d2, _⟩ | ⟨d1, d2⟩
    · omega
    · rw [hmo d1] at hj; rw [a1, hmid] at hi; have := hmb b hi; have := hE.lt d2 hn2 hj; omega
    · rw [hmo a1] at hi; rw [d1, hmid] at hj; have := hmb b hj; have := hE.lt a2 hn1 hi; omega
    · rw [hmo a1] at hi; rw [hmo d1] at hj; exact hE.inj i j s t b a2 d2 hn1 hn2 hi hj
  · intro i s h1 hns hnm
    rcases get_set_cases h1 with ⟨a1, a2, _⟩ | ⟨a1, a2⟩
    · subst a1; subst a2
      rcases hw with ⟨h1, _, h3⟩ | ⟨h1, h2, h3, h4, h5⟩
      · exact .inl ⟨hmid.trans h1, h3⟩
      · exact .inr ⟨_, c', e', hmid.trans h1, by show w'.heap[_]? = _; rw [h2]; exact alloc_new _ _, h4, fun j hj => hV _ _ (h5 j hj)⟩
    · rcases hE.own i s a2 hns hnm with h | ⟨b1, c1, e1, h1, h2, h3, h4⟩
      · exact .inl ⟨(hmo a1).trans h.1, h.2⟩
      · exact .inr ⟨b1, c1, e1, (hmo a1).trans h1, (hheap (lt_of_heap h2)).trans h2, h3, fun j hj => hV _ _ (h4 j hj)⟩
  · intro i s h1 hgr
    rcases get_set_cases h1 with ⟨a1, a2, _⟩ | ⟨a1, a2⟩
    · subst a2; exact hd
    · exact hE.grown i s a2 hgr
  · intro i s h1 hmp
    rcases get_set_cases h1 with ⟨a1, a2, _⟩ | ⟨a1, a2⟩
    · subst a2; simp [hs'] at hmp
    · obtain ⟨b1, es, k, h1, h2, h3, h4⟩ := hE.map i s a2 hmp
      exact ⟨b1, es, k, (hmo a1).trans h1, (hheap (lt_of_heap h2)).trans h2, h3, fun j hj => ⟨hV _ _ (h4 j hj).1, hV _ _ (h4 j hj).2⟩⟩
  · intro b1 hb1 hfree
    refine ⟨hheap hb1, fun i s h1 hns hmi => ?_⟩
    rcases get_set_cases h1 with ⟨a1, a2, _⟩ | ⟨a1, a2⟩
    · subst a1; rw [hmid] at hmi; have := hmb b1 hmi; omega
    · rw [hmo a1] at hmi; exact hfree i s a2 hns hmi
  all_goals (show _ = _; rcases hw with ⟨_, h, _⟩ | ⟨_, h, _⟩ <;> (rw [show E'.w = w' from rfl, h]) <;> rfl)

/-! ### append -/
def byteV (b : UInt8) : AVal := .sc (.int .u8 b.toNat)
theorem bytes_getD (d : Array UInt8) (i : Nat) (h : i < d.size) : (d.toList.map byteV).getD i .undef = .sc (.int .u8 (d[i]).toNat) ∧ (d.map (fun b => Value.int .u8 b.toNat)).getD i Go.undef = .int .u8 (d[i]).toNat := by
  simp [List.getD_eq_getElem?_getD, Array.getD, h, byteV]
/-- What is appended: its cells, and how many elements. -/
def srcA (t : TypeId) (P : Program) (sz : Nat) (rows : List Row) (x : AVal) : Option (Prop × List AVal × Nat) :=
  match P.underlying t, x with
  | some (.slice _), .sl cells n _ => some (cells.length = n * sz, cells, n)
  | some (.slice _), .row id off n => match rows[id]? with
    | some r => match r.st with
      | .map => none
      | _ => some (r.esz = sz ∧ off + n * sz ≤ r.cells.length, (r.cells.drop off).take (n * sz), n)
    | none => none
  | some .string, .sc (.string s) => if sz = 1 then some (True, s.data.toList.map byteV, s.size) else none
  | _, _ => none

theorem src_spec {P : Program} {t : TypeId} {sz k : Nat} {rows : List Row} {x : AVal} {xs : List AVal} {c : Prop} (h : srcA t P sz rows x = some (c, xs, k)) (hc : c) {X : Nat → Nat → Prop} {m : Nat → Option Nat} {w : World} {v : Value}
    (hrel : Rel ⟨rows, m, w, X⟩) (hv : V ⟨rows, m, w, X⟩ x v) :
    (∃ d, P.underlying t = some d ∧ (d matches .int _) = false) ∧ (Builtin.lenOf v).run P w = .ok k w ∧ xs.length = k * sz ∧ ∃ cc : Array Value, (Builtin.firstCells sz k v).run P w = .ok cc w ∧ VC ⟨rows, m, w, X⟩ xs cc := by
  have fromCells : ∀ (b o cap n : Nat) (vs : Nat → Value), xs.length = n * sz → (∀ i, i < xs.length → V ⟨rows, m, w, X⟩ (xs.getD i .undef) (vs i)) → (∀ i, i < xs.length → w.cell? ⟨b, o + i, none⟩ = some (vs i)) →
      ∃ cc : Array Value, (Builtin.firstCells sz n (.slice (some ⟨b, o, none⟩) n cap)).run P w = .ok cc w ∧ VC ⟨rows, m, w, X⟩ xs cc := by
    intro b o cap n vs hl hvv hcc
    refine ⟨((List.range (n * sz)).map vs).toArray, ?_, ⟨by simp [hl], fun i hi => ?_⟩⟩
    · simp only [Builtin.firstCells]
      exact run_loadCells w ⟨b, o, none⟩ (n * sz) vs (fun j hj => by rw [addr_add]; exact hcc j (by omega))
    · have : i < n * sz := by omega
      have h2 := hvv i hi
      simpa [Array.getD, this] using h2
  unfold srcA at h
  split at h
  · rename_i el cells n kk ht
    simp only [Option.some.injEq, Prod.mk.injEq] at h
    obtain ⟨rfl, rfl, rfl⟩ := h
    have hl : cells.length = n * sz := hc
    refine ⟨⟨_, ht, rfl⟩, ?_, hl, ?_⟩
    · rcases hv.sl_inv with ⟨rfl, rfl, rfl, _⟩ | ⟨b, o, cap, vs, rfl, _⟩ <;> rfl
    · rcases hv.sl_inv with ⟨rfl, rfl, rfl, _⟩ | ⟨b, o, cap, vs, rfl, hn, _, _, hdd, hvv, hmm⟩
      · exact ⟨#[], rfl, ⟨rfl, fun i hi => by simp at hi⟩⟩
      · exact fromCells b o cap n vs hl hvv (fun i hi => (hmm i hi).1)
  · rename_i el id off n ht
    split at h
    · rename_i r hr
      generalize hxx : AVal.row id off n = y at hv
      have hmain : some (r.esz = sz ∧ off + n * sz ≤ r.cells.length, (r.cells.drop off).take (n * sz), n) = some (c, xs, k) := by
        cases hst : r.st <;> simp only [hst] at h <;> first | exact h | simp at h
      simp only [Option.some.injEq, Prod.mk.injEq] at hmain
      obtain ⟨rfl, rfl, rfl⟩ := hmain
      obtain ⟨c1, c2⟩ := hc
      subst c1
      have hl : ((r.cells.drop off).take (n * r.esz)).length = n * r.esz := by simp; omega
      have hget : ∀ i, i < n * r.esz → ((r.cells.drop off).take (n * r.esz)).getD i .undef = r.cells.getD (off + i) .undef := by
        intro i hi; simp [List.getD_eq_getElem?_getD, List.getElem?_take, hi]
      refine ⟨⟨_, ht, rfl⟩, ?_, hl, ?_⟩
      · cases hv <;> simp at hxx <;> obtain ⟨rfl, rfl, rfl⟩ := hxx <;> rfl
      · cases hv <;> simp at hxx
        · rename_i b cap r2 hr2 hs2 hm2 hn2 ho2 hcc2
          obtain ⟨rfl, rfl, rfl⟩ := hxx
          rw [hr] at hr2; cases hr2
          obtain ⟨cc, e, hb, hbl, hbv⟩ := hrel.block hr (.inl hs2) hm2
          refine fromCells b off cap n (fun i => cc.getD (off + i) Go.undef) hl (fun i hi => ?_) (fun i hi => ?_)
          · rw [hl] at hi; rw [hget i hi]; exact hbv _ (by omega)
          · rw [hl] at hi; exact cell_getD hb (by omega)
        · rename_i r2 base hr2 hs2
          obtain ⟨rfl, rfl, rfl⟩ := hxx
          refine ⟨#[], ?_, ⟨by simp, fun i hi => by simp at hi⟩⟩
          cases base with
          | none => rfl
          | some p =>
            simp only [Option.map_some, Builtin.firstCells, Nat.zero_mul]
            exact run_loadCells w ⟨p.1, p.2, none⟩ 0 (fun _ => Go.undef) (fun j hj => by omega)
        · rename_i b o cap r2 vs hr2 hs2 hn2 ho2 hd2 hvv hmm he2
          obtain ⟨rfl, rfl, rfl⟩ := hxx
          rw [hr] at hr2; cases hr2
          refine fromCells b o cap n vs hl (fun i hi => ?_) (fun i hi => ?_)
          · rw [hl] at hi; rw [hget i hi]; exact hvv i hi
          · rw [hl] at hi; exact (hmm i hi).1
    · simp at h
  · rename_i s ht
    split at h
    · rename_i hsz
      subst hsz
      simp only [Option.some.injEq, Prod.mk.injEq] at h
      obtain ⟨rfl, rfl, rfl⟩ := h
      have := hv.sc_inv
      subst this
      refine ⟨⟨_, ht, rfl⟩, rfl, by rw [List.length_map, Nat.mul_one]; rfl, s.data.map (fun b => .int .u8 b.toNat), ?_, ⟨by simp, fun i hi => ?_⟩⟩
      · simp only [Builtin.firstCells, Sem.run_pure]
        have : (s.extract 0 s.size).data = s.data := by
          rw [ByteArray.data_extract]; exact Array.extract_size
        rw [this]
      · have hi' : i < s.data.size := by simpa using hi
        obtain ⟨e1, e2⟩ := bytes_getD s.data i hi'
        rw [e1, e2]
        exact .sc _ rfl
    · simp at h
  · simp at h
end Go.Abs
