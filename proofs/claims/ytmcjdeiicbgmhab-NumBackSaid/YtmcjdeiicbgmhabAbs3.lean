/- Library: an abstract machine over the model, part 3. -/
import Derived.Test.YtmcjdeiicbgmhabAbs2
set_option linter.unusedVariables false
set_option linter.unusedSimpArgs false
namespace Go.Abs
open Go

/-- An empty row hands its block on to a new one. -/
theorem adopt_step {E : Env} (hE : Rel E) {id b : Nat} {r r2 : Row} (hr : E.rows[id]? = some r) (hs : r.st = .fresh) (hc0 : r.cells = []) (hm : E.m id = some b)
    {c c' : Array Value} {e e' : TypeId} (hb : E.w.heap[b]? = some (.cells c e (0, 0))) (hf2 : r2.st = .fresh) (hl : r2.cells.length ≤ c'.size)
    (hv : ∀ j, j < r2.cells.length → V E (r2.cells.getD j .undef) (c'.getD j Go.undef)) :
    let E' : Env := ⟨E.rows.set id { r with st := .frozen } ++ [r2], fun i => if i = E.rows.length then some b else E.m i, upd E.w b (.cells c' e' (0, 0)), E.x⟩
    Rel E' ∧ Evo E.rows.length E E' := by
  intro E'
  have hnf : r.st ≠ .frozen := by simp [hs]
  have hlen : (E.rows.set id { r with st := .frozen }).length = E.rows.length := by simp
  have hold : ∀ {i : Nat}, i < E.rows.length → E'.m i = E.m i := fun h => by show (if _ then _ else _) = _; rw [if_neg (by omega)]
  have hnew : E'.m E.rows.length = some b := by show (if _ then _ else _) = _; rw [if_pos rfl]
  have hblt := lt_of_heap hb
  have hheap : ∀ {k : Nat}, k ≠ b → E'.w.heap[k]? = E.w.heap[k]? := fun h => upd_other h
  have hwb : E'.w.heap[b]? = some (.cells c' e' (0, 0)) := upd_same hblt
  have hother : ∀ {i : Nat} {s : Row}, i ≠ id → E.rows[i]? = some s → s.st ≠ .frozen → E.m i ≠ some b :=
    fun hi hs1 hns h => hi (hE.inj _ id _ r b hs1 hr hns hnf h hm)
  have hcases : ∀ {i : Nat} {s : Row}, E'.rows[i]? = some s → (i = E.rows.length ∧ s = r2) ∨ (i = id ∧ s = { r with st := .frozen }) ∨ (i ≠ id ∧ i < E.rows.length ∧ E.rows[i]? = some s) := by
    intro i s h
    rcases get_append_cases h with ⟨h1, h2⟩ | ⟨h1, h2⟩
    · rcases get_set_cases h2 with ⟨a1, a2, _⟩ | ⟨a1, a2⟩
      · exact .inr (.inl ⟨a1, a2⟩)
      · exact .inr (.inr ⟨a1, by rw [hlen] at h1; exact h1, a2⟩)
    · rw [hlen] at h1; exact .inl ⟨h1, h2⟩
  have hI : ∀ b0 o v, Imm E b0 o → E.w.cell? ⟨b0, o, none⟩ = some v → Imm E' b0 o ∧ E'.w.cell? ⟨b0, o, none⟩ = some v := by
    intro b0 o v h hc
    have hne : b0 ≠ b := by
      intro hbb; subst hbb
      have := (h.2.2 id r hr hnf hm).1; simp [hs] at this
    refine ⟨⟨by show b0 < (upd _ _ _).heap.size; rw [upd_size]; exact h.1, h.2.1, ?_⟩, by rw [cell_congr (hheap hne)]; exact hc⟩
    intro i s h1 hns hmi
    rcases hcases h1 with ⟨a1, _⟩ | ⟨_, a2⟩ | ⟨a1, a2, a3⟩
    · subst a1; rw [hnew] at hmi; simp at hmi; exact absurd hmi.symm hne
    · subst a2; exact absurd rfl hns
    · rw [hold a2] at hmi; exact h.2.2 i s a3 hns hmi
  have hV : ∀ x v, V E x v → V E' x v := fun x v h => by
    refine V.mono (N := E.rows.length) hI (fun i s hi hs1 => ?_) h h.refLt
    by_cases hii : i = id
    · subst hii
      rw [hr] at hs1; cases hs1
      refine ⟨_, get_append_old (get_set_same hr), .left hs (.inr rfl) rfl (Nat.le_refl _) ?_ (fun h => by simp at h)⟩
      intro b1 _ j hj; simp [hc0] at hj
    · refine ⟨s, get_append_old (by rw [get_set_other hii]; exact hs1), RowEvo.keep (hold hi) ?_⟩
      intro hst b1 o hb1 ho
      rw [cell_congr (hheap (fun h => hother hii hs1 (by rcases hst with h | h <;> simp [h]) (h ▸ hb1)))]; exact ho
  refine ⟨⟨fun b1 o h => by show b1 < (upd _ _ _).heap.size; rw [upd_size]; exact hE.xlt b1 o h, ?_, ?_, ?_, ?_, ?_⟩, ⟨fun x v h _ => hV x v h, by show _ ≤ (upd _ _ _).heap.size; rw [upd_size]; omega, ?_, rfl, rfl, rfl⟩⟩
  · intro i s b1 h1 hns hmi o hx
    rcases hcases h1 with ⟨a1, a2⟩ | ⟨_, a2⟩ | ⟨a1, a2, a3⟩
    · rw [a1, hnew] at hmi; simp at hmi; exact hE.xr id r b hr hnf hm o (hmi ▸ hx)
    · subst a2; exact absurd rfl hns
    · rw [hold a2] at hmi; exact hE.xr i s b1 a3 hns hmi o hx
  · intro i j s t b1 h1 h2 hn1 hn2 hi hj
    rcases hcases h1 with ⟨a1, _⟩ | ⟨_, a2⟩ | ⟨a1, a2, a3⟩
    · rcases hcases h2 with ⟨d1, _⟩ | ⟨_, d2⟩ | ⟨d1, d2, d3⟩
      · omega
      · subst d2; exact absurd rfl hn2
      · rw [a1, hnew] at hi; cases hi; rw [hold d2] at hj; exact absurd hj (hother d1 d3 hn2)
    · subst a2; exact absurd rfl hn1
    · rcases hcases h2 with ⟨d1, _⟩ | ⟨_, d2⟩ | ⟨d1, d2, d3⟩
      · rw [d1, hnew] at hj; cases hj; rw [hold a2] at hi; exact absurd hi (hother a1 a3 hn1)
      · subst d2; exact absurd rfl hn2
      · rw [hold a2] at hi; rw [hold d2] at hj; exact hE.inj i j s t b1 a3 d3 hn1 hn2 hi hj
  · intro i s h1 hns hnm
    rcases hcases h1 with ⟨a1, a2⟩ | ⟨_, a2⟩ | ⟨a1, a2, a3⟩
    · subst a1; subst a2; exact .inr ⟨b, c', e', hnew, hwb, hl, fun j hj => hV _ _ (hv j hj)⟩
    · subst a2; exact absurd rfl hns
    · rcases hE.own i s a3 hns hnm with h | ⟨b1, c1, e1, h1, h2, h3, h4⟩
      · exact .inl ⟨(hold a2).trans h.1, h.2⟩
      · exact .inr ⟨b1, c1, e1, (hold a2).trans h1, (hheap (fun h => hother a1 a3 hns (h ▸ h1))).trans h2, h3, fun j hj => hV _ _ (h4 j hj)⟩
  · intro i s h1 hg
    rcases hcases h1 with ⟨a1, a2⟩ | ⟨_, a2⟩ | ⟨a1, a2, a3⟩
    · subst a2; simp [hf2] at hg
    · subst a2; simp at hg
    · exact hE.grown i s a3 hg
  · intro i s h1 hg
    rcases hcases h1 with ⟨a1, a2⟩ | ⟨_, a2⟩ | ⟨a1, a2, a3⟩
    · subst a2; simp [hf2] at hg
    · subst a2; simp at hg
    · obtain ⟨b1, es, k, h1, h2, h3, h4⟩ := hE.map i s a3 hg
      exact ⟨b1, es, k, (hold a2).trans h1, (hheap (fun h => hother a1 a3 (by simp [hg]) (h ▸ h1))).trans h2, h3, fun j hj => ⟨hV _ _ (h4 j hj).1, hV _ _ (h4 j hj).2⟩⟩
  · intro b1 hb1 hfree
    have hne : b1 ≠ b := fun h => hfree id r hr hnf (h ▸ hm)
    refine ⟨hheap hne, fun i s h1 hns hmi => ?_⟩
    rcases hcases h1 with ⟨a1, a2⟩ | ⟨_, a2⟩ | ⟨a1, a2, a3⟩
    · rw [a1, hnew] at hmi; simp at hmi; exact hne hmi.symm
    · subst a2; exact absurd rfl hns
    · rw [hold a2] at hmi; exact hfree i s a3 hns hmi

/-! ### Rows may be forgotten, and have other numbers -/
mutual
def AVal.ren (ρ : Nat → Nat) : AVal → AVal
  | .sc v => .sc v
  | .sl c n k => .sl c n k
  | .agg cs => .agg (renAll ρ cs)
  | .tup cs => .tup (renAll ρ cs)
  | .dptr cs => .dptr cs
  | .fn f cs => .fn f (renAll ρ cs)
  | .ifc t v => .ifc t (v.ren ρ)
  | .ptr id o => .ptr (ρ id) o
  | .row id o n => .row (ρ id) o n
  | .mp id => .mp (ρ id)
  | .undef => .undef
def renAll (ρ : Nat → Nat) : List AVal → List AVal
  | [] => []
  | x :: r => x.ren ρ :: renAll ρ r
end
theorem renAll_length (ρ : Nat → Nat) (l : List AVal) : (renAll ρ l).length = l.length := by
  induction l with
  | nil => rfl
  | cons x r ih => simp [renAll, ih]
theorem renAll_getD (ρ : Nat → Nat) (l : List AVal) (i : Nat) : (renAll ρ l).getD i .undef = (l.getD i .undef).ren ρ := by
  induction l generalizing i with
  | nil => simp [renAll, AVal.ren]
  | cons x r ih =>
    cases i with
    | zero => simp [renAll]
    | succ i => simpa [renAll] using ih i
mutual
theorem AVal.ren_lt {ρ : Nat → Nat} {N : Nat} (h : ∀ i, i < N → ρ i = i) : ∀ x : AVal, x.refLt N = true → x.ren ρ = x
  | .sc _, _ => rfl
  | .sl _ _ _, _ => rfl
  | .agg cs, hx => by simp only [AVal.refLt, AVal.ren] at *; rw [renAll_lt h cs hx]
  | .tup cs, hx => by simp only [AVal.refLt, AVal.ren] at *; rw [renAll_lt h cs hx]
  | .dptr _, _ => rfl
  | .fn _ cs, hx => by simp only [AVal.refLt, AVal.ren] at *; rw [renAll_lt h cs hx]
  | .ifc _ v, hx => by simp only [AVal.refLt, AVal.ren] at *; rw [AVal.ren_lt h v hx]
  | .ptr id _, hx => by simp only [AVal.refLt, AVal.ren, decide_eq_true_eq] at *; rw [h id hx]
  | .row id _ _, hx => by simp only [AVal.refLt, AVal.ren, decide_eq_true_eq] at *; rw [h id hx]
  | .mp id, hx => by simp only [AVal.refLt, AVal.ren, decide_eq_true_eq] at *; rw [h id hx]
  | .undef, _ => rfl
theorem renAll_lt {ρ : Nat → Nat} {N : Nat} (h : ∀ i, i < N → ρ i = i) : ∀ l : List AVal, ltAll N l = true → renAll ρ l = l
  | [], _ => rfl
  | x :: r, hx => by
    simp only [ltAll, renAll, Bool.and_eq_true] at *
    rw [AVal.ren_lt h x hx.1, renAll_lt h r hx.2]
end
theorem AVal.ren_data {ρ : Nat → Nat} (x : AVal) (h : x.data = true) : x.ren ρ = x := AVal.ren_lt (N := 0) (fun _ h => absurd h (by omega)) x (AVal.lt_of_data 0 x h)
mutual
theorem AVal.ren_id : ∀ x : AVal, x.ren id = x
  | .sc _ => rfl
  | .sl _ _ _ => rfl
  | .agg cs => by simp only [AVal.ren]; rw [renAll_id cs]
  | .tup cs => by simp only [AVal.ren]; rw [renAll_id cs]
  | .dptr _ => rfl
  | .fn _ cs => by simp only [AVal.ren]; rw [renAll_id cs]
  | .ifc _ v => by simp only [AVal.ren]; rw [AVal.ren_id v]
  | .ptr _ _ => rfl
  | .row _ _ _ => rfl
  | .mp _ => rfl
  | .undef => rfl
theorem renAll_id : ∀ l : List AVal, renAll id l = l
  | [] => rfl
  | x :: r => by simp only [renAll]; rw [AVal.ren_id x, renAll_id r]
end
mutual
theorem AVal.data_ren (ρ : Nat → Nat) : ∀ x : AVal, (x.ren ρ).data = x.data
  | .sc _ => rfl
  | .sl _ _ _ => rfl
  | .agg cs => by simp only [AVal.ren, AVal.data]; exact dataAll_ren ρ cs
  | .tup cs => by simp only [AVal.ren, AVal.data]; exact dataAll_ren ρ cs
  | .dptr _ => rfl
  | .fn _ cs => by simp only [AVal.ren, AVal.data]; exact dataAll_ren ρ cs
  | .ifc _ v => by simp only [AVal.ren, AVal.data]; exact AVal.data_ren ρ v
  | .ptr _ _ => rfl
  | .row _ _ _ => rfl
  | .mp _ => rfl
  | .undef => rfl
theorem dataAll_ren (ρ : Nat → Nat) : ∀ l : List AVal, dataAll (renAll ρ l) = dataAll l
  | [] => rfl
  | x :: r => by simp only [renAll, dataAll]; rw [AVal.data_ren ρ x, dataAll_ren ρ r]
end

def Row.ren (ρ : Nat → Nat) (r : Row) : Row := { r with cells := renAll ρ r.cells }
theorem Row.ren_id (r : Row) : r.ren id = r := by simp [Row.ren, renAll_id]

theorem V.unren {E1 E2 : Env} {ρ : Nat → Nat} (hw : E2.w = E1.w) (hx2 : E2.x = E1.x) (hrow : ∀ (i : Nat) (r : Row), E2.rows[i]? = some r → E1.rows[ρ i]? = some (r.ren ρ))
    (hm : ∀ i, i < E2.rows.length → E2.m i = E1.m (ρ i)) {y : AVal} {v : Value} (h : V E1 y v) : ∀ x : AVal, x.ren ρ = y → x.refLt E2.rows.length = true → V E2 x v := by
  have hI : ∀ b o, Imm E1 b o → Imm E2 b o := by
    intro b o hi
    refine ⟨by rw [hw]; exact hi.1, by rw [hx2]; exact hi.2.1, fun id r hr hns hmi => ?_⟩
    have := hi.2.2 (ρ id) _ (hrow id r hr) hns (by rw [← hm id (lt_of_get hr)]; exact hmi)
    simpa [Row.ren, renAll_length] using this
  have hmem : ∀ b o v, (E1.w.cell? ⟨b, o, none⟩ = some v ∧ Imm E1 b o) → (E2.w.cell? ⟨b, o, none⟩ = some v ∧ Imm E2 b o) := fun b o v h => ⟨by rw [hw]; exact h.1, hI b o h.2⟩
  have hget : ∀ {id : Nat}, id < E2.rows.length → ∀ {r : Row}, E1.rows[ρ id]? = some r → ∃ r2, E2.rows[id]? = some r2 ∧ r = r2.ren ρ := by
    intro id hid r hr
    have h1 : E2.rows[id]? = some E2.rows[id] := by simp [hid]
    have h2 := hrow id _ h1
    rw [hr] at h2; cases h2
    exact ⟨_, h1, rfl⟩
  induction h with
  | undef v => intro x hx hb; cases x <;> simp [AVal.ren] at hx; exact .undef v
  | sc v h => intro x hx hb; cases x <;> simp [AVal.ren] at hx; subst hx; exact .sc _ h
  | slnil k hk => intro x hx hb; cases x <;> simp [AVal.ren] at hx; obtain ⟨rfl, rfl, rfl⟩ := hx; exact .slnil _ hk
  | slz b o => intro x hx hb; cases x <;> simp [AVal.ren] at hx; obtain ⟨rfl, rfl, rfl⟩ := hx; exact .slz b o
  | sl cells n k b o cap vs hk hn hd hv hm' ih =>
    intro x hx hb
    cases x <;> simp [AVal.ren] at hx
    obtain ⟨rfl, rfl, rfl⟩ := hx
    refine .sl _ _ _ b o cap vs hk hn hd (fun i hi => ?_) (fun i hi => hmem _ _ _ (hm' i hi))
    have hdi := (dataAll_iff _).1 hd i hi
    exact ih i hi _ (AVal.ren_data _ hdi) (AVal.lt_of_data _ _ hdi)
  | agg cells vs hl hv ih =>
    intro x hx hb
    cases x <;> simp [AVal.ren] at hx
    subst hx
    rw [renAll_length] at hl
    refine .agg _ vs hl fun i hi => ih i (by rw [renAll_length]; exact hi) _ (renAll_getD ρ _ i).symm ((ltAll_iff _ _).1 hb i hi)
  | tup cells vs hl hv ih =>
    intro x hx hb
    cases x <;> simp [AVal.ren] at hx
    subst hx
    rw [renAll_length] at hl
    refine .tup _ vs hl fun i hi => ih i (by rw [renAll_length]; exact hi) _ (renAll_getD ρ _ i).symm ((ltAll_iff _ _).1 hb i hi)
  | ptr id off r b hr hs hmi =>
    intro x hx hb
    cases x <;> simp [AVal.ren] at hx
    obtain ⟨rfl, rfl⟩ := hx
    have hid := of_decide_eq_true hb
    obtain ⟨r2, h1, h2⟩ := hget hid hr
    subst h2
    exact .ptr _ _ r2 b h1 hs ((hm _ hid).trans hmi)
  | ptrLost id off r v hr hs =>
    intro x hx hb
    cases x <;> simp [AVal.ren] at hx
    obtain ⟨rfl, rfl⟩ := hx
    have hid := of_decide_eq_true hb
    obtain ⟨r2, h1, h2⟩ := hget hid hr
    subst h2
    exact .ptrLost _ _ r2 _ h1 hs
  | dptr cells b o vs hd hv hm' ih =>
    intro x hx hb
    cases x <;> simp [AVal.ren] at hx
    subst hx
    refine .dptr _ b o vs hd (fun i hi => ?_) (fun i hi => hmem _ _ _ (hm' i hi))
    have hdi := (dataAll_iff _).1 hd i hi
    exact ih i hi _ (AVal.ren_data _ hdi) (AVal.lt_of_data _ _ hdi)
  | rowF id off n b cap r hr hs hmi hn ho hc =>
    intro x hx hb
    cases x <;> simp [AVal.ren] at hx
    obtain ⟨rfl, rfl, rfl⟩ := hx
    have hid := of_decide_eq_true hb
    obtain ⟨r2, h1, h2⟩ := hget hid hr
    subst h2
    exact .rowF _ _ _ b cap r2 h1 hs ((hm _ hid).trans hmi) hn (by simpa [Row.ren, renAll_length] using ho) (fun i hi => by rw [hw]; exact hc i hi)
  | rowV id r base hr hs =>
    intro x hx hb
    cases x <;> simp [AVal.ren] at hx
    obtain ⟨rfl, rfl, rfl⟩ := hx
    have hid := of_decide_eq_true hb
    obtain ⟨r2, h1, h2⟩ := hget hid hr
    subst h2
    refine .rowV _ r2 base h1 ?_
    rcases hs with hs | hs | hs
    · exact .inl hs
    · exact .inr (.inl ⟨hs.1, (hm _ hid).trans hs.2⟩)
    · refine .inr (.inr ⟨hs.1, fun h0 => hs.2 ?_⟩)
      simp [Row.ren, h0, renAll]
  | rowG id off n b o cap r vs hr hs hn ho hd hv hm' he ih =>
    intro x hx hb
    cases x <;> simp [AVal.ren] at hx
    rename_i id' off' n'
    obtain ⟨rfl, rfl, rfl⟩ := hx
    have hid := of_decide_eq_true hb
    obtain ⟨r2, h1, h2⟩ := hget hid hr
    subst h2
    have hd2 : ∀ i, i < n' * r2.esz → (r2.cells.getD (off' + i) .undef).data = true := fun i hi => by
      have := hd i hi
      simp only [Row.ren, renAll_getD, AVal.data_ren] at this; exact this
    refine .rowG _ _ _ b o cap r2 vs h1 hs hn (by simpa [Row.ren, renAll_length] using ho) hd2 (fun i hi => ?_) (fun i hi => hmem _ _ _ (hm' i hi)) (fun hg hend => ?_)
    · exact ih i hi _ (by simp only [Row.ren, renAll_getD]) (AVal.lt_of_data _ _ (hd2 i hi))
    · obtain ⟨k1, k2, k3⟩ := he hg (by simpa [Row.ren, renAll_length] using hend)
      exact ⟨(hm _ hid).trans k1, k2, fun i hi => by rw [hw]; exact k3 i hi⟩
  | fn f cap vs hl hv ih =>
    intro x hx hb
    cases x <;> simp [AVal.ren] at hx
    obtain ⟨rfl, rfl⟩ := hx
    rw [renAll_length] at hl
    refine .fn _ _ vs hl fun i hi => ih i (by rw [renAll_length]; exact hi) _ (renAll_getD ρ _ i).symm ((ltAll_iff _ _).1 hb i hi)
  | ifc t x v h ih =>
    intro x hx hb
    cases x <;> simp [AVal.ren] at hx
    obtain ⟨rfl, rfl⟩ := hx
    exact .ifc _ _ v (ih _ rfl hb)
  | mp id r b hr hs hmi =>
    intro x hx hb
    cases x <;> simp [AVal.ren] at hx
    subst hx
    have hid := of_decide_eq_true hb
    obtain ⟨r2, h1, h2⟩ := hget hid hr
    subst h2
    exact .mp _ r2 b h1 hs ((hm _ hid).trans hmi)

/-- Rows forgotten, and with other numbers from N on. -/
theorem drop_step {E1 : Env} (hE : Rel E1) {N : Nat} {ρ : Nat → Nat} {rows2 : List Row} (hN : ∀ i, i < N → ρ i = i) (hNl : N ≤ rows2.length)
    (hinj : ∀ i j, i < rows2.length → j < rows2.length → ρ i = ρ j → i = j)
    (hrow : ∀ (i : Nat) (r : Row), rows2[i]? = some r → E1.rows[ρ i]? = some (r.ren ρ) ∧ (r.st ≠ .frozen → ltAll rows2.length r.cells = true)) :
    let E2 : Env := ⟨rows2, fun i => E1.m (ρ i), E1.w, E1.x⟩
    Rel E2 ∧ Evo N E1 E2 ∧ ∀ x v, V E1 (x.ren ρ) v → x.refLt rows2.length = true → V E2 x v := by
  intro E2
  have hV : ∀ x v, V E1 (x.ren ρ) v → x.refLt rows2.length = true → V E2 x v := fun x v h hb =>
    V.unren (E1 := E1) (E2 := E2) rfl rfl (fun i r h => (hrow i r h).1) (fun i _ => rfl) h x rfl hb
  refine ⟨⟨hE.xlt, fun i r b hr hns hmi => hE.xr (ρ i) _ b (hrow i r hr).1 hns hmi, ?_, ?_, ?_, ?_⟩, ⟨fun x v h hb => hV x v (by rw [AVal.ren_lt hN x hb]; exact h) (AVal.lt_mono hNl x hb), Nat.le_refl _, ?_, rfl, rfl, rfl⟩, hV⟩
  · intro i j r s b hr hs hnr hns hi hj
    exact hinj i j (lt_of_get hr) (lt_of_get hs) (hE.inj (ρ i) (ρ j) _ _ b (hrow i r hr).1 (hrow j s hs).1 hnr hns hi hj)
  · intro i r hr hns hnm
    rcases hE.own (ρ i) _ (hrow i r hr).1 hns hnm with h | ⟨b, c, e, h1, h2, h3, h4⟩
    · refine .inl ⟨h.1, ?_⟩
      have h0 : (renAll ρ r.cells).length = 0 := by rw [show renAll ρ r.cells = [] from h.2]; rfl
      rw [renAll_length] at h0; exact List.eq_nil_of_length_eq_zero h0
    · refine .inr ⟨b, c, e, h1, h2, by simpa [Row.ren, renAll_length] using h3, fun j hj => ?_⟩
      have := h4 j (by simpa [Row.ren, renAll_length] using hj)
      refine hV _ _ (by simpa only [Row.ren, renAll_getD] using this) ((ltAll_iff _ _).1 ((hrow i r hr).2 hns) j hj)
  · intro i r hr hg
    have := hE.grown (ρ i) _ (hrow i r hr).1 hg
    simpa [Row.ren, dataAll_ren] using this
  · intro i r hr hg
    obtain ⟨b, es, k, h1, h2, h3, h4⟩ := hE.map (ρ i) _ (hrow i r hr).1 hg
    have h3' : r.cells.length = 2 * es.size := by simpa [Row.ren, renAll_length] using h3
    have hlt := (ltAll_iff _ _).1 ((hrow i r hr).2 (by simp [hg]))
    refine ⟨b, es, k, h1, h2, h3', fun j hj => ⟨hV _ _ ?_ (hlt _ (by omega)), hV _ _ ?_ (hlt _ (by omega))⟩⟩
    · simpa only [Row.ren, renAll_getD] using (h4 j hj).1
    · simpa only [Row.ren, renAll_getD] using (h4 j hj).2
  · intro b hb hf
    exact ⟨rfl, fun i r hr hns hmi => hf (ρ i) _ (hrow i r hr).1 hns hmi⟩
end Go.Abs
