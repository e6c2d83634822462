/- Library: an abstract machine over the model, part 30. -/
import Derived.Test.YtmcjdeiicbgmhabAbs29
set_option linter.unusedVariables false
set_option linter.unusedSimpArgs false
namespace Go.Abs
open Go
/-- A new row of data that is only appended to from now on. -/
theorem grow_step {E : Env} (hE : Rel E) {id : Nat} {r : Row} (hr : E.rows[id]? = some r) (hs : r.st = .fresh) (hd : dataAll r.cells = true) :
    let E' : Env := ⟨E.rows.set id { r with st := .grown }, E.m, E.w, E.x⟩
    Rel E' ∧ Evo E.rows.length E E' := by
  intro E'
  have hnf : r.st ≠ .frozen := by simp [hs]
  have hI : ∀ b o v, Imm E b o → E.w.cell? ⟨b, o, none⟩ = some v → Imm E' b o ∧ E'.w.cell? ⟨b, o, none⟩ = some v := by
    intro b o v h hc
    refine ⟨⟨h.1, h.2.1, ?_⟩, hc⟩
    intro i s hs1 hns hm
    rcases get_set_cases hs1 with ⟨a1, a2, _⟩ | ⟨_, h2⟩
    · subst a1; have := h.2.2 i r hr hnf hm; rw [hs] at this; simp at this
    · exact h.2.2 i s h2 hns hm
  have hV1 : ∀ x v, V E x v → x.data = true → V E' x v := fun x v h hdx =>
    V.mono (N := 0) hI (fun id r h _ => absurd h (by omega)) h (AVal.lt_of_data 0 x hdx)
  have hV : ∀ x v, V E x v → V E' x v := fun x v h => by
    refine V.mono (N := E.rows.length) hI (fun i s _ hs1 => ?_) h h.refLt
    by_cases hi : i = id
    · subst hi
      rw [hr] at hs1; cases hs1
      refine ⟨_, get_set_same hr, ?_⟩
      refine .left hs (.inl rfl) rfl (Nat.le_refl _) ?_ (fun _ _ => ⟨rfl, fun _ _ _ h => h⟩)
      intro b hb j hj
      obtain ⟨c, e, hbk, hbl, hbv⟩ := hE.block hr (.inl hs) hb
      have hdj := (dataAll_iff _).1 hd j hj
      refine ⟨⟨lt_of_heap hbk, hE.xr i r b hr hnf hb j, ?_⟩, hdj, _, cell_getD hbk (by omega), hV1 _ _ (hbv j hj) hdj⟩
      intro i' s' hs' hns hmi
      rcases get_set_cases hs' with ⟨a1, a2, _⟩ | ⟨a1, a2⟩
      · subst a2; exact ⟨rfl, hj⟩
      · exact absurd (hE.inj i' i s' r b a2 hr hns hnf hmi hb) a1
    · exact ⟨s, by rw [get_set_other hi]; exact hs1, RowEvo.keep rfl (fun _ _ _ _ h => h)⟩
  refine ⟨⟨hE.xlt, ?_, ?_, ?_, ?_, ?_⟩, ⟨fun x v h _ => hV x v h, Nat.le_refl _, ?_, rfl, rfl, rfl⟩⟩
  · intro i s b h1 hns hmi o hx
    rcases get_set_cases h1 with ⟨a1, a2, _⟩ | ⟨_, a2⟩
    · subst a1; exact hE.xr i r b hr hnf hmi o hx
    · exact hE.xr i s b a2 hns hmi o hx
  · intro i j s t b h1 h2 hn1 hn2 hi hj
    rcases get_set_cases h1 with ⟨a1, a2, _⟩ | ⟨_, a2⟩
    · subst a1
      rcases get_set_cases h2 with ⟨d1, d2, _⟩ | ⟨_, d2⟩
      · exact d1.symm
      · exact hE.inj i j r t b hr d2 hnf hn2 hi hj
    · rcases get_set_cases h2 with ⟨d1, d2, _⟩ | ⟨_, d2⟩
      · subst d1; exact hE.inj i j s r b a2 hr hn1 hnf hi hj
      · exact hE.inj i j s t b a2 d2 hn1 hn2 hi hj
  · intro i s h1 hns hnm
    rcases get_set_cases h1 with ⟨a1, a2, _⟩ | ⟨_, a2⟩
    · subst a1; subst a2
      rcases hE.own i r hr hnf (by simp [hs]) with h | ⟨b, c', e', g1, g2, g3, g4⟩
      · exact .inl h
      · exact .inr ⟨b, c', e', g1, g2, g3, fun j hj => hV _ _ (g4 j hj)⟩
    · rcases hE.own i s a2 hns hnm with h | ⟨b, c', e', h1, h2, h3, h4⟩
      · exact .inl h
      · exact .inr ⟨b, c', e', h1, h2, h3, fun j hj => hV _ _ (h4 j hj)⟩
  · intro i s h1 hg
    rcases get_set_cases h1 with ⟨_, a2, _⟩ | ⟨_, a2⟩
    · subst a2; exact hd
    · exact hE.grown i s a2 hg
  · intro i s h1 hg
    rcases get_set_cases h1 with ⟨_, a2, _⟩ | ⟨_, a2⟩
    · subst a2; simp at hg
    · obtain ⟨b, es, k, h1, h2, h3, h4⟩ := hE.map i s a2 hg
      exact ⟨b, es, k, h1, h2, h3, fun j hj => ⟨hV _ _ (h4 j hj).1, hV _ _ (h4 j hj).2⟩⟩
  · intro b hb hfree
    refine ⟨rfl, fun i s h1 hns hmi => ?_⟩
    rcases get_set_cases h1 with ⟨a1, a2, _⟩ | ⟨_, a2⟩
    · subst a1; exact hfree i r hr hnf hmi
    · exact hfree i s a2 hns hmi
theorem AWP.grow {P : Program} {N : Nat} {c : Code} {Q : Exit → St → Prop} {st : St} (id : Nat) (r : Row) (st' : St) (h : st.rows[id]? = some r ∧ (⟨st.regs, st.rows.set id { r with st := .grown }⟩ : St) = st') (hs : r.st = .fresh) (hd : dataAll r.cells = true)
    (k : AWP P N c Q st') : AWP P N c Q st := by
  obtain ⟨h1, rfl⟩ := h
  refine AWP.weaken ?_ k
  intro hN
  refine ⟨by simpa using hN, fun X m w a ha => ?_⟩
  obtain ⟨a1, a2⟩ := grow_step (E := ⟨st.rows, m, w, X⟩) ha.rel h1 hs hd
  exact ⟨m, ⟨a1, ha.len, fun i hi => a2.val _ _ (ha.regs i hi) (ha.regs i hi).refLt, ha.defers⟩, a2.mono hN⟩
end Go.Abs
