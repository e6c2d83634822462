/- Walks and laws. -/
import Derived.Test.YtgpikfncinkjlaaStU
import Derived.Test.YtgpikfncinkjlaaSt5
set_option linter.unusedSimpArgs false
set_option linter.unusedVariables false
namespace Go.Tr
open Go Go.Abs Go.Proofs
theorem sum_disj : ∀ (a b : T), validI a = true → validI b = true → (sumI a b).2 = true → ∀ f, valE a f = 0 ∨ valE b f = 0
  | .mk n [], .mk m ls, ha, hb, h, f => by
    rw [sum_l] at h
    split at h
    · rename_i h0; exact .inl (by rw [val_one, h0])
    · split at h
      · rename_i h1
        have : ls = [] := List.length_eq_zero_iff.1 h1.1
        subst this
        exact .inr (by rw [val_one]; exact h1.2)
      · simp at h
  | .mk n [a, b], .mk m [], ha, hb, h, f => by
    rw [sum_r] at h
    split at h
    · rename_i h0; exact .inr (by rw [val_one, h0])
    · simp at h
  | .mk n [a, b], .mk m [c, d], ha, hb, h, f => by
    obtain ⟨v0, v1, v2⟩ := valid_kids ha
    obtain ⟨w0, w1, w2⟩ := valid_kids hb
    rw [sum_2] at h
    split at h
    · rename_i h1
      rw [val_two, val_two, v0, w0]
      split
      · rcases sum_disj b d v2 w2 h1.2 (fun i => f (i + 1)) with h | h
        · exact .inl (by omega)
        · exact .inr (by omega)
      · rcases sum_disj a c v1 w1 h1.1 (fun i => f (i + 1)) with h | h
        · exact .inl (by omega)
        · exact .inr (by omega)
    · simp at h
  | .mk n [a, b], .mk m [c], ha, hb, h, f => by simp [validI] at hb
  | .mk n [a, b], .mk m (c :: d :: e :: r), ha, hb, h, f => by simp [validI] at hb
  | .mk n [a], e, ha, hb, h, f => by simp [validI] at ha
  | .mk n (a :: b :: c :: r), e, ha, hb, h, f => by simp [validI] at ha
theorem next_leq {i e : T} (hi : size i ≤ 1000) (hci : checkI i = true) (h0 : ¬ isT i 0) (hce : checkE e = true) (hck : checkE (nextE i e) = true) : leqP e (nextE i e) = true ∧ leqP (nextE i e) e = false := by
  obtain ⟨f1, f2, f3, f, f4⟩ := next_facts hi hci h0 hce
  refine ⟨(leqP_iff hce hck).2 f2, ?_⟩
  cases h : leqP (nextE i e) e
  · rfl
  · have := (leqP_iff hck hce).1 h f
    have := f2 f
    exact absurd (by omega) f4
/-- Two with identities apart do not see one another. -/
theorem next_apart {a b e : T} (ha : size a ≤ 1000) (hb : size b ≤ 1000) (hca : checkI a = true) (hcb : checkI b = true) (h0 : ¬ isT a 0) (hz : ¬ isT b 0) (hce : checkE e = true) (hka : checkE (nextE a e) = true) (hkb : checkE (nextE b e) = true) (hs : (sumI a b).2 = true) : leqP (nextE a e) (nextE b e) = false ∧ leqP (nextE b e) (nextE a e) = false := by
  obtain ⟨f1, f2, f3, f, f4⟩ := next_facts ha hca h0 hce
  obtain ⟨g1, g2, g3, g, g4⟩ := next_facts hb hcb hz hce
  have va := ((rough_iff _ 16 (by omega)).1 (check_rough hca)).1
  have vb := ((rough_iff _ 16 (by omega)).1 (check_rough hcb)).1
  constructor
  · cases h : leqP (nextE a e) (nextE b e)
    · rfl
    · have h1 := (leqP_iff hka hkb).1 h f
      have h2 := f3 f f4
      have h3 := f2 f
      rcases sum_disj a b va vb hs f with h5 | h5
      · omega
      · by_cases h6 : valE e f = valE (nextE b e) f
        · exact absurd (by omega) f4
        · have := g3 f h6; omega
  · cases h : leqP (nextE b e) (nextE a e)
    · rfl
    · have h1 := (leqP_iff hkb hka).1 h g
      have h2 := g3 g g4
      have h3 := g2 g
      rcases sum_disj a b va vb hs g with h5 | h5
      · by_cases h6 : valE e g = valE (nextE a e) g
        · exact absurd (by omega) g4
        · have := f3 g h6; omega
      · omega
theorem event_cases {a e : T} (ha : size a ≤ 1000) (hca : checkI a = true) (h0 : ¬ isT a 0) (hce : checkE e = true) : eventP a e = ((.mk 0 [], .mk 0 []), 41) ∨ eventP a e = ((.mk 0 [], .mk 0 []), 40) ∨ (eventP a e = ((a, nextE a e), 0) ∧ checkE (nextE a e) = true) := by
  have hc : checkS a e = true := by simp [checkS, hca, hce]
  rw [eventP, if_pos hc, if_neg h0]
  by_cases h1 : endE true (nextE a e) > 1073741824
  · exact .inl (by rw [if_pos h1])
  · by_cases h2 : depthT (nextE a e) > 16
    · exact .inr (.inl (by rw [if_neg h1, if_pos h2]))
    · exact .inr (.inr ⟨by rw [if_neg h1, if_neg h2], next_check ha hca h0 hce h1 h2⟩)
end Go.Tr
