/- Walks and laws. -/
import Derived.Test.YtgpikfncinkjlaaStU
import Derived.Test.YtgpikfncinkjlaaSt5
set_option linter.unusedSimpArgs false
set_option linter.unusedVariables false
namespace Go.Tr
open Go Go.Abs Go.Proofs
theorem leaf_val : ∀ (t : T) (k : Nat) (p : Int), validI t = true → leafI t k p = valE t (fun i => decide (bitI p (k - 1 - i) ≠ 0))
  | .mk n [], k, p, h => rfl
  | .mk n [a, b], k, p, h => by
    obtain ⟨v0, v1, v2⟩ := valid_kids h
    rw [leaf_two, val_two, v0, leaf_val a (k - 1) p v1, leaf_val b (k - 1) p v2]
    have e : ∀ i : Nat, k - 1 - 1 - i = k - 1 - (i + 1) := fun i => by omega
    simp only [e, Nat.sub_zero, decide_eq_true_eq]
    by_cases hb : bitI p (k - 1) = 0
    · rw [if_pos hb, if_neg (by omega)]; omega
    · rw [if_neg hb, if_pos hb]; omega
  | .mk n [a], k, p, h => by simp [validI] at h
  | .mk n (a :: b :: c :: r), k, p, h => by simp [validI] at h
theorem next_at {i e : T} (hi : size i ≤ 1000) (hci : checkI i = true) (h0 : ¬ isT i 0) (hce : checkE e = true) (hck : checkE (nextE i e) = true) (p : Int) : atP e p = atP (nextE i e) p ∨ (atP e p < atP (nextE i e) p ∧ ownsP i p) := by
  obtain ⟨f1, f2, f3, f4⟩ := next_facts hi hci h0 hce
  have hv := ((rough_iff _ 16 (by omega)).1 (check_rough hci)).1
  unfold atP
  by_cases hp : 0 ≤ p ∧ p < 65536
  · rw [if_pos ⟨hp, hce⟩, if_pos ⟨hp, hck⟩, at_val, at_val]
    by_cases he : valE e (fun i => decide (bitI p (16 - 1 - i) ≠ 0)) = valE (nextE i e) (fun i => decide (bitI p (16 - 1 - i) ≠ 0))
    · exact .inl he
    · refine .inr ⟨by have := f2 (fun i => decide (bitI p (16 - 1 - i) ≠ 0)); omega, hp, hci, ?_⟩
      rw [leaf_val _ _ _ hv]
      exact f3 _ he
  · exact .inl (by rw [if_neg (fun h => hp h.1), if_neg (fun h => hp h.1)])
theorem next_leq {i e : T} (hi : size i ≤ 1000) (hci : checkI i = true) (h0 : ¬ isT i 0) (hce : checkE e = true) (hck : checkE (nextE i e) = true) : leqP e (nextE i e) = true ∧ leqP (nextE i e) e = false := by
  obtain ⟨f1, f2, f3, f, f4⟩ := next_facts hi hci h0 hce
  refine ⟨(leqP_iff hce hck).2 f2, ?_⟩
  cases h : leqP (nextE i e) e
  · rfl
  · have := (leqP_iff hck hce).1 h f
    have := f2 f
    exact absurd (by omega) f4
theorem event_cases {a e : T} (ha : size a ≤ 1000) (hca : checkI a = true) (h0 : ¬ isT a 0) (hce : checkE e = true) : eventP a e = ((.mk 0 [], .mk 0 []), 41) ∨ eventP a e = ((.mk 0 [], .mk 0 []), 40) ∨ (eventP a e = ((a, nextE a e), 0) ∧ checkE (nextE a e) = true) := by
  have hc : checkS a e = true := by simp [checkS, hca, hce]
  rw [eventP, if_pos hc, if_neg h0]
  by_cases h1 : endE true (nextE a e) > 1073741824
  · exact .inl (by rw [if_pos h1])
  · by_cases h2 : depthT (nextE a e) > 16
    · exact .inr (.inl (by rw [if_neg h1, if_pos h2]))
    · exact .inr (.inr ⟨by rw [if_neg h1, if_neg h2], next_check ha hca h0 hce h1 h2⟩)
end Go.Tr
