/- Walks and laws. -/
import Derived.Test.YtgpikfncinkjlaaStP
set_option linter.unusedSimpArgs false
set_option linter.unusedVariables false
namespace Go.Tr
open Go Go.Abs
/-- What grow does to the counts. -/
theorem grow_val : ∀ (i e : T), validI i = true → binT e = true → ∀ f, valE e f ≤ valE (growE i e).1 f ∧ (valE e f ≠ valE (growE i e).1 f → valE i f = 1 ∨ ¬ (normI i = i ∧ ¬ isT i 0))
  | .mk n [], .mk m ls, hv, hb, f => by
    rw [grow_one]
    have := val_lift 1 (.mk m ls) f hb
    simp only [liftT, T.n_mk, T.ks_mk] at this
    refine ⟨by show valE (.mk m ls) f ≤ valE (.mk (m + 1) ls) f; omega, fun _ => ?_⟩
    have hv' : n = 0 ∨ n = 1 := by simpa only [validI, decide_eq_true_eq] using hv
    rcases hv' with rfl | rfl
    · exact .inr fun h => h.2 ⟨rfl, rfl⟩
    · exact .inl rfl
  | .mk n [a, b], .mk m [], hv, hb, f => by
    obtain ⟨v0, v1, v2⟩ := valid_kids hv
    have i1 := grow_val a (.mk 0 []) v1 rfl (fun i => f (i + 1))
    have i2 := grow_val b (.mk 0 []) v2 rfl (fun i => f (i + 1))
    simp only [val_one] at i1 i2
    have key : ∀ x y : T, (x = .mk 0 [] ∧ y = (growE b (.mk 0 [])).1 ∧ ¬ isT b 0) ∨ (x = (growE a (.mk 0 [])).1 ∧ y = .mk 0 [] ∧ ¬ isT a 0) ∨ ((normI (.mk n [a, b]) ≠ .mk n [a, b]) ∧ 0 ≤ valE x (fun i => f (i + 1)) ∧ 0 ≤ valE y (fun i => f (i + 1))) → valE (.mk m []) f ≤ valE (.mk m [x, y]) f ∧ (valE (.mk m []) f ≠ valE (.mk m [x, y]) f → valE (.mk n [a, b]) f = 1 ∨ ¬ (normI (.mk n [a, b]) = .mk n [a, b] ∧ ¬ isT (.mk n [a, b]) 0)) := by
      intro x y hxy
      rw [val_one, val_two, val_two]
      by_cases hn : normI (.mk n [a, b]) = .mk n [a, b]
      · obtain ⟨x1, x2, x3, _⟩ := norm_kids hn
        rcases hxy with ⟨rfl, rfl, hz⟩ | ⟨rfl, rfl, hz⟩ | hxy
        · rw [val_one]
          split
          · refine ⟨by omega, fun hh => .inl ?_⟩
            rcases i2.2 (by omega) with h | h
            · omega
            · exact absurd ⟨x2, hz⟩ h
          · exact ⟨by omega, fun hh => absurd (by omega) hh⟩
        · rw [val_one]
          split
          · exact ⟨by omega, fun hh => absurd (by omega) hh⟩
          · refine ⟨by omega, fun hh => .inl ?_⟩
            rcases i1.2 (by omega) with h | h
            · omega
            · exact absurd ⟨x1, hz⟩ h
        · exact absurd hn hxy.1
      · refine ⟨?_, fun _ => .inr fun h => hn h.1⟩
        rcases hxy with ⟨rfl, rfl, hz⟩ | ⟨rfl, rfl, hz⟩ | hxy
        · rw [val_one]; split <;> omega
        · rw [val_one]; split <;> omega
        · split <;> omega
    rw [grow_e, grow_two]
    by_cases ha : isT a 0
    · rw [if_pos ha]
      refine key _ _ ?_
      by_cases hb : isT b 0
      · refine .inr (.inr ⟨fun hn => not_zero hn ha hb, by rw [val_one]; omega, by omega⟩)
      · exact .inl ⟨rfl, rfl, hb⟩
    · rw [if_neg ha]
      by_cases hb : isT b 0
      · rw [if_pos hb]; exact key _ _ (.inr (.inl ⟨rfl, rfl, ha⟩))
      · rw [if_neg hb]
        split
        · exact key _ _ (.inr (.inl ⟨rfl, rfl, ha⟩))
        · exact key _ _ (.inl ⟨rfl, rfl, hb⟩)
  | .mk n [a, b], .mk m [c, d], hv, hb, f => by
    obtain ⟨v0, v1, v2⟩ := valid_kids hv
    obtain ⟨b1, b2⟩ := bin_kids hb
    have i1 := grow_val a c v1 b1 (fun i => f (i + 1))
    have i2 := grow_val b d v2 b2 (fun i => f (i + 1))
    have key : ∀ x y : T, (x = c ∧ y = (growE b d).1 ∧ (¬ isT b 0 ∨ normI (.mk n [a, b]) ≠ .mk n [a, b])) ∨ (x = (growE a c).1 ∧ y = d ∧ ¬ isT a 0) → valE (.mk m [c, d]) f ≤ valE (.mk m [x, y]) f ∧ (valE (.mk m [c, d]) f ≠ valE (.mk m [x, y]) f → valE (.mk n [a, b]) f = 1 ∨ ¬ (normI (.mk n [a, b]) = .mk n [a, b] ∧ ¬ isT (.mk n [a, b]) 0)) := by
      intro x y hxy
      rw [val_two, val_two, val_two]
      by_cases hn : normI (.mk n [a, b]) = .mk n [a, b]
      · obtain ⟨x1, x2, x3, _⟩ := norm_kids hn
        rcases hxy with ⟨rfl, rfl, hz⟩ | ⟨rfl, rfl, hz⟩
        · split
          · refine ⟨by omega, fun hh => .inl ?_⟩
            rcases i2.2 (by omega) with h | h
            · omega
            · rcases hz with hz | hz
              · exact absurd ⟨x2, hz⟩ h
              · exact absurd hn hz
          · exact ⟨by omega, fun hh => absurd (by omega) hh⟩
        · split
          · exact ⟨by omega, fun hh => absurd (by omega) hh⟩
          · refine ⟨by omega, fun hh => .inl ?_⟩
            rcases i1.2 (by omega) with h | h
            · omega
            · exact absurd ⟨x1, hz⟩ h
      · refine ⟨?_, fun _ => .inr fun h => hn h.1⟩
        rcases hxy with ⟨rfl, rfl, hz⟩ | ⟨rfl, rfl, hz⟩
        · split <;> omega
        · split <;> omega
    rw [grow_two]
    by_cases ha : isT a 0
    · rw [if_pos ha]
      refine key _ _ (.inl ⟨rfl, rfl, ?_⟩)
      by_cases hb : isT b 0
      · exact .inr fun hn => not_zero hn ha hb
      · exact .inl hb
    · rw [if_neg ha]
      by_cases hb : isT b 0
      · rw [if_pos hb]; exact key _ _ (.inr ⟨rfl, rfl, ha⟩)
      · rw [if_neg hb]
        split
        · exact key _ _ (.inr ⟨rfl, rfl, ha⟩)
        · exact key _ _ (.inl ⟨rfl, rfl, .inl hb⟩)
  | .mk n [a, b], .mk m [c], hv, hb, f => by simp [binT] at hb
  | .mk n [a, b], .mk m (c :: e :: g :: r), hv, hb, f => by simp [binT] at hb
  | .mk n [a], e, hv, hb, f => by simp [validI] at hv
  | .mk n (a :: b :: c :: r), e, hv, hb, f => by simp [validI] at hv
theorem grow_more : ∀ (i e : T), validI i = true → normI i = i → ¬ isT i 0 → binT e = true → ∃ f, valE e f ≠ valE (growE i e).1 f
  | .mk n [], .mk m ls, hv, hn, h0, hb => by
    rw [grow_one]
    have := val_lift 1 (.mk m ls) (fun _ => true) hb
    simp only [liftT, T.n_mk, T.ks_mk] at this
    exact ⟨fun _ => true, by show valE (.mk m ls) _ ≠ valE (.mk (m + 1) ls) _; omega⟩
  | .mk n [a, b], .mk m [], hv, hn, h0, hb => by
    obtain ⟨v0, v1, v2⟩ := valid_kids hv
    obtain ⟨x1, x2, x3, _⟩ := norm_kids hn
    have L : ¬ isT a 0 → ∃ f, valE (.mk m []) f ≠ valE (.mk m [(growE a (.mk 0 [])).1, .mk 0 []]) f := fun ha => by
      obtain ⟨f, hf⟩ := grow_more a (.mk 0 []) v1 x1 ha rfl
      rw [val_one] at hf
      exact ⟨pathD false f, by rw [val_l, val_one]; omega⟩
    have R : ¬ isT b 0 → ∃ f, valE (.mk m []) f ≠ valE (.mk m [.mk 0 [], (growE b (.mk 0 [])).1]) f := fun ha => by
      obtain ⟨f, hf⟩ := grow_more b (.mk 0 []) v2 x2 ha rfl
      rw [val_one] at hf
      exact ⟨pathD true f, by rw [val_r, val_one]; omega⟩
    rw [grow_e, grow_two]
    by_cases ha : isT a 0
    · rw [if_pos ha]; exact R (not_zero hn ha)
    · rw [if_neg ha]
      by_cases hb : isT b 0
      · rw [if_pos hb]; exact L ha
      · rw [if_neg hb]
        split
        · exact L ha
        · exact R hb
  | .mk n [a, b], .mk m [c, d], hv, hn, h0, hb => by
    obtain ⟨v0, v1, v2⟩ := valid_kids hv
    obtain ⟨b1, b2⟩ := bin_kids hb
    obtain ⟨x1, x2, x3, _⟩ := norm_kids hn
    have L : ¬ isT a 0 → ∃ f, valE (.mk m [c, d]) f ≠ valE (.mk m [(growE a c).1, d]) f := fun ha => by
      obtain ⟨f, hf⟩ := grow_more a c v1 x1 ha b1
      exact ⟨pathD false f, by rw [val_l, val_l]; omega⟩
    have R : ¬ isT b 0 → ∃ f, valE (.mk m [c, d]) f ≠ valE (.mk m [c, (growE b d).1]) f := fun ha => by
      obtain ⟨f, hf⟩ := grow_more b d v2 x2 ha b2
      exact ⟨pathD true f, by rw [val_r, val_r]; omega⟩
    rw [grow_two]
    by_cases ha : isT a 0
    · rw [if_pos ha]; exact R (not_zero hn ha)
    · rw [if_neg ha]
      by_cases hb : isT b 0
      · rw [if_pos hb]; exact L ha
      · rw [if_neg hb]
        split
        · exact L ha
        · exact R hb
  | .mk n [a, b], .mk m [c], hv, hn, h0, hb => by simp [binT] at hb
  | .mk n [a, b], .mk m (c :: e :: g :: r), hv, hn, h0, hb => by simp [binT] at hb
  | .mk n [a], e, hv, hn, h0, hb => by simp [validI] at hv
  | .mk n (a :: b :: c :: r), e, hv, hn, h0, hb => by simp [validI] at hv
end Go.Tr
