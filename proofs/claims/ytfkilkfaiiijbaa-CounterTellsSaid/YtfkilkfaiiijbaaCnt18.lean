/- Walks and laws. -/
import Derived.Test.YtfkilkfaiiijbaaCnt17
set_option linter.unusedSimpArgs false
set_option linter.unusedVariables false
namespace Go.Cnt
open Go Go.Abs Go.Proofs Go.Ops
/-- An amount where it belongs. -/
def insA (x : AmtD) : List AmtD → List AmtD
  | [] => [x]
  | a :: l => if lessA a x then a :: insA x l else x :: a :: l
theorem insA_eq (x : AmtD) : ∀ am : List AmtD, ∃ i, i ≤ am.length ∧ (∀ j, j < i → lessA (am.getD j am0) x) ∧ (i < am.length → ¬ lessA (am.getD i am0) x) ∧ insD am i x = insA x am
  | [] => ⟨0, Nat.le_refl _, fun j h => absurd h (by omega), fun h => absurd h (by simp), rfl⟩
  | a :: l => by
    by_cases h : lessA a x
    · obtain ⟨i, h1, h2, h3, h4⟩ := insA_eq x l
      refine ⟨i + 1, by simpa using h1, fun j hj => ?_, fun hj => ?_, ?_⟩
      · cases j with
        | zero => exact h
        | succ j => simpa using h2 j (by omega)
      · simpa using h3 (by simpa using hj)
      · simp only [insA]; rw [if_pos h, ← h4]; rfl
    · refine ⟨0, by omega, fun j hj => absurd hj (by omega), fun _ => by simpa using h, ?_⟩
      simp only [insA]; rw [if_neg h]; rfl
theorem less_asym {a b : AmtD} (h : lessA a b) : ¬ lessA b a := by unfold lessA lessP at *; omega
theorem less_tot {a b : AmtD} (h : ¬ (a.p = b.p ∧ a.s = b.s ∧ a.i = b.i)) (k : ¬ lessA a b) : lessA b a := by unfold lessA lessP at *; omega
end Go.Cnt
