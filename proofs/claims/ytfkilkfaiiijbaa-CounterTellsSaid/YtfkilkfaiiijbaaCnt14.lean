/- Walks and laws. -/
import Derived.Test.YtfkilkfaiiijbaaCnt13
set_option linter.unusedSimpArgs false
set_option linter.unusedVariables false
namespace Go.Cnt
open Go Go.Abs Go.Ops
/-! ### what is kept -/
theorem lessA_trans {a b c : AmtD} (h : lessA a b) (k : lessA b c) : lessA a c := by
  unfold lessA lessP at *; omega
theorem up_pair (l : List AmtD) : upP l ↔ l.Pairwise lessA := by
  constructor
  · intro h
    rw [List.pairwise_iff_getElem]
    intro i j hi hj hij
    have key : ∀ d, ∀ i, i + d + 1 < l.length → lessA (l.getD i am0) (l.getD (i + d + 1) am0) := by
      intro d
      induction d with
      | zero => intro i hi; exact h (i + 1) hi (by omega)
      | succ d ih =>
        intro i hi
        exact lessA_trans (ih i (by omega)) (h (i + d + 1 + 1) (by omega) (by omega))
    have := key (j - i - 1) i (by omega)
    have e : i + (j - i - 1) + 1 = j := by omega
    rw [e] at this
    simpa [List.getD_eq_getElem?_getD, hi, hj] using this
  · intro h i hi h1
    rw [List.pairwise_iff_getElem] at h
    have := h (i - 1) i (by omega) hi (by omega)
    simpa [List.getD_eq_getElem?_getD, hi, show i - 1 < l.length by omega] using this
end Go.Cnt
