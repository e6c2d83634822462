/- Walks and laws. -/
import Derived.Test.YtikllaiggklljaaRc9
import Derived.Test.YtikllaiggklljaaLibB
set_option maxRecDepth 100000
set_option maxHeartbeats 0
set_option linter.unusedSimpArgs false
set_option linter.unusedVariables false
namespace Go.Rec
open Go Go.Abs Go.Proofs Go.Crc Go.Chu
theorem endsF_getD (l : List (List Int)) (n i : Nat) (h : i < n) : (endsF l n).getD i 0 = (lay (l.take (i + 1))).length := by
  simp [endsF, List.getD_eq_getElem?_getD, h]
theorem ends_get (l : List (List Int)) (n i : Nat) (h : i < n) : List.getD (ies (endsF l n)) i .undef = .sc (.int .i64 ((lay (l.take (i + 1))).length : Int)) := by
  rw [ies_getD _ _ (by rw [endsF_length]; exact h), endsF_getD l n i h]
def cutp (a : Int) (n : Nat) : Nat := (Int.tmod a ((n : Int) + 1)).toNat
theorem lay_mono (l : List (List Int)) (i : Nat) (h : i < l.length) : (lay (l.take i)).length < (lay (l.take (i + 1))).length := by
  rw [← lay_snoc l i h, List.length_append, recd_len]; omega
theorem lay_mono2 (l : List (List Int)) : ∀ (d i : Nat), i + d ≤ l.length → (lay (l.take i)).length ≤ (lay (l.take (i + d))).length
  | 0, i, h => Nat.le_refl _
  | d + 1, i, h => Nat.le_trans (lay_mono2 l d i (by omega)) (Nat.le_of_lt (lay_mono l (i + d) (by omega)))
theorem few_up {l : List (List Int)} (hf : fewP l) (i : Nat) : (lay (l.take i)).length ≤ 6320 := by
  have h1 := hf.1
  have h2 := hf.2
  rcases Nat.le_total i l.length with h | h
  · have := lay_len_take l i h
    have := flt_le l i
    omega
  · rw [List.take_of_length_le h, lay_len]; omega
end Go.Rec
