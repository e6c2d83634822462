/- Walks and laws. -/
import Derived.Test.YtikllaiggklljaaNet8
import Derived.Test.YtikllaiggklljaaLibC
set_option maxRecDepth 100000
set_option maxHeartbeats 0
set_option linter.unusedSimpArgs false
set_option linter.unusedVariables false
namespace Go.Net
open Go Go.Abs Go.Proofs
def kp (k i : Nat) : Nat := if i ≤ k then i else i - 1
theorem rm_at (l : List FlD) (k i : Nat) (hk : k < l.length) (hi : i < l.length) (h : i ≠ k) : l.getD i fl0 = (rmL l k).getD (kp k i) fl0 := by
  unfold rmL kp
  simp only [List.getD_eq_getElem?_getD]
  split
  · rw [List.getElem?_append_left (by rw [List.length_take]; omega), List.getElem?_take, if_pos (by omega)]
  · rw [List.getElem?_append_right (by rw [List.length_take]; omega), List.length_take, List.getElem?_drop, show k + 1 + (i - 1 - min k l.length) = i by omega]
def unk (k j : Nat) : Nat := if j < k then j else j + 1
theorem rm_get (l : List FlD) (k j : Nat) (hk : k < l.length) (hj : j < l.length - 1) : (rmL l k).getD j fl0 = l.getD (unk k j) fl0 := by
  rw [rm_at l k (unk k j) hk (by unfold unk; split <;> omega) (by unfold unk; split <;> omega)]
  congr 1; unfold kp unk; split <;> split <;> omega
end Go.Net
