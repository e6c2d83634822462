/- Walks and laws. -/
import Derived.Test.YtgpikfncinkjlaaId0
set_option linter.unusedSimpArgs false
set_option linter.unusedVariables false
namespace Go.Tr
open Go Go.Abs
theorem beqT_self (t : T) : beqT t t = true := (beqT_iff t t).2 rfl
theorem size_splitP (t : T) : size (splitP t).1 ≤ size t + 2 ∧ size (splitP t).2.1 ≤ size t + 2 := by
  have h := halves_size t
  have hp := size_pos t
  unfold splitP
  (repeat' split) <;> first | exact h | (simp only [size, sizes]; omega)
theorem size_sumP (a b : T) : size (sumP a b).1 ≤ size a + size b := by
  have h := sum_size a b
  have hp := size_pos a
  unfold sumP
  (repeat' split) <;> first | exact h | (simp only [size, sizes]; omega)
/-! ### who owns what -/
/-- along a path -/
def ownI : T → (Nat → Bool) → Prop
  | .mk n [], _ => n = 1
  | .mk _ [a, b], f => if f 0 = true then ownI b (fun i => f (i + 1)) else ownI a (fun i => f (i + 1))
  | _, _ => False
  termination_by structural t => t
def pathC (c : Bool) (f : Nat → Bool) : Nat → Bool
  | 0 => c
  | i + 1 => f i
/-! ### splits -/
end Go.Tr
