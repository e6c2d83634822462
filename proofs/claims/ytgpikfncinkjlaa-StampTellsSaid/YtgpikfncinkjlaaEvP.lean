/- Walks and laws. -/
import Derived.Test.YtgpikfncinkjlaaEv0
set_option linter.unusedSimpArgs false
set_option linter.unusedVariables false
namespace Go.Tr
open Go Go.Abs
theorem size_bothE : ∀ (k : Nat) (a b : T), size (bothE k a b) < 2 ^ (k + 1)
  | 0, a, b => by simp [bothE, size, sizes]
  | k + 1, a, b => by
    rw [bothE]; split
    · have : 1 ≤ 2 ^ k := Nat.one_le_two_pow
      simp only [size, sizes, Nat.pow_succ] at *; omega
    · have h1 := size_bothE k (kidE a 0) (kidE b 0)
      have h2 := size_bothE k (kidE a 1) (kidE b 1)
      have := size_node 0 (bothE k (kidE a 0) (kidE b 0)) (bothE k (kidE a 1) (kidE b 1))
      rw [Nat.pow_succ]; omega
theorem size_joinP (a b : T) : size (joinP a b).1 ≤ 131072 := by
  unfold joinP; split
  · have := size_bothE 16 a b
    have e : 2 ^ (16 + 1) = 131072 := by decide
    show size (bothE 16 a b) ≤ _
    omega
  · simp only [size, sizes]; omega
/-! ### along a path -/
def valE : T → (Nat → Bool) → Int
  | .mk n [], _ => n
  | .mk n [a, b], f => n + (if f 0 = true then valE b (fun i => f (i + 1)) else valE a (fun i => f (i + 1)))
  | _, _ => 0
  termination_by structural t => t
def pathD (c : Bool) (f : Nat → Bool) : Nat → Bool
  | 0 => c
  | i + 1 => f i
/-! ### normal ones -/
/-! ### places -/
/-! ### two normal ones with the same counts are one -/
/-! ### what the laws ask -/
end Go.Tr
