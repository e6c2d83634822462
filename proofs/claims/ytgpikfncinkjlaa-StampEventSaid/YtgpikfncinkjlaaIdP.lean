/- Walks and laws. -/
import Derived.Test.YtgpikfncinkjlaaId0
set_option linter.unusedSimpArgs false
set_option linter.unusedVariables false
namespace Go.Tr
open Go Go.Abs
theorem beqT_self (t : T) : beqT t t = true := (beqT_iff t t).2 rfl
/-! ### who owns what -/
theorem leaf_two (n : Int) (a b : T) (k : Nat) (p : Int) : leafI (.mk n [a, b]) k p = if bitI p (k - 1) = 0 then leafI a (k - 1) p else leafI b (k - 1) p := rfl
/-- along a path -/
def ownI : T → (Nat → Bool) → Prop
  | .mk n [], _ => n = 1
  | .mk _ [a, b], f => if f 0 = true then ownI b (fun i => f (i + 1)) else ownI a (fun i => f (i + 1))
  | _, _ => False
  termination_by structural t => t
def pathC (c : Bool) (f : Nat → Bool) : Nat → Bool
  | 0 => c
  | i + 1 => f i
/-! ### splits -/
theorem isT_eq {t : T} {n : Int} (h : isT t n) : t = .mk n [] := by
  match t, h with
  | .mk m [], h => rw [show m = n from h.2]
  | .mk m (a :: l), h => exact absurd h.1 (by simp)
theorem share_zero {t : T} (h : isT t 0) (k : Int) : shareI t k = 0 := by rw [isT_eq h, share_one]; omega
end Go.Tr
