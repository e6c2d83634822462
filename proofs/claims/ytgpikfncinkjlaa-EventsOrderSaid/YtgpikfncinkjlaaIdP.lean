/- Walks and laws. -/
import Derived.Test.YtgpikfncinkjlaaId0
set_option linter.unusedSimpArgs false
set_option linter.unusedVariables false
namespace Go.Tr
open Go Go.Abs
/-! ### who owns what -/
/-- along a path -/
def ownI : T → (Nat → Bool) → Prop
  | .mk n [], _ => n = 1
  | .mk _ [a, b], f => if f 0 = true then ownI b (fun i => f (i + 1)) else ownI a (fun i => f (i + 1))
  | _, _ => False
  termination_by structural t => t
def pathC (c : Bool) (f : Nat → Bool) : Nat → Bool
  | 0 => c
  | i + 1 => f i
/-! ### splits -/
end Go.Tr
