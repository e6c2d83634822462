/- Walks and laws. -/
import Derived.Test.YtikllaiggklljaaNet6
import Derived.Test.YtikllaiggklljaaLibC
set_option maxRecDepth 100000
set_option maxHeartbeats 0
set_option linter.unusedSimpArgs false
set_option linter.unusedVariables false
namespace Go.Net
open Go Go.Abs Go.Proofs
def cntD (a b : List Int) : Nat → Int
  | 0 => 0
  | i + 1 => if a.getD i 0 = b.getD i 0 then cntD a b i else cntD a b i + 1
def nearP (a b : List Int) : Prop := a.length = b.length ∧ cntD a b a.length ≤ 1
instance (a b : List Int) : Decidable (nearP a b) := by unfold nearP; infer_instance
end Go.Net
