/- Walks and laws. -/
import Derived.Test.YtikllaiggklljaaRc0
import Derived.Test.YtikllaiggklljaaLibB
import Derived.HandedShaped
import Derived.Test.YtikllaiggklljaaProg
set_option maxRecDepth 100000
set_option maxHeartbeats 0
set_option linter.unusedSimpArgs false
set_option linter.unusedVariables false
namespace Go.Rec
open Go Go.Abs Go.Proofs Go.Chu
theorem flat1 {α : Type} (f : α → AVal) (l : List α) : l.flatMap (fun x => [f x]) = l.map f := by
  induction l with
  | nil => rfl
  | cons a l ih => rw [List.flatMap_cons, ih]; rfl
end Go.Rec
