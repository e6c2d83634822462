/- Walks and laws. -/
import Derived.Test.YtikllaiggklljaaLibB
import Derived.Test.YtikllaiggklljaaCrR2
set_option maxRecDepth 100000
set_option maxHeartbeats 0
set_option linter.unusedSimpArgs false
set_option linter.unusedVariables false
namespace Go.Crc
open Go Go.Abs Go.Proofs
@[simp] theorem laid_length (s : Int) : (laid s).length = 4 := rfl
end Go.Crc
