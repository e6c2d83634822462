/- Walks and laws. -/
import Derived.Test.YtgpikfncinkjlaaStR
set_option linter.unusedSimpArgs false
set_option linter.unusedVariables false
namespace Go.Tr
open Go Go.Abs
end Go.Tr
