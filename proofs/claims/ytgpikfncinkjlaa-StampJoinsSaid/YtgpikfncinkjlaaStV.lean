/- Walks and laws. -/
import Derived.Test.YtgpikfncinkjlaaStU
import Derived.Test.YtgpikfncinkjlaaSt5
set_option linter.unusedSimpArgs false
set_option linter.unusedVariables false
namespace Go.Tr
open Go Go.Abs Go.Proofs
end Go.Tr
