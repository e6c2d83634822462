/- Walks and laws. -/
import Derived.Test.YtmcjdeiicbgmhabLibB
import Derived.Test.YtmcjdeiicbgmhabNum1
set_option maxRecDepth 100000
set_option maxHeartbeats 0
set_option linter.unusedSimpArgs false
set_option linter.unusedVariables false
namespace Go.Num
open Go Go.Abs Go.Proofs
end Go.Num
