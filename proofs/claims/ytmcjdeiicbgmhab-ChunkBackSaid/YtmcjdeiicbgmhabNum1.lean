/- Walks and laws. -/
import Derived.Test.YtmcjdeiicbgmhabLibB
import Derived.Test.YtmcjdeiicbgmhabNum0
import Derived.Test.YtmcjdeiicbgmhabProg
set_option maxRecDepth 100000
set_option maxHeartbeats 0
set_option linter.unusedSimpArgs false
set_option linter.unusedVariables false
namespace Go.Num
open Go Go.Abs Go.Proofs
theorem mixed : Try.prog.follows .mixedOrders = true := by kernel_rfl
end Go.Num
