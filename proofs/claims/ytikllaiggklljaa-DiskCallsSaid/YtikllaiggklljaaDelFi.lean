/- Walks and laws. -/
import Derived.Test.YtikllaiggklljaaLibC
import Derived.Test.YtikllaiggklljaaProg
import Derived.Shelf.RegionOpenPlain
import Derived.WalkKit
import Derived.Lib.Walk
import Derived.Lib.SliceRun
import Derived.Deep.RegionLaw

set_option maxRecDepth 100000
set_option maxHeartbeats 0
set_option linter.unusedSimpArgs false
set_option linter.unusedVariables false
namespace Go.Dk
open Go Go.Abs Go.Proofs Go.Lib Go.RowKit
end Go.Dk
