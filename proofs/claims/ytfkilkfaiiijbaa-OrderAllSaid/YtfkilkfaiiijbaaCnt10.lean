/- Walks and laws. -/
import Derived.Test.YtfkilkfaiiijbaaCnt9
import Derived.Test.YtfkilkfaiiijbaaLibC
import Derived.Test.YtfkilkfaiiijbaaInsAm
set_option maxRecDepth 100000
set_option maxHeartbeats 0
set_option linter.unusedSimpArgs false
set_option linter.unusedVariables false
namespace Go.Cnt
open Go Go.Abs Go.Proofs Go.Ops
def insD (l : List AmtD) (i : Nat) (x : AmtD) : List AmtD := l.take i ++ x :: l.drop i
end Go.Cnt
