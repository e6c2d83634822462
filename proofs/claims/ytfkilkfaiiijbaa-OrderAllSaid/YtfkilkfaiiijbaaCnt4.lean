/- Walks and laws. -/
import Derived.Test.YtfkilkfaiiijbaaCnt3
import Derived.Test.YtfkilkfaiiijbaaLibC
set_option maxRecDepth 100000
set_option maxHeartbeats 0
set_option linter.unusedSimpArgs false
set_option linter.unusedVariables false
namespace Go.Cnt
open Go Go.Abs Go.Proofs Go.Ops
def keep (G : AmtD → Prop) [DecidablePred G] (l : List AmtD) : Nat → List AmtD
  | 0 => []
  | i + 1 => keep G l i ++ if G (l.getD i am0) then [] else [l.getD i am0]
def tot (G : AmtD → Prop) [DecidablePred G] (l : List AmtD) : Nat → Int
  | 0 => 0
  | i + 1 => tot G l i + if G (l.getD i am0) then (l.getD i am0).n else 0
end Go.Cnt
