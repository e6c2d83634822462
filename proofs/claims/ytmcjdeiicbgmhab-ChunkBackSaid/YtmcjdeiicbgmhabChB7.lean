/- Walks and laws. -/
import Derived.Test.YtmcjdeiicbgmhabChB6
import Derived.Test.YtmcjdeiicbgmhabLibB
set_option maxRecDepth 100000
set_option maxHeartbeats 0
set_option linter.unusedSimpArgs false
set_option linter.unusedVariables false
namespace Go.Chu
open Go Go.Abs Go.Proofs
abbrev cag (f m o : Int) (l : List (List Int)) : AVal := .agg [.sc (.int .i64 f), .sc (.int .i64 m), .sc (.int .i64 o), .sl (bss l) l.length .any]
end Go.Chu
