/- Walks and laws. -/
import Derived.Test.YtfkilkfaiiijbaaCnt4
import Derived.Test.YtfkilkfaiiijbaaLibC
set_option maxRecDepth 100000
set_option maxHeartbeats 0
set_option linter.unusedSimpArgs false
set_option linter.unusedVariables false
namespace Go.Cnt
open Go Go.Abs Go.Proofs Go.Ops
theorem good_of {l : List AmtD} (h : ¬ (0 ≤ idxA l 0)) : ∀ j, j < l.length → ¬ badA (l.getD j am0) := fun j hj hb => h ((idxA_ge l 0).1 ⟨j, hj, hb⟩)
end Go.Cnt
