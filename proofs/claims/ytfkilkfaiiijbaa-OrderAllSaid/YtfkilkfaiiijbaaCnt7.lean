/- Walks and laws. -/
import Derived.Test.YtfkilkfaiiijbaaCnt5
import Derived.Test.YtfkilkfaiiijbaaCnt6
import Derived.Test.YtfkilkfaiiijbaaLibC
set_option maxRecDepth 100000
set_option maxHeartbeats 0
set_option linter.unusedSimpArgs false
set_option linter.unusedVariables false
namespace Go.Cnt
open Go Go.Abs Go.Proofs Go.Ops
def fewP (am : List AmtD) (w : List WrD) (m : List MeD) (e : List ElD) : Prop := am.length + w.length + m.length + e.length ≤ 60 ∧ (∀ i, i < w.length → (w.getD i wr0).t.size ≤ 100) ∧ (∀ i, i < m.length → (m.getD i me0).t.size ≤ 100 ∧ (m.getD i me0).ms.length ≤ 30) ∧ (∀ i, i < e.length → (e.getD i el0).t.size ≤ 100 ∧ (e.getD i el0).ms.length ≤ 30)
instance (am : List AmtD) (w : List WrD) (m : List MeD) (e : List ElD) : Decidable (fewP am w m e) := by unfold fewP; infer_instance
end Go.Cnt
