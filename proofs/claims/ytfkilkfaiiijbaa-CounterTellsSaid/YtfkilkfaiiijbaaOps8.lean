/- Walks and laws. -/
import Derived.Test.YtfkilkfaiiijbaaOps7
import Derived.Test.YtfkilkfaiiijbaaLibC
set_option maxRecDepth 100000
set_option maxHeartbeats 0
set_option linter.unusedSimpArgs false
set_option linter.unusedVariables false
namespace Go.Ops
open Go Go.Abs Go.Proofs
def ctxP (t : TxD) : Prop := ((1 ≤ t.p ∧ t.p ≤ 12) ∧ 1 ≤ t.s ∧ t.s ≤ 1048576) ∧ 1 ≤ t.ops.length ∧ restP t ∧ t.v t.p.toNat < t.s
instance (t : TxD) : Decidable (ctxP t) := by unfold ctxP; infer_instance
def copP (t : TxD) : Prop := t.p = 0 ∧ t.s = 0 ∧ restP t
instance (t : TxD) : Decidable (copP t) := by unfold copP; infer_instance
end Go.Ops
