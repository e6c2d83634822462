/- Walks and laws. -/
import Derived.Test.YtfkilkfaiiijbaaOps6
import Derived.Test.YtfkilkfaiiijbaaLibC
set_option maxRecDepth 100000
set_option maxHeartbeats 0
set_option linter.unusedSimpArgs false
set_option linter.unusedVariables false
namespace Go.Ops
open Go Go.Abs Go.Proofs
def opOk (o : OpD) : Prop := opP o.k o.inner o.a o.n o.p o.s o.i o.key o.f o.t
instance (o : OpD) : Decidable (opOk o) := by unfold opOk; infer_instance
/-- the i-th op may be there -/
def itemP (t : TxD) (o : OpD) (i : Nat) : Prop := opOk o ∧ ((o.p = 0 ∧ o.s = 0 ∧ o.i = 0) ∨ befP o.p o.s o.i t ((i : Int) + 1))
instance (t : TxD) (o : OpD) (i : Nat) : Decidable (itemP t o i) := by unfold itemP; infer_instance
def restP (t : TxD) : Prop := t.ops.length ≤ 16 ∧ (1 ≤ t.time ∧ t.time ≤ 1099511627776) ∧ chkP t.v ∧ ∀ i, i < t.ops.length → itemP t (t.ops.getD i op0) i
instance (t : TxD) : Decidable (restP t) := by unfold restP; infer_instance
end Go.Ops
