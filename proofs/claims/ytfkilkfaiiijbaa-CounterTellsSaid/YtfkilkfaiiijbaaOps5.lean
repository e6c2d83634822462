/- Walks and laws. -/
import Derived.Test.YtfkilkfaiiijbaaOps4
import Derived.Test.YtfkilkfaiiijbaaLibC
set_option maxRecDepth 100000
set_option maxHeartbeats 0
set_option linter.unusedSimpArgs false
set_option linter.unusedVariables false
namespace Go.Ops
open Go Go.Abs Go.Proofs
def rfitP (l a n : Int) : Prop := (l = 1 ∧ a = 1 ∧ -1073741824 ≤ n ∧ n ≤ 1073741824) ∨ ((l = 2 ∨ l = 3) ∧ a = 3 ∧ n = 0) ∨ (l = 4 ∧ (a = 1 ∨ a = 2) ∧ n = 0) ∨ (l = 5 ∧ (a = 4 ∨ a = 2) ∧ n = 0)
instance (l a n : Int) : Decidable (rfitP l a n) := by unfold rfitP; infer_instance
def rtextP (l a : Int) (t : ByteArray) : Prop := ((l = 1 ∨ a = 5 ∨ (l = 5 ∧ a = 2)) ∧ t.size = 0) ∨ (¬ (l = 1 ∨ a = 5 ∨ (l = 5 ∧ a = 2)) ∧ t.size ≤ 64)
instance (l a : Int) (t : ByteArray) : Decidable (rtextP l a t) := by unfold rtextP; infer_instance
def shapeI (k inner : Int) (key f : ByteArray) : Int := if whereP k inner key f then leafI k inner else 0
def shapeP (k inner a n : Int) (key f t : ByteArray) : Prop := whereP k inner key f ∧ ((k = 6 ∧ a = 5 ∧ n = 0 ∧ t.size = 0) ∨ (¬ (k = 6 ∧ a = 5) ∧ rfitP (leafI k inner) a n ∧ rtextP (leafI k inner) a t))
instance (k inner a n : Int) (key f t : ByteArray) : Decidable (shapeP k inner a n key f t) := by unfold shapeP; infer_instance
end Go.Ops
