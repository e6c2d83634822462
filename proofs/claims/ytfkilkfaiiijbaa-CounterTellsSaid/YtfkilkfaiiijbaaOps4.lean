/- Walks and laws. -/
import Derived.Test.YtfkilkfaiiijbaaOps3
import Derived.Test.YtfkilkfaiiijbaaLibC
set_option maxRecDepth 100000
set_option maxHeartbeats 0
set_option linter.unusedSimpArgs false
set_option linter.unusedVariables false
namespace Go.Ops
open Go Go.Abs Go.Proofs
def rangeP (n : Int) (t : ByteArray) : Prop := -1073741824 ≤ n ∧ n ≤ 1073741824 ∧ t.size ≤ 64
def plP (k inner a n : Int) (key f t : ByteArray) : Prop := okP k inner a ∧ whereP k inner key f ∧ rangeP n t ∧ placeP k inner a
def fitP (k inner a n : Int) (key f t : ByteArray) : Prop := okP k inner a ∧ whereP k inner key f ∧ rangeP n t ∧ (numP k inner a ∨ n = 0) ∧ (textP k inner a ∨ t.size = 0)
instance (n : Int) (t : ByteArray) : Decidable (rangeP n t) := by unfold rangeP; infer_instance
instance (k inner a n : Int) (key f t : ByteArray) : Decidable (plP k inner a n key f t) := by unfold plP; infer_instance
instance (k inner a n : Int) (key f t : ByteArray) : Decidable (fitP k inner a n key f t) := by unfold fitP; infer_instance
def refP (p s i : Int) : Prop := (1 ≤ i ∧ i ≤ 16) ∧ ((p = 0 ∧ s = 0) ∨ ((1 ≤ p ∧ p ≤ 12) ∧ 1 ≤ s ∧ s ≤ 1048576))
instance (p s i : Int) : Decidable (refP p s i) := by unfold refP; infer_instance
def updP (k inner a n at_ : Int) (key f t : ByteArray) : Prop := fitP k inner a n key f t ∧ ((¬ plP k inner a n key f t ∧ at_ = 0) ∨ (plP k inner a n key f t ∧ 0 ≤ at_ ∧ at_ ≤ 1048576))
instance (k inner a n at_ : Int) (key f t : ByteArray) : Decidable (updP k inner a n at_ key f t) := by unfold updP; infer_instance
def opP (k inner a n p s i : Int) (key f t : ByteArray) : Prop :=
  (k = 7 ∧ (a = 1 ∨ a = 2) ∧ (1 ≤ n ∧ n ≤ 12) ∧ key.size = 0 ∧ f.size = 0 ∧ inner = 0 ∧ t.size = 0 ∧ p = 0 ∧ s = 0 ∧ i = 0) ∨
  (k ≠ 7 ∧ fitP k inner a n key f t ∧ ((¬ plP k inner a n key f t ∧ p = 0 ∧ s = 0 ∧ i = 0) ∨ (plP k inner a n key f t ∧ ((p = 0 ∧ s = 0 ∧ i = 0 ∧ a = 4) ∨ refP p s i))))
instance (k inner a n p s i : Int) (key f t : ByteArray) : Decidable (opP k inner a n p s i key f t) := by unfold opP; infer_instance
end Go.Ops
