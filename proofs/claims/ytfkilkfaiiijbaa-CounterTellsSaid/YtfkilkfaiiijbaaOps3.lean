/- Walks and laws. -/
import Derived.Test.YtfkilkfaiiijbaaOps2
import Derived.Test.YtfkilkfaiiijbaaLibC
set_option maxRecDepth 100000
set_option maxHeartbeats 0
set_option linter.unusedSimpArgs false
set_option linter.unusedVariables false
namespace Go.Ops
open Go Go.Abs Go.Proofs
def leafI (k inner : Int) : Int := if k = 6 then inner else k
def whereP (k inner : Int) (key f : ByteArray) : Prop := (1 ≤ k ∧ k ≤ 6) ∧ (1 ≤ key.size ∧ key.size ≤ 64) ∧ ((k = 6 ∧ (1 ≤ f.size ∧ f.size ≤ 64) ∧ 1 ≤ inner ∧ inner ≤ 5) ∨ (k ≠ 6 ∧ f.size = 0 ∧ inner = 0))
instance (k inner : Int) (key f : ByteArray) : Decidable (whereP k inner key f) := by unfold whereP; infer_instance
def dropP (k a : Int) : Prop := k = 6 ∧ a = 5
def numP (k inner a : Int) : Prop := ¬ (k = 6 ∧ a = 5) ∧ leafI k inner = 1
def textP (k inner a : Int) : Prop := ¬ (k = 6 ∧ a = 5) ∧ (leafI k inner = 2 ∨ leafI k inner = 3 ∨ leafI k inner = 4 ∨ (leafI k inner = 5 ∧ a = 4))
def placeP (k inner a : Int) : Prop := ¬ (k = 6 ∧ a = 5) ∧ leafI k inner = 5
def okP (k inner a : Int) : Prop := (k = 6 ∧ a = 5) ∨ (leafI k inner = 1 ∧ a = 1) ∨ ((leafI k inner = 2 ∨ leafI k inner = 3) ∧ a = 3) ∨ (leafI k inner = 4 ∧ (a = 1 ∨ a = 2)) ∨ (leafI k inner = 5 ∧ (a = 4 ∨ a = 2))
instance (k inner a : Int) : Decidable (numP k inner a) := by unfold numP; infer_instance
instance (k inner a : Int) : Decidable (textP k inner a) := by unfold textP; infer_instance
instance (k inner a : Int) : Decidable (placeP k inner a) := by unfold placeP; infer_instance
instance (k inner a : Int) : Decidable (okP k inner a) := by unfold okP; infer_instance
end Go.Ops
