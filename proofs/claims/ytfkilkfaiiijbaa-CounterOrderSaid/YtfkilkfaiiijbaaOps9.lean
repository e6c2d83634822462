/- Walks and laws. -/
import Derived.Test.YtfkilkfaiiijbaaOps8
import Derived.Test.YtfkilkfaiiijbaaLibB
set_option maxRecDepth 100000
set_option maxHeartbeats 0
set_option linter.unusedSimpArgs false
set_option linter.unusedVariables false
namespace Go.Ops
open Go Go.Abs Go.Proofs
def rs (p s : Int) (o : OpD) : OpD := if (o.p = 0 ∧ o.s = 0) ∧ o.i ≠ 0 then { o with p := p, s := s } else o
def smallO (o : OpD) : Prop := o.key.size ≤ 100 ∧ o.f.size ≤ 100 ∧ o.t.size ≤ 100
def smallP (t : TxD) : Prop := t.ops.length ≤ 40 ∧ ∀ i, i < t.ops.length → smallO (t.ops.getD i op0)
instance (o : OpD) : Decidable (smallO o) := by unfold smallO; infer_instance
instance (t : TxD) : Decidable (smallP t) := by unfold smallP; infer_instance
theorem dec_no {p : Prop} [Decidable p] (h : ¬ p) : AVal.sc (.bool false) = .sc (.bool (decide p)) := by rw [decide_eq_false h]
theorem dec_yes {p : Prop} [Decidable p] (h : p) : AVal.sc (.bool true) = .sc (.bool (decide p)) := by rw [decide_eq_true h]
theorem succ_all {P : Nat → Prop} {i : Nat} (hd : ∀ j, j < i → P j) (h : P i) : ∀ j, j < i + 1 → P j := by
  intro j hj
  by_cases e : j = i
  · subst e; exact h
  · exact hd j (by omega)
end Go.Ops
