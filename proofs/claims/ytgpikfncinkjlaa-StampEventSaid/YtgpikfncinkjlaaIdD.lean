/- Walks and laws. -/
import Derived.Test.YtgpikfncinkjlaaIdH
import Derived.Test.YtgpikfncinkjlaaIdP
set_option maxRecDepth 100000
set_option maxHeartbeats 0
set_option linter.unusedSimpArgs false
set_option linter.unusedVariables false
namespace Go.Tr
open Go Go.Abs Go.Proofs
theorem dec_t {P : Program} {f : FuncId} {args : List AVal} {p : Prop} [Decidable p] (h : EvD P f args (.sc (.bool (decide p)))) (hp : p) : EvD P f args (.sc (.bool true)) := by
  rwa [decide_eq_true hp] at h
theorem dec_f {P : Program} {f : FuncId} {args : List AVal} {p : Prop} [Decidable p] (h : EvD P f args (.sc (.bool (decide p)))) (hp : ¬ p) : EvD P f args (.sc (.bool false)) := by
  rwa [decide_eq_false hp] at h
end Go.Tr
