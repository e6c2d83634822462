/- Walks and laws. -/
import Derived.Test.YtfkilkfaiiijbaaCnt15
import Derived.Test.YtfkilkfaiiijbaaLibC
set_option maxRecDepth 100000
set_option maxHeartbeats 0
set_option linter.unusedSimpArgs false
set_option linter.unusedVariables false
namespace Go.Cnt
open Go Go.Abs Go.Proofs Go.Ops
theorem dec_f {P : Program} {f : FuncId} {args : List AVal} {p : Prop} [Decidable p] (h : EvD P f args (.sc (.bool (decide p)))) (hp : ¬ p) : EvD P f args (.sc (.bool false)) := by
  rwa [decide_eq_false hp] at h
end Go.Cnt
