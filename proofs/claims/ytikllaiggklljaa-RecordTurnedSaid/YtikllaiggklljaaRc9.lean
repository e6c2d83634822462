/- Walks and laws. -/
import Derived.Test.YtikllaiggklljaaRc8
import Derived.Test.YtikllaiggklljaaLibB
set_option maxRecDepth 100000
set_option maxHeartbeats 0
set_option linter.unusedSimpArgs false
set_option linter.unusedVariables false
namespace Go.Rec
open Go Go.Abs Go.Proofs Go.Crc Go.Chu
theorem l_same (a : List (List Int)) (h : a.length ≤ 1000000) (hb : ∀ x ∈ a, Bts x) : EvD Try.prog 16 [.sl (bss a) a.length .any, .sl (bss a) a.length .any] (.sc (.bool true)) := by
  have := r_lists a a h hb hb
  rwa [decide_eq_true rfl] at this
theorem few_yes {l : List (List Int)} (h : fewP l) : EvD Try.prog 12 [.sl (bss l) l.length .any] (.sc (.bool true)) := by
  have := r_few l; rwa [decide_eq_true h] at this
theorem few_not {l : List (List Int)} (h : ¬ fewP l) : EvD Try.prog 12 [.sl (bss l) l.length .any] (.sc (.bool false)) := by
  have := r_few l; rwa [decide_eq_false h] at this
end Go.Rec
