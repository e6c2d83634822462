/- Walks and laws. -/
import Derived.Test.YtfkilkfaiiijbaaOps11
import Derived.Test.YtfkilkfaiiijbaaOpsG
import Derived.Test.YtfkilkfaiiijbaaLibB
set_option maxRecDepth 100000
set_option maxHeartbeats 0
set_option linter.unusedSimpArgs false
set_option linter.unusedVariables false
namespace Go.Ops
open Go Go.Abs Go.Proofs
theorem r_ops2 (a b : List OpD) (n m : Nat) (hx : a.length ≤ 100) (hn : n = a.length) (hm : m = b.length) : EvD Try.prog 16 [.sl (opsc a) n .any, .sl (opsc b) m .any] (.sc (.bool (decide (a = b)))) := by
  subst hn; subst hm; exact r_ops a b hx
theorem small_len (t : TxD) (h : smallP t) : t.ops.length ≤ 40 := h.1
end Go.Ops
