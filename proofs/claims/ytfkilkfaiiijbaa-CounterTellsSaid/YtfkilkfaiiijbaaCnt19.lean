/- Walks and laws. -/
import Derived.Test.YtfkilkfaiiijbaaCnt18
import Derived.Test.YtfkilkfaiiijbaaLibC
set_option maxRecDepth 100000
set_option maxHeartbeats 0
set_option linter.unusedSimpArgs false
set_option linter.unusedVariables false
namespace Go.Cnt
open Go Go.Abs Go.Proofs Go.Ops
theorem am_d (l : List AmtD) (i : Nat) (h : i < l.length) : [List.getD (amsc l) (i * 4) .undef, List.getD (amsc l) (i * 4 + 1) .undef] = [.sc (.int .i64 (l.getD i am0).p), .sc (.int .i64 (l.getD i am0).s)] := by
  have h1 := amsc_cells l i h
  injection h1 with a1 h1; injection h1 with a2 h1
  rw [← a1, ← a2]
def dotsF (t u : TxD) (am : List AmtD) : Prop := ∀ j, j < am.length → ¬ ((am.getD j am0).p = t.p ∧ (am.getD j am0).s = t.s) ∧ ¬ ((am.getD j am0).p = u.p ∧ (am.getD j am0).s = u.s)
def dotsJ (t u : TxD) (am : List AmtD) (j : Nat) : Prop := ∀ q, q < j → ¬ ((am.getD q am0).p = t.p ∧ (am.getD q am0).s = t.s) ∧ ¬ ((am.getD q am0).p = u.p ∧ (am.getD q am0).s = u.s)
end Go.Cnt
