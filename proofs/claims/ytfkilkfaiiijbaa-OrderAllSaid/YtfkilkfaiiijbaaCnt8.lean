/- Walks and laws. -/
import Derived.Test.YtfkilkfaiiijbaaCnt7
import Derived.Test.YtfkilkfaiiijbaaLibC
set_option maxRecDepth 100000
set_option maxHeartbeats 0
set_option linter.unusedSimpArgs false
set_option linter.unusedVariables false
namespace Go.Cnt
open Go Go.Abs Go.Proofs Go.Ops
theorem chk_no {kind base : Int} {am : List AmtD} {w m e : Nat} (i : Nat) (hi : i < am.length) (h : badA (am.getD i am0) ∨ (1 ≤ i ∧ ¬ lessA (am.getD (i - 1) am0) (am.getD i am0))) : ¬ chkP kind base am w m e := by
  rintro ⟨_, _, _, _, _, h6, h7⟩
  rcases h with h | ⟨h1, h2⟩
  · exact good_of h6 i hi h
  · exact h2 (h7 i hi h1)
end Go.Cnt
