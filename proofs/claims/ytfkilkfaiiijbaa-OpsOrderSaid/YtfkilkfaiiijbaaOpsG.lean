/- Walks and laws. -/
import Derived.Test.YtfkilkfaiiijbaaOpsT
import Derived.Test.YtfkilkfaiiijbaaLibB
import Derived.Test.YtfkilkfaiiijbaaProg
set_option maxRecDepth 100000
set_option maxHeartbeats 0
set_option linter.unusedSimpArgs false
set_option linter.unusedVariables false
namespace Go.Ops
open Go Go.Abs Go.Proofs
theorem laidOut : laidOutB Try.prog = true := by kernel_rfl
theorem mark_of {xs : List AVal} (h : HasT Try.prog 33 xs) : ∃ a b c : Int, xs = [.sc (.int .i64 a), .sc (.int .i64 b), .sc (.int .i64 c)] := by
  obtain ⟨_, _, rfl, ⟨a, _, rfl⟩, _, _, rfl, ⟨b, _, rfl⟩, _, _, rfl, ⟨c, _, rfl⟩, rfl⟩ := leaves_spec 3 33 [.int .i64, .int .i64, .int .i64] xs (by kernel_rfl) h
  exact ⟨a, b, c, rfl⟩
theorem tys : okTys Try.prog [3, 4, 5, 9, 23, 25, 26, 28, 33, 35, 43] = true := by kernel_rfl
end Go.Ops
