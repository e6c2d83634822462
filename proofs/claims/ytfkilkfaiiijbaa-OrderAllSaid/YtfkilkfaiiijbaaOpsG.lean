/- Walks and laws. -/
import Derived.Test.YtfkilkfaiiijbaaOpsT
import Derived.Test.YtfkilkfaiiijbaaLibC
import Derived.Test.YtfkilkfaiiijbaaProg
set_option maxRecDepth 100000
set_option maxHeartbeats 0
set_option linter.unusedSimpArgs false
set_option linter.unusedVariables false
namespace Go.Ops
open Go Go.Abs Go.Proofs
theorem laidOut : laidOutB Try.prog = true := by kernel_rfl
theorem op_of {xs : List AVal} (h : HasT Try.prog 35 xs) : ∃ o : OpD, xs = opc o := by
  obtain ⟨_, _, rfl, ⟨k, _, rfl⟩, _, _, rfl, ⟨key, rfl⟩, _, _, rfl, ⟨f, rfl⟩, _, _, rfl, ⟨inner, _, rfl⟩, _, _, rfl, ⟨a, _, rfl⟩, _, _, rfl, ⟨n, _, rfl⟩, _, _, rfl, ⟨t, rfl⟩, _, _, rfl, ⟨p, _, rfl⟩, _, _, rfl, ⟨s, _, rfl⟩, _, _, rfl, ⟨i, _, rfl⟩, rfl⟩ := leaves_spec 4 35 [.int .i64, .str, .str, .int .i64, .int .i64, .int .i64, .str, .int .i64, .int .i64, .int .i64] xs (by kernel_rfl) h
  exact ⟨⟨k, key, f, inner, a, n, t, p, s, i⟩, rfl⟩
theorem tys : okTys Try.prog [3, 4, 5, 9, 23, 25, 26, 28, 33, 35, 43] = true := by kernel_rfl
end Go.Ops
