/- Walks and laws. -/
import Derived.Test.YtikllaiggklljaaNet0
import Derived.Test.YtikllaiggklljaaLibC
import Derived.HandedShaped
import Derived.Test.YtikllaiggklljaaProg
set_option maxRecDepth 100000
set_option maxHeartbeats 0
set_option linter.unusedSimpArgs false
set_option linter.unusedVariables false
namespace Go.Net
open Go Go.Abs Go.Proofs
theorem far {n b : Nat} (h : n * b ≤ reachBytes) (hb : 0 < b) : n ≤ 1000000000000000 := by
  have h1 : n * 1 ≤ n * b := Nat.mul_le_mul_left n hb
  have : reachBytes ≤ 1000000000000000 := by decide
  omega
theorem cof5 : Try.prog.cellsOf 5 = 1 := by kernel_rfl
theorem flat1 {α : Type} (f : α → AVal) (l : List α) : l.flatMap (fun x => [f x]) = l.map f := by
  induction l with
  | nil => rfl
  | cons a l ih => rw [List.flatMap_cons, ih]; rfl
end Go.Net
