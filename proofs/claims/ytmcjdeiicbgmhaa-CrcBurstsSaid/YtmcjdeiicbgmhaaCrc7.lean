/- Walks and laws. -/
import Derived.Test.YtmcjdeiicbgmhaaLibB
import Derived.Test.YtmcjdeiicbgmhaaCrc5
set_option linter.unusedSimpArgs false
set_option linter.unusedVariables false
namespace Go.Crc
open Go Go.Abs
theorem bv_x32 (x y : Int) : BitVec.ofInt 32 (x32 x y) = BitVec.ofInt 32 x ^^^ BitVec.ofInt 32 y := by
  unfold x32
  rw [IntWalk.u32_in _ (by omega), BitVec.ofInt_natCast, BitVec.ofNat_toNat, BitVec.setWidth_eq]
end Go.Crc
