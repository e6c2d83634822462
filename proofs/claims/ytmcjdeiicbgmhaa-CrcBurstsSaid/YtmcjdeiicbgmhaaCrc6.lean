/- Walks and laws. -/
import Derived.Test.YtmcjdeiicbgmhaaLibB
import Derived.Test.YtmcjdeiicbgmhaaCrc5
import Derived.Test.YtmcjdeiicbgmhaaCrc7
set_option maxRecDepth 100000
set_option maxHeartbeats 0
set_option linter.unusedSimpArgs false
set_option linter.unusedVariables false
namespace Go.Crc
open Go Go.Abs Go.Proofs
def x8 (x y : Int) : Int := IntKind.u8.wrap (↑(BitVec.ofInt 8 x ^^^ BitVec.ofInt 8 y).toNat)
theorem c_open_no {xs : List Int} (h : opn xs = none) (n : Nat) (hn : n = xs.length) (hx : xs.length ≤ 1000000) (hb : Bts xs) : EvD Try.prog 12 [.sl (u8s xs) n .any] (.tup [.undef, .sc (.bool false)]) :=
  (c_open_none h n hn hx hb).weak fun _ _ => V.tup_hide
end Go.Crc
