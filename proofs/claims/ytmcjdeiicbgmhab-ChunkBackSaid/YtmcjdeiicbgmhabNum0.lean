/- Walks and laws. -/
import Derived.Test.YtmcjdeiicbgmhabLibB
set_option linter.unusedSimpArgs false
set_option linter.unusedVariables false
namespace Go.Num
open Go Go.Abs
def zig (n : Int) : Int := if 0 ≤ n then 2 * n else -2 * n - 1
def zag (u : Int) : Int := if u % 2 = 0 then u / 2 else -1 - u / 2
end Go.Num
namespace Go.Num
open Go Go.Abs
/-- The bytes of a number without a sign. -/
def encF : Nat → Int → List Int
  | 0, u => [u]
  | k + 1, u => if u < 128 then [u] else (u % 128 + 128) :: encF k (u / 128)
def enc (u : Int) : List Int := encF 10 u
end Go.Num
namespace Go.Num
open Go Go.Abs
def bnd : Nat → Int
  | 0 => 18446744073709551616
  | i + 1 => (bnd i + 127) / 128
end Go.Num
namespace Go.Num
open Go Go.Abs
end Go.Num
namespace Go.Num
open Go Go.Abs
/-- The number in the first bytes. -/
def valN (xs : List Int) : Nat → Int
  | 0 => 0
  | i + 1 => valN xs i + (xs.getD i 0 % 128) * (128 ^ i : Nat)
end Go.Num
namespace Go.Num
open Go Go.Abs
end Go.Num
namespace Go.Num
open Go Go.Abs
/-- What is read at the beginning of bytes. -/
inductive GR where
  | short
  | form
  | ok (v : Int) (k : Nat)
def getF (xs : List Int) : Nat → Nat → GR
  | 0, _ => .form
  | f + 1, i => if xs.length ≤ i then .short else if i = 9 ∧ 1 < xs.getD i 0 then .form
    else if xs.getD i 0 < 128 then (if 0 < i ∧ xs.getD i 0 = 0 then .form else .ok (zag (valN xs (i + 1))) (i + 1)) else getF xs f (i + 1)
def getR (xs : List Int) : GR := getF xs 10 0
def resG (xs : List Int) : GR → AVal
  | .short => .tup [.sc (.int .i64 0), .sl [] 0 .any, .sc (.int .i64 5)]
  | .form => .tup [.sc (.int .i64 0), .sl [] 0 .any, .sc (.int .i64 3)]
  | .ok v k => .tup [.sc (.int .i64 v), .sl (u8s (xs.drop k)) (xs.length - k) .any, .sc (.int .i64 0)]
end Go.Num
namespace Go.Num
open Go Go.Abs
end Go.Num
