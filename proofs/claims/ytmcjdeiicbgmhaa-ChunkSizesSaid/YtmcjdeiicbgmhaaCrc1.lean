/- Walks and laws. -/
import Derived.Test.YtmcjdeiicbgmhaaLibB
import Derived.Test.YtmcjdeiicbgmhaaProg
set_option maxRecDepth 100000
set_option maxHeartbeats 0
set_option linter.unusedSimpArgs false
set_option linter.unusedVariables false
namespace Go.Crc
open Go Go.Abs Go.Proofs
def w32 (x : Int) : Int := IntKind.wrap .u32 x
def x32 (x y : Int) : Int := (IntKind.wrap IntKind.u32 ↑(BitVec.toNat (BitVec.ofInt 32 x ^^^ BitVec.ofInt 32 y)))
def a32 (x y : Int) : Int := (IntKind.wrap IntKind.u32 ↑(BitVec.toNat (BitVec.ofInt 32 x &&& BitVec.ofInt 32 y)))
def dn (y x : Int) : Int := x32 (Int.fdiv x 2) (a32 y (w32 (0 - a32 x 1)))
def b8 (y : Int) : Int := IntKind.wrap IntKind.u8 y
def laid (y : Int) : List Int := [b8 y, b8 (Int.fdiv y 256), b8 (Int.fdiv y 65536), b8 (Int.fdiv y 16777216)]
def dnn : Nat → Int → Int
  | 0, x => x
  | n + 1, x => dn 3988292384 (dnn n x)
def stp (x c : Int) : Int := dnn 8 (x32 x (w32 c))
/-- A state behind bytes. -/
def stps (x : Int) : List Int → Int
  | [] => x
  | c :: l => stps (stp x c) l
def sum (xs : List Int) : Int := x32 4294967295 (stps 4294967295 xs)
theorem mixed : Try.prog.follows .mixedOrders = true := by kernel_rfl
theorem c_clone (xs : List Int) (n : Nat) (hn : n = xs.length) (hx : xs.length ≤ 1000000) : EvA Try.prog 24 [.sl (u8s xs) n .any] (fun k => .row k 0 n) (fun _ => [⟨u8s xs, 1, .fresh⟩]) := by
  refine EvA.split [] (fun h0 h1 => ?_) ?_
  · refine EvA.body Try.func24 rfl rfl (by intro k; simp [AVal.ren]) (by intro k; exact ren_row (dataAll_u8s _) k) ?_
    refine SQ ?_
    refine DerQ.run (True ∧ True) ⟨[.sl [] 0 .nil, U6, .sl [] 0 .nil] ++ UU 5, []⟩ (by kernel_rfl) ⟨trivial, trivial⟩ ?_
    refine AWP.seq (SQ ?_)
    refine DerQ.run (TT 2) ⟨[.sl [] 0 .nil, U6, .sl [] 0 .nil, .sl [] 0 .nil, (B6 true), U6, U6, .undef], []⟩ (by kernel_rfl) (tt 2) ?_
    refine CN true (fun _ => ?_) (fun h => nomatch h)
    refine SQ ?_
    refine DerQ.run (True ∧ True) ⟨[.sl [] 0 .nil, U6, .sl [] 0 .nil, .sl [] 0 .nil, (B6 true), U6, U6, .undef], []⟩ (by kernel_rfl) ⟨trivial, trivial⟩ ?_
    refine AWP.ret ?_
    refine FI (.sl [] 0 .nil) ?_
    subst h1
    have hx0 : xs = [] := List.eq_nil_of_length_eq_zero hn.symm
    subst hx0
    exact Shrink.virt 1 (.inl rfl)
  · refine EvA.body Try.func24 rfl rfl (by intro k; simp [AVal.ren]) (by intro k; exact ren_row (dataAll_u8s _) k) ?_
    refine SQ ?_
    refine DerQ.run (True ∧ True) ⟨[.sl (u8s xs) (n) .nn, U6, .sl [] 0 .nil] ++ UU 5, []⟩ (by kernel_rfl) ⟨trivial, trivial⟩ ?_
    refine AWP.seq (SQ ?_)
    refine DerQ.run (TT 2) ⟨[.sl (u8s xs) (n) .nn, U6, .sl [] 0 .nil, .sl (u8s xs) (n) .nn, (B6 false), U6, U6, .undef], []⟩ (by kernel_rfl) (tt 2) ?_
    refine CN false (fun h => nomatch h) (fun _ => ?_)
    refine AWP.skip (SQ ?_)
    refine DerQ.run (True ∧ True ∧ ((List.length (u8s xs) = n * 1) ∧ (n ≤ 1073741824)) ∧ True ∧ True) ⟨[.sl (u8s xs) (n) .nn, U6, .row 0 0 (n), .sl (u8s xs) (n) .nn, (B6 false), .sl [] 0 .cap0, .sl (u8s xs) (n) .nn, .row 0 0 (n)], [⟨u8s xs, 1, .fresh⟩]⟩ (by kernel_rfl) ⟨trivial, trivial, ⟨(by (simp only [List.length_append, List.length_take, List.length_drop, u8s_length]; omega)), (by omega)⟩, trivial, trivial⟩ ?_
    refine AWP.ret ?_
    refine FI (.row 0 0 (n)) ?_
    exact Shrink.refl _ _ _
def opn (xs : List Int) : Option (List Int) :=
  if xs.length < 4 then none else if laid (sum (xs.take (xs.length - 4))) = xs.drop (xs.length - 4) then some (xs.take (xs.length - 4)) else none
def resO : Option (List Int) → AVal
  | none => .tup [.sl [] 0 .any, .sc (.bool false)]
  | some a => .tup [.sl (u8s a) a.length .any, .sc (.bool true)]
end Go.Crc
