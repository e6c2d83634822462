/- Walks and laws. -/
import Derived.Test.YtikllaiggklljaaLibB
import Derived.Test.YtikllaiggklljaaProg
set_option maxRecDepth 100000
set_option maxHeartbeats 0
set_option linter.unusedSimpArgs false
set_option linter.unusedVariables false
namespace Go.Crc
open Go Go.Abs Go.Proofs
def w32 (x : Int) : Int := IntKind.wrap .u32 x
def x32 (x y : Int) : Int := (IntKind.wrap IntKind.u32 ↑(BitVec.toNat (BitVec.ofInt 32 x ^^^ BitVec.ofInt 32 y)))
def a32 (x y : Int) : Int := (IntKind.wrap IntKind.u32 ↑(BitVec.toNat (BitVec.ofInt 32 x &&& BitVec.ofInt 32 y)))
def dn (y x : Int) : Int := x32 (Int.fdiv x 2) (a32 y (w32 (0 - a32 x 1)))
theorem c_moved1 (x y : Int) : EvD Try.prog 102 [.sc (.int .u32 x), .dptr [.sc (.int .u32 y)]] (.sc (.int .u32 (dn y x))) := by
  refine EvD.body Try.func102 rfl rfl rfl ?_
  refine SQ ?_
  refine DerQ.run (True ∧ True) ⟨[.sc (.int .u32 (x)), .dptr [.sc (.int .u32 (y))], U6, .sc (.int .u32 0)] ++ UU 8, []⟩ (by kernel_rfl) ⟨trivial, trivial⟩ ?_
  refine SQ ?_
  refine DerQ.run (True ∧ ((0 : Int) ≤ (1 : Int)) ∧ (0 < List.length [AVal.sc (Value.int IntKind.u32 y)]) ∧ True ∧ True ∧ True ∧ True ∧ True ∧ True ∧ True) ⟨[.sc (.int .u32 (x)), .dptr [.sc (.int .u32 (y))], U6, .sc (.int .u32 (dn y x)), .sc (.int .u32 (x)), .sc (.int .u32 (Int.fdiv x 2)), .sc (.int .u32 (y)), .sc (.int .u32 (x)), .sc (.int .u32 (a32 x 1)), .sc (.int .u32 (w32 (0 - a32 x 1))), .sc (.int .u32 (a32 y (w32 (0 - a32 x 1)))), .sc (.int .u32 (dn y x))], []⟩ (by kernel_rfl) ⟨trivial, (by omega), (by simp), trivial, trivial, trivial, trivial, trivial, trivial, trivial⟩ ?_
  refine AWP.ret FA
theorem c_moved (y : Int) : EvD Try.prog 100 [.sc (.int .u32 y)] (.fn 102 [.dptr [.sc (.int .u32 y)]]) := by
  refine EvD.body Try.func100 rfl rfl rfl ?_
  refine SQ ?_
  refine DerQ.run (TT 2) ⟨[.sc (.int .u32 (y)), .ptr 0 0, .sc .nilFunc, .undef], [⟨[.sc (.int .u32 (y))], 1, .fresh⟩]⟩ (by kernel_rfl) (tt 2) ?_
  refine SQ ?_
  refine DerQ.run (TT 2) ⟨[.sc (.int .u32 (y)), .ptr 0 0, .fn 102 [.ptr 0 0], .fn 102 [.ptr 0 0]], [⟨[.sc (.int .u32 (y))], 1, .fresh⟩]⟩ (by kernel_rfl) (tt 2) ?_
  refine AWP.ret ?_
  refine FI (.fn 102 [.ptr 0 0]) ?_
  refine Shrink.dataE [0] (.fn 102 [.dptr [.sc (.int .u32 (y))]]) (by kernel_rfl) ?_ rfl
  kernel_rfl
def b8 (y : Int) : Int := IntKind.wrap IntKind.u8 y
def laid (y : Int) : List Int := [b8 y, b8 (Int.fdiv y 256), b8 (Int.fdiv y 65536), b8 (Int.fdiv y 16777216)]
theorem c_laid (y : Int) : EvD Try.prog 76 [.sc (.int .u32 y)] (.agg (u8s (laid y))) := by
  refine EvD.body Try.func76 rfl rfl rfl ?_
  refine SQ ?_
  refine DerQ.run (True ∧ True) ⟨[.sc (.int .u32 (y)), U6, .ptr 0 0] ++ UU 12, [⟨[.sc (.int .u8 0), .sc (.int .u8 0), .sc (.int .u8 0), .sc (.int .u8 0)], 1, .fresh⟩]⟩ (by kernel_rfl) ⟨trivial, trivial⟩ ?_
  refine SQ ?_
  refine DerQ.run (True ∧ True ∧ True ∧ ((0 : Int) ≤ (8 : Int)) ∧ True ∧ True ∧ ((0 : Int) ≤ (16 : Int)) ∧ True ∧ True ∧ ((0 : Int) ≤ (24 : Int)) ∧ True ∧ True ∧ 4 ≤ 4 ∧ True) ⟨[.sc (.int .u32 (y)), U6, .ptr 0 0, .sc (.int .u32 (y)), .sc (.int .u8 (b8 y)), .sc (.int .u32 (y)), .sc (.int .u32 (Int.fdiv y 256)), .sc (.int .u8 (b8 (Int.fdiv y 256))), .sc (.int .u32 (y)), .sc (.int .u32 (Int.fdiv y 65536)), .sc (.int .u8 (b8 (Int.fdiv y 65536))), .sc (.int .u32 (y)), .sc (.int .u32 (Int.fdiv y 16777216)), .sc (.int .u8 (b8 (Int.fdiv y 16777216))), .agg [.sc (.int .u8 (b8 y)), .sc (.int .u8 (b8 (Int.fdiv y 256))), .sc (.int .u8 (b8 (Int.fdiv y 65536))), .sc (.int .u8 (b8 (Int.fdiv y 16777216)))]], [⟨[.sc (.int .u8 (b8 y)), .sc (.int .u8 (b8 (Int.fdiv y 256))), .sc (.int .u8 (b8 (Int.fdiv y 65536))), .sc (.int .u8 (b8 (Int.fdiv y 16777216)))], 1, .fresh⟩]⟩ (by kernel_rfl) ⟨trivial, trivial, trivial, (by omega), trivial, trivial, (by omega), trivial, trivial, (by omega), trivial, trivial, (by omega), trivial⟩ ?_
  refine AWP.ret FA
def dnn : Nat → Int → Int
  | 0, x => x
  | n + 1, x => dn 3988292384 (dnn n x)
def stp (x c : Int) : Int := dnn 8 (x32 x (w32 c))
theorem c_step (x c : Int) : EvD Try.prog 92 [.sc (.int .u32 x), .sc (.int .u8 c)] (.sc (.int .u32 (stp x c))) := by
  refine EvD.body Try.func92 rfl rfl rfl ?_
  refine SQ ?_
  refine DerQ.run (True ∧ True) ⟨[.sc (.int .u32 (x)), .sc (.int .u8 (c)), U6, U6, .sc (.int .u32 0)] ++ UU 13, []⟩ (by kernel_rfl) ⟨trivial, trivial⟩ ?_
  refine SQ ?_
  refine DerQ.callD (c_moved ((3988292384 : Int))) ⟨[.sc (.int .u32 (x)), .sc (.int .u8 (c)), U6, U6, .sc (.int .u32 0), U6, .fn 102 [.dptr [.sc (.int .u32 3988292384)]]] ++ UU 11, []⟩ ⟨by kernel_rfl, by kernel_rfl, by kernel_rfl⟩ ?_
  refine DerQ.run (True ∧ True) ⟨[.sc (.int .u32 (x)), .sc (.int .u8 (c)), U6, U6, .sc (.int .u32 0), .fn 102 [.dptr [.sc (.int .u32 3988292384)]], .fn 102 [.dptr [.sc (.int .u32 3988292384)]]] ++ UU 11, []⟩ (by kernel_rfl) ⟨trivial, trivial⟩ ?_
  refine SQ ?_
  refine DerQ.run (TT 5) ⟨[.sc (.int .u32 (x32 x (w32 c))), .sc (.int .u8 (c)), U6, U6, .sc (.int .u32 0), .fn 102 [.dptr [.sc (.int .u32 3988292384)]], .fn 102 [.dptr [.sc (.int .u32 3988292384)]], .sc (.int .u32 (x)), .sc (.int .u8 (c)), .sc (.int .u32 (w32 c)), .sc (.int .u32 (x32 x (w32 c)))] ++ UU 7, []⟩ (by kernel_rfl) (tt 5) ?_
  refine AWP.seq (SQ ?_)
  refine DerQ.run (True ∧ True) ⟨[.sc (.int .u32 (x32 x (w32 c))), .sc (.int .u8 (c)), U6, U6, .sc (.int .u32 0), .fn 102 [.dptr [.sc (.int .u32 3988292384)]], .fn 102 [.dptr [.sc (.int .u32 3988292384)]], .sc (.int .u32 (x)), .sc (.int .u8 (c)), .sc (.int .u32 (w32 c)), .sc (.int .u32 (x32 x (w32 c))), (I6 0)] ++ UU 6, []⟩ (by kernel_rfl) ⟨trivial, trivial⟩ ?_
  refine AWP.block ?_
  refine AWP.loopM [true, true, false, false, true, true, true, true, true, true, true, true, false, false, false, false, false, false] (fun n st => ∃ i : Nat, i ≤ 8 ∧ n = 8 - i ∧ st = ⟨[.sc (.int .u32 (dnn i (x32 x (w32 c)))), .sc (.int .u8 (c)), U6, U6, .sc (.int .u32 0), .fn 102 [.dptr [.sc (.int .u32 3988292384)]], .fn 102 [.dptr [.sc (.int .u32 3988292384)]], .sc (.int .u32 (x)), .sc (.int .u8 (c)), .sc (.int .u32 (w32 c)), .sc (.int .u32 (x32 x (w32 c))), (I6 (i : Int)), U6, U6, U6, U6, U6, .undef], []⟩) _ ⟨0, by omega, rfl, rfl⟩ ?_
  rintro n s ⟨i, hi, rfl, rfl⟩
  refine SQ ?_
  refine DerQ.run (True ∧ True) ⟨[.sc (.int .u32 (dnn i (x32 x (w32 c)))), .sc (.int .u8 (c)), U6, U6, .sc (.int .u32 0), .fn 102 [.dptr [.sc (.int .u32 3988292384)]], .fn 102 [.dptr [.sc (.int .u32 3988292384)]], .sc (.int .u32 (x)), .sc (.int .u8 (c)), .sc (.int .u32 (w32 c)), .sc (.int .u32 (x32 x (w32 c))), (I6 (↑i : Int)), (B6 (decide ((↑i : Int) < 8)))] ++ UU 5, []⟩ (by kernel_rfl) ⟨trivial, trivial⟩ ?_
  refine AWP.seq ?_
  refine CN (decide ((↑i : Int) < 8)) (fun h1 => ?_) (fun h1 => ?_)
  · have h1' := of_decide_eq_true h1
    refine AWP.skip (AWP.seq (AWP.block (AWP.reg ?_)))
    refine DerQ.pre 2 (TT 2) ⟨[.sc (.int .u32 (dnn i (x32 x (w32 c)))), .sc (.int .u8 (c)), U6, U6, .sc (.int .u32 0), .fn 102 [.dptr [.sc (.int .u32 3988292384)]], .fn 102 [.dptr [.sc (.int .u32 3988292384)]], .sc (.int .u32 (x)), .sc (.int .u8 (c)), .sc (.int .u32 (w32 c)), .sc (.int .u32 (x32 x (w32 c))), (I6 (↑i : Int)), (B6 (decide ((↑i : Int) < 8))), .fn 102 [.dptr [.sc (.int .u32 3988292384)]], .sc (.int .u32 (dnn i (x32 x (w32 c)))), U6, U6, .undef], []⟩ (by kernel_rfl) (tt 2) ?_
    refine DerQ.callD (c_moved1 (dnn i (x32 x (w32 c))) ((3988292384 : Int))) ⟨[.sc (.int .u32 (dnn i (x32 x (w32 c)))), .sc (.int .u8 (c)), U6, U6, .sc (.int .u32 0), .fn 102 [.dptr [.sc (.int .u32 3988292384)]], .fn 102 [.dptr [.sc (.int .u32 3988292384)]], .sc (.int .u32 (x)), .sc (.int .u8 (c)), .sc (.int .u32 (w32 c)), .sc (.int .u32 (x32 x (w32 c))), (I6 (↑i : Int)), (B6 (decide ((↑i : Int) < 8))), .fn 102 [.dptr [.sc (.int .u32 3988292384)]], .sc (.int .u32 (dnn i (x32 x (w32 c)))), .sc (.int .u32 (dn 3988292384 (dnn i (x32 x (w32 c))))), U6, .undef], []⟩ ⟨by kernel_rfl, by kernel_rfl, by kernel_rfl⟩ ?_
    refine DerQ.run (True ∧ True) ⟨[.sc (.int .u32 (dn 3988292384 (dnn i (x32 x (w32 c))))), .sc (.int .u8 (c)), U6, U6, .sc (.int .u32 0), .fn 102 [.dptr [.sc (.int .u32 3988292384)]], .fn 102 [.dptr [.sc (.int .u32 3988292384)]], .sc (.int .u32 (x)), .sc (.int .u8 (c)), .sc (.int .u32 (w32 c)), .sc (.int .u32 (x32 x (w32 c))), (I6 (↑i : Int)), (B6 (decide ((↑i : Int) < 8))), .fn 102 [.dptr [.sc (.int .u32 3988292384)]], .sc (.int .u32 (dnn i (x32 x (w32 c)))), .sc (.int .u32 (dn 3988292384 (dnn i (x32 x (w32 c))))), U6, .undef], []⟩ (by kernel_rfl) ⟨trivial, trivial⟩ ?_
    refine AWP.reg ?_
    refine DerQ.run (TT 2) ⟨[.sc (.int .u32 (dn 3988292384 (dnn i (x32 x (w32 c))))), .sc (.int .u8 (c)), U6, U6, .sc (.int .u32 0), .fn 102 [.dptr [.sc (.int .u32 3988292384)]], .fn 102 [.dptr [.sc (.int .u32 3988292384)]], .sc (.int .u32 (x)), .sc (.int .u8 (c)), .sc (.int .u32 (w32 c)), .sc (.int .u32 (x32 x (w32 c))), (I6 (IntKind.wrap IntKind.i64 ((↑i : Int) + 1))), (B6 (decide ((↑i : Int) < 8))), .fn 102 [.dptr [.sc (.int .u32 3988292384)]], .sc (.int .u32 (dnn i (x32 x (w32 c)))), .sc (.int .u32 (dn 3988292384 (dnn i (x32 x (w32 c))))), (I6 (IntKind.wrap IntKind.i64 ((↑i : Int) + 1))), .undef], []⟩ (by kernel_rfl) (tt 2) ?_
    rw [IntWalk.i64_in ((↑i : Int) + 1) (by omega)]
    exact ⟨8 - (i + 1), by omega, i + 1, by omega, rfl, by kernel_rfl⟩
  · have h1' := of_decide_eq_false h1
    refine AWP.exit ?_
    refine SQ ?_
    refine DerQ.run (TT 2) ⟨[.sc (.int .u32 (dnn i (x32 x (w32 c)))), .sc (.int .u8 (c)), U6, U6, .sc (.int .u32 (dnn i (x32 x (w32 c)))), .fn 102 [.dptr [.sc (.int .u32 3988292384)]], .fn 102 [.dptr [.sc (.int .u32 3988292384)]], .sc (.int .u32 (x)), .sc (.int .u8 (c)), .sc (.int .u32 (w32 c)), .sc (.int .u32 (x32 x (w32 c))), (I6 (↑i : Int)), (B6 (decide ((↑i : Int) < 8))), U6, U6, U6, U6, .sc (.int .u32 (dnn i (x32 x (w32 c))))], []⟩ (by kernel_rfl) (tt 2) ?_
    refine AWP.ret ?_
    refine FI (.sc (.int .u32 (dnn i (x32 x (w32 c))))) ?_
    refine Shrink.all ?_ rfl
    obtain rfl : i = 8 := by omega
    rfl
/-- A state behind bytes. -/
def stps (x : Int) : List Int → Int
  | [] => x
  | c :: l => stps (stp x c) l
def sum (xs : List Int) : Int := x32 4294967295 (stps 4294967295 xs)
theorem stps_append (x : Int) (a b : List Int) : stps x (a ++ b) = stps (stps x a) b := by
  induction a generalizing x with
  | nil => rfl
  | cons c a ih => exact ih _
theorem stps_take (x : Int) (xs : List Int) (i : Nat) (h : i < xs.length) : stp (stps x (xs.take i)) (xs.getD i 0) = stps x (xs.take (i + 1)) := by
  rw [List.take_succ_eq_append_getElem h, stps_append]
  simp [stps, List.getD_eq_getElem?_getD, h]
theorem c_sum (xs : List Int) (n : Nat) (hn : n = xs.length) (hx : xs.length ≤ 1000000) : EvD Try.prog 77 [.sl (u8s xs) n .any] (.sc (.int .u32 (sum xs))) := by
  subst hn
  refine EvD.body Try.func77 rfl rfl rfl ?_
  refine SQ ?_
  refine DerQ.run (True ∧ True) ⟨[.sl (u8s xs) (List.length xs) .any, U6, .sc (.int .u32 0)] ++ UU 15, []⟩ (by kernel_rfl) ⟨trivial, trivial⟩ ?_
  refine SQ ?_
  refine DerQ.run (True ∧ True) ⟨[.sl (u8s xs) (List.length xs) .any, U6, .sc (.int .u32 0), .sc (.int .u32 4294967295)] ++ UU 14, []⟩ (by kernel_rfl) ⟨trivial, trivial⟩ ?_
  refine AWP.seq (SQ ?_)
  refine DerQ.run (TT 3) ⟨[.sl (u8s xs) (List.length xs) .any, U6, .sc (.int .u32 0), .sc (.int .u32 4294967295), U6, U6, .sl (u8s xs) (List.length xs) .any, (I6 (↑(List.length xs) : Int)), (I6 0)] ++ UU 9, []⟩ (by kernel_rfl) (tt 3) ?_
  refine AWP.block ?_
  refine AWP.loopM [true, false, true, true, false, false, true, true, true, false, false, false, false, false, false, false, false, false] (fun n st => ∃ i : Nat, i ≤ xs.length ∧ n = xs.length - i ∧ st = ⟨[.sl (u8s xs) (List.length xs) .any, U6, .sc (.int .u32 0), .sc (.int .u32 (stps 4294967295 (xs.take i))), U6, U6, .sl (u8s xs) (List.length xs) .any, (I6 (↑(List.length xs) : Int)), (I6 i), U6, U6, U6, U6, U6, U6, U6, U6, .undef], []⟩) _ ⟨0, by omega, rfl, rfl⟩ ?_
  rintro n s ⟨i, hi, rfl, rfl⟩
  refine SQ ?_
  refine DerQ.run (True ∧ True) ⟨[.sl (u8s xs) (List.length xs) .any, U6, .sc (.int .u32 0), .sc (.int .u32 (stps 4294967295 (List.take i xs))), U6, U6, .sl (u8s xs) (List.length xs) .any, (I6 (↑(List.length xs) : Int)), (I6 (↑i : Int)), (B6 (decide ((↑i : Int) < (↑(List.length xs) : Int))))] ++ UU 8, []⟩ (by kernel_rfl) ⟨trivial, trivial⟩ ?_
  refine AWP.seq ?_
  refine CN (decide ((↑i : Int) < (↑(List.length xs) : Int))) (fun h1 => ?_) (fun h1 => ?_)
  · have h1' := of_decide_eq_true h1
    refine AWP.skip (AWP.seq (AWP.block (SQ ?_)))
    refine DerQ.run ((((0 ≤ (↑i : Int)) ∧ ((↑i : Int) < (↑(List.length xs) : Int))) ∧ (Int.toNat (↑i : Int) * 1 + 1 ≤ List.length (u8s xs))) ∧ (0 < List.length (segA (u8s xs) (Int.toNat (↑i : Int) * 1) 1)) ∧ True ∧ True) ⟨[.sl (u8s xs) (List.length xs) .any, U6, .sc (.int .u32 0), .sc (.int .u32 (stps 4294967295 (List.take i xs))), U6, ev [AVal.sl (u8s xs) (List.length xs) SlK.any, U6, AVal.sc (Value.int IntKind.u32 0), AVal.sc (Value.int IntKind.u32 (stps 4294967295 (List.take i xs))), U6, U6, AVal.sl (u8s xs) (List.length xs) SlK.any, (I6 (↑(List.length xs) : Int)), (I6 (↑i : Int)), (B6 (decide ((↑i : Int) < (↑(List.length xs) : Int)))), AVal.dptr [List.getD (u8s xs) (Int.toNat (↑i : Int) * 1 + 0) AVal.undef], List.getD [List.getD (u8s xs) (Int.toNat (↑i : Int) * 1 + 0) AVal.undef] 0 U6, U6, U6, U6, U6, U6, AVal.undef] (Operand.tmp 11), .sl (u8s xs) (List.length xs) .any, (I6 (↑(List.length xs) : Int)), (I6 (↑i : Int)), (B6 (decide ((↑i : Int) < (↑(List.length xs) : Int)))), .dptr [List.getD (u8s xs) (Int.toNat (↑i : Int) * 1 + 0) AVal.undef], List.getD (u8s xs) (Int.toNat (↑i : Int) * 1 + 0) AVal.undef] ++ UU 6, []⟩ (by kernel_rfl) ⟨⟨⟨(by omega), (by omega)⟩, (by (simp only [List.length_append, List.length_take, List.length_drop, u8s_length]; omega))⟩, (by simp [segA]), trivial, trivial⟩ ?_
    rw [Int.toNat_natCast (i)]
    rw [Nat.mul_one (i)]
    rw [Nat.add_zero (i)]
    rw [Go.Abs.u8s_getD (xs) (i) (by omega)]
    refine AWP.reg ?_
    refine DerQ.pre 2 (TT 2) ⟨[.sl (u8s xs) (List.length xs) .any, U6, .sc (.int .u32 0), .sc (.int .u32 (stps 4294967295 (List.take i xs))), U6, .sc (.int .u8 (List.getD xs i 0)), .sl (u8s xs) (List.length xs) .any, (I6 (↑(List.length xs) : Int)), (I6 (↑i : Int)), (B6 (decide ((↑i : Int) < (↑(List.length xs) : Int)))), .dptr [.sc (.int .u8 (List.getD xs i 0))], .sc (.int .u8 (List.getD xs i 0)), .sc (.int .u32 (stps 4294967295 (List.take i xs))), .sc (.int .u8 (List.getD xs i 0)), U6, U6, U6, .undef], []⟩ (by kernel_rfl) (tt 2) ?_
    refine DerQ.callD (c_step (stps 4294967295 (List.take i xs)) (List.getD xs i 0)) ⟨[.sl (u8s xs) (List.length xs) .any, U6, .sc (.int .u32 0), .sc (.int .u32 (stps 4294967295 (List.take i xs))), U6, .sc (.int .u8 (List.getD xs i 0)), .sl (u8s xs) (List.length xs) .any, (I6 (↑(List.length xs) : Int)), (I6 (↑i : Int)), (B6 (decide ((↑i : Int) < (↑(List.length xs) : Int)))), .dptr [.sc (.int .u8 (List.getD xs i 0))], .sc (.int .u8 (List.getD xs i 0)), .sc (.int .u32 (stps 4294967295 (List.take i xs))), .sc (.int .u8 (List.getD xs i 0)), .sc (.int .u32 (stp (stps 4294967295 (List.take i xs)) (List.getD xs i 0))), U6, U6, .undef], []⟩ ⟨by kernel_rfl, by kernel_rfl, by kernel_rfl⟩ ?_
    refine DerQ.run (True ∧ True) ⟨[.sl (u8s xs) (List.length xs) .any, U6, .sc (.int .u32 0), .sc (.int .u32 (stp (stps 4294967295 (List.take i xs)) (List.getD xs i 0))), U6, .sc (.int .u8 (List.getD xs i 0)), .sl (u8s xs) (List.length xs) .any, (I6 (↑(List.length xs) : Int)), (I6 (↑i : Int)), (B6 (decide ((↑i : Int) < (↑(List.length xs) : Int)))), .dptr [.sc (.int .u8 (List.getD xs i 0))], .sc (.int .u8 (List.getD xs i 0)), .sc (.int .u32 (stps 4294967295 (List.take i xs))), .sc (.int .u8 (List.getD xs i 0)), .sc (.int .u32 (stp (stps 4294967295 (List.take i xs)) (List.getD xs i 0))), U6, U6, .undef], []⟩ (by kernel_rfl) ⟨trivial, trivial⟩ ?_
    refine AWP.reg ?_
    refine DerQ.run (TT 2) ⟨[.sl (u8s xs) (List.length xs) .any, U6, .sc (.int .u32 0), .sc (.int .u32 (stp (stps 4294967295 (List.take i xs)) (List.getD xs i 0))), U6, .sc (.int .u8 (List.getD xs i 0)), .sl (u8s xs) (List.length xs) .any, (I6 (↑(List.length xs) : Int)), (I6 (IntKind.wrap IntKind.i64 ((↑i : Int) + 1))), (B6 (decide ((↑i : Int) < (↑(List.length xs) : Int)))), .dptr [.sc (.int .u8 (List.getD xs i 0))], .sc (.int .u8 (List.getD xs i 0)), .sc (.int .u32 (stps 4294967295 (List.take i xs))), .sc (.int .u8 (List.getD xs i 0)), .sc (.int .u32 (stp (stps 4294967295 (List.take i xs)) (List.getD xs i 0))), (I6 (IntKind.wrap IntKind.i64 ((↑i : Int) + 1))), U6, .undef], []⟩ (by kernel_rfl) (tt 2) ?_
    rw [IntWalk.i64_in ((↑i : Int) + 1) (by omega)]
    rw [stps_take _ xs i (by omega)]
    exact ⟨xs.length - (i + 1), by omega, i + 1, by omega, rfl, by kernel_rfl⟩
  · have h1' := of_decide_eq_false h1
    refine AWP.exit ?_
    refine SQ ?_
    refine DerQ.run (TT 3) ⟨[.sl (u8s xs) (List.length xs) .any, U6, .sc (.int .u32 (x32 4294967295 (stps 4294967295 (List.take i xs)))), .sc (.int .u32 (stps 4294967295 (List.take i xs))), U6, U6, .sl (u8s xs) (List.length xs) .any, (I6 (↑(List.length xs) : Int)), (I6 (↑i : Int)), (B6 (decide ((↑i : Int) < (↑(List.length xs) : Int))))] ++ UU 6 ++ [.sc (.int .u32 (stps 4294967295 (List.take i xs))), .sc (.int .u32 (x32 4294967295 (stps 4294967295 (List.take i xs))))], []⟩ (by kernel_rfl) (tt 3) ?_
    refine AWP.ret ?_
    refine FI (.sc (.int .u32 (x32 4294967295 (stps 4294967295 (List.take i xs))))) ?_
    refine Shrink.all ?_ rfl
    rw [List.take_of_length_le (by omega)]
    rfl
theorem mixed : Try.prog.follows .mixedOrders = true := by kernel_rfl
theorem c_clone (xs : List Int) (n : Nat) (hn : n = xs.length) (hx : xs.length ≤ 1000000) : EvA Try.prog 57 [.sl (u8s xs) n .any] (fun k => .row k 0 n) (fun _ => [⟨u8s xs, 1, .fresh⟩]) := by
  refine EvA.split [] (fun h0 h1 => ?_) ?_
  · refine EvA.body Try.func57 rfl rfl (by intro k; simp [AVal.ren]) (by intro k; exact ren_row (dataAll_u8s _) k) ?_
    refine SQ ?_
    refine DerQ.run (True ∧ True) ⟨[.sl [] 0 .nil, U6, .sl [] 0 .nil] ++ UU 5, []⟩ (by kernel_rfl) ⟨trivial, trivial⟩ ?_
    refine AWP.seq (SQ ?_)
    refine DerQ.run (TT 2) ⟨[.sl [] 0 .nil, U6, .sl [] 0 .nil, .sl [] 0 .nil, (B6 true), U6, U6, .undef], []⟩ (by kernel_rfl) (tt 2) ?_
    refine CN true (fun _ => ?_) (fun h => nomatch h)
    refine SQ ?_
    refine DerQ.run (True ∧ True) ⟨[.sl [] 0 .nil, U6, .sl [] 0 .nil, .sl [] 0 .nil, (B6 true), U6, U6, .undef], []⟩ (by kernel_rfl) ⟨trivial, trivial⟩ ?_
    refine AWP.ret ?_
    refine FI (.sl [] 0 .nil) ?_
    subst h1
    have hx0 : xs = [] := List.eq_nil_of_length_eq_zero hn.symm
    subst hx0
    exact Shrink.virt 1 (.inl rfl)
  · refine EvA.body Try.func57 rfl rfl (by intro k; simp [AVal.ren]) (by intro k; exact ren_row (dataAll_u8s _) k) ?_
    refine SQ ?_
    refine DerQ.run (True ∧ True) ⟨[.sl (u8s xs) (n) .nn, U6, .sl [] 0 .nil] ++ UU 5, []⟩ (by kernel_rfl) ⟨trivial, trivial⟩ ?_
    refine AWP.seq (SQ ?_)
    refine DerQ.run (TT 2) ⟨[.sl (u8s xs) (n) .nn, U6, .sl [] 0 .nil, .sl (u8s xs) (n) .nn, (B6 false), U6, U6, .undef], []⟩ (by kernel_rfl) (tt 2) ?_
    refine CN false (fun h => nomatch h) (fun _ => ?_)
    refine AWP.skip (SQ ?_)
    refine DerQ.run (True ∧ True ∧ ((List.length (u8s xs) = n * 1) ∧ (n ≤ 1073741824)) ∧ True ∧ True) ⟨[.sl (u8s xs) (n) .nn, U6, .row 0 0 (n), .sl (u8s xs) (n) .nn, (B6 false), .sl [] 0 .cap0, .sl (u8s xs) (n) .nn, .row 0 0 (n)], [⟨u8s xs, 1, .fresh⟩]⟩ (by kernel_rfl) ⟨trivial, trivial, ⟨(by (simp only [List.length_append, List.length_take, List.length_drop, u8s_length]; omega)), (by omega)⟩, trivial, trivial⟩ ?_
    refine AWP.ret ?_
    refine FI (.row 0 0 (n)) ?_
    exact Shrink.refl _ _ _
theorem c_equal (xs ys : List Int) (n m : Nat) (hx : Bts xs) (hy : Bts ys) (hn : n = xs.length) (hm : m = ys.length) : EvD Try.prog 99 [.sl (u8s xs) n .any, .sl (u8s ys) m .any] (.sc (.bool (xs == ys))) := by
  refine EvD.body Try.func99 rfl rfl rfl ?_
  refine SQ ?_
  refine DerQ.run (True ∧ True) ⟨[.sl (u8s xs) (n) .any, .sl (u8s ys) (m) .any, U6, U6, (B6 false)] ++ UU 5, []⟩ (by kernel_rfl) ⟨trivial, trivial⟩ ?_
  refine SQ ?_
  refine DerQ.run (True ∧ ((n = List.length (u8s xs)) ∧ (∀ (i : Nat), i < List.length (u8s xs) → isByteA (List.getD (u8s xs) i AVal.undef) = true)) ∧ True ∧ ((m = List.length (u8s ys)) ∧ (∀ (i : Nat), i < List.length (u8s ys) → isByteA (List.getD (u8s ys) i AVal.undef) = true)) ∧ True ∧ True ∧ True) ⟨[.sl (u8s xs) (n) .any, .sl (u8s ys) (m) .any, U6, U6, (B6 (ByteArray.toList (strOf (u8s xs)) == ByteArray.toList (strOf (u8s ys)))), .sl (u8s xs) (n) .any, (S6 (strOf (u8s xs))), .sl (u8s ys) (m) .any, (S6 (strOf (u8s ys))), (B6 (ByteArray.toList (strOf (u8s xs)) == ByteArray.toList (strOf (u8s ys))))], []⟩ (by kernel_rfl) ⟨trivial, ⟨(by (simp only [List.length_append, List.length_take, List.length_drop, u8s_length]; omega)), (by exact u8s_isByte _)⟩, trivial, ⟨(by (simp only [List.length_append, List.length_take, List.length_drop, u8s_length]; omega)), (by exact u8s_isByte _)⟩, trivial, trivial, trivial⟩ ?_
  rw [Go.Abs.strOf_beq (xs) (ys) (by omega) (by omega)]
  refine AWP.ret FA
theorem c_seal (xs : List Int) (n : Nat) (hn : n = xs.length) (hx : xs.length ≤ 1000000) : EvD Try.prog 50 [.sl (u8s xs) n .any] (.sl (u8s (xs ++ laid (sum xs))) (n + 4) .any) := by
  refine EvD.body Try.func50 rfl rfl rfl ?_
  refine SQ ?_
  refine DerQ.run (True ∧ True) ⟨[.sl (u8s xs) (n) .any, U6, .sl [] 0 .nil] ++ UU 8, []⟩ (by kernel_rfl) ⟨trivial, trivial⟩ ?_
  refine SQ ?_
  refine DerQ.pre 1 (True ∧ True) ⟨[.sl (u8s xs) (n) .any, U6, .sl [] 0 .nil, U6, .sl (u8s xs) (n) .any] ++ UU 6, []⟩ (by kernel_rfl) ⟨trivial, trivial⟩ ?_
  refine DerQ.callD (c_sum xs n (by omega) (by omega)) ⟨[.sl (u8s xs) (n) .any, U6, .sl [] 0 .nil, U6, .sl (u8s xs) (n) .any, .sc (.int .u32 (sum xs))] ++ UU 5, []⟩ ⟨by kernel_rfl, by kernel_rfl, by kernel_rfl⟩ ?_
  refine DerQ.callD (c_laid (sum xs)) ⟨[.sl (u8s xs) (n) .any, U6, .sl [] 0 .nil, U6, .sl (u8s xs) (n) .any, .sc (.int .u32 (sum xs)), .agg [.sc (.int .u8 (b8 (sum xs))), .sc (.int .u8 (b8 (Int.fdiv (sum xs) 256))), .sc (.int .u8 (b8 (Int.fdiv (sum xs) 65536))), .sc (.int .u8 (b8 (Int.fdiv (sum xs) 16777216)))], U6, U6, U6, .undef], []⟩ ⟨by kernel_rfl, by kernel_rfl, by kernel_rfl⟩ ?_
  refine DerQ.run (True ∧ 4 ≤ 4 ∧ True) ⟨[.sl (u8s xs) (n) .any, U6, .sl [] 0 .nil, .ptr 0 0, .sl (u8s xs) (n) .any, .sc (.int .u32 (sum xs)), .agg [.sc (.int .u8 (b8 (sum xs))), .sc (.int .u8 (b8 (Int.fdiv (sum xs) 256))), .sc (.int .u8 (b8 (Int.fdiv (sum xs) 65536))), .sc (.int .u8 (b8 (Int.fdiv (sum xs) 16777216)))], U6, U6, U6, .undef], [⟨[.sc (.int .u8 (b8 (sum xs))), .sc (.int .u8 (b8 (Int.fdiv (sum xs) 256))), .sc (.int .u8 (b8 (Int.fdiv (sum xs) 65536))), .sc (.int .u8 (b8 (Int.fdiv (sum xs) 16777216)))], 1, .fresh⟩]⟩ (by kernel_rfl) ⟨trivial, (by omega), trivial⟩ ?_
  refine AWP.seq ?_
  refine AWP.drawX mixed (fun o => [8, 10].contains (o.dst.getD 0)) (by kernel_rfl) ?_
  refine DerX.quiet (True) (.sl (u8s xs) (n) .any) ⟨[.sl (u8s xs) (n) .any, U6, .sl [] 0 .nil, .ptr 0 0, .sl (u8s xs) (n) .any, .sc (.int .u32 (sum xs)), .agg [.sc (.int .u8 (b8 (sum xs))), .sc (.int .u8 (b8 (Int.fdiv (sum xs) 256))), .sc (.int .u8 (b8 (Int.fdiv (sum xs) 65536))), .sc (.int .u8 (b8 (Int.fdiv (sum xs) 16777216)))], .sl (u8s xs) (n) .any, U6, U6, .undef], [⟨[.sc (.int .u8 (b8 (sum xs))), .sc (.int .u8 (b8 (Int.fdiv (sum xs) 256))), .sc (.int .u8 (b8 (Int.fdiv (sum xs) 65536))), .sc (.int .u8 (b8 (Int.fdiv (sum xs) 16777216)))], 1, .fresh⟩]⟩ (by intro ext; kernel_rfl) ⟨by kernel_rfl, by kernel_rfl⟩ trivial ?_
  refine DerX.callA (c_clone xs n (by omega) (by omega)) [.sl (u8s xs) (n) .any] [⟨u8s xs, 1, .fresh⟩] ⟨[.sl (u8s xs) (n) .any, U6, .sl [] 0 .nil, .ptr 0 0, .sl (u8s xs) (n) .any, .sc (.int .u32 (sum xs)), .agg [.sc (.int .u8 (b8 (sum xs))), .sc (.int .u8 (b8 (Int.fdiv (sum xs) 256))), .sc (.int .u8 (b8 (Int.fdiv (sum xs) 65536))), .sc (.int .u8 (b8 (Int.fdiv (sum xs) 16777216)))], .sl (u8s xs) (n) .any, .row 1 0 (n), U6, .undef], [⟨[.sc (.int .u8 (b8 (sum xs))), .sc (.int .u8 (b8 (Int.fdiv (sum xs) 256))), .sc (.int .u8 (b8 (Int.fdiv (sum xs) 65536))), .sc (.int .u8 (b8 (Int.fdiv (sum xs) 16777216)))], 1, .fresh⟩, ⟨u8s xs, 1, .fresh⟩]⟩ ⟨by kernel_rfl, by kernel_rfl, by kernel_rfl, by kernel_rfl, by kernel_rfl, by kernel_rfl⟩ ?_
  refine DerX.quiet ((((0 : Int) ≤ (0 : Int)) ∧ (((0 : Int) < (4 : Int)) ∧ (((0 : Int) ≤ (4 : Int)) ∧ ((4 : Int) ≤ (4 : Int))))) ∧ (((1 : Nat) = (1 : Nat)) ∧ (4 ≤ List.length (u8s [b8 (sum xs), b8 (Int.fdiv (sum xs) 256), b8 (Int.fdiv (sum xs) 65536), b8 (Int.fdiv (sum xs) 16777216)])))) (.row 0 0 4) ⟨[.sl (u8s xs) (n) .any, U6, .sl [] 0 .nil, .ptr 0 0, .sl (u8s xs) (n) .any, .sc (.int .u32 (sum xs)), .agg [.sc (.int .u8 (b8 (sum xs))), .sc (.int .u8 (b8 (Int.fdiv (sum xs) 256))), .sc (.int .u8 (b8 (Int.fdiv (sum xs) 65536))), .sc (.int .u8 (b8 (Int.fdiv (sum xs) 16777216)))], .sl (u8s xs) (n) .any, .row 1 0 (n), .row 0 0 4, .undef], [⟨[.sc (.int .u8 (b8 (sum xs))), .sc (.int .u8 (b8 (Int.fdiv (sum xs) 256))), .sc (.int .u8 (b8 (Int.fdiv (sum xs) 65536))), .sc (.int .u8 (b8 (Int.fdiv (sum xs) 16777216)))], 1, .fresh⟩, ⟨u8s xs, 1, .fresh⟩]⟩ (by intro ext; kernel_rfl) ⟨by kernel_rfl, by kernel_rfl⟩ ⟨⟨(by omega), ⟨(by omega), ⟨(by omega), (by omega)⟩⟩⟩, ⟨(by omega), (by simp)⟩⟩ ?_
  refine DerX.eff ((((1 : Nat) = (1 : Nat)) ∧ (4 ≤ List.length (u8s [b8 (sum xs), b8 (Int.fdiv (sum xs) 256), b8 (Int.fdiv (sum xs) 65536), b8 (Int.fdiv (sum xs) 16777216)]))) ∧ (((1 : Nat) = (1 : Nat)) ∧ ((n * 1 = List.length (u8s xs)) ∧ ((n + 4 ≤ 1073741824) ∧ ((dataAll (u8s xs ++ u8s [b8 (sum xs), b8 (Int.fdiv (sum xs) 256), b8 (Int.fdiv (sum xs) 65536), b8 (Int.fdiv (sum xs) 16777216)]) = true) ∧ (∀ (i : Nat), i < List.length (u8s [b8 (sum xs), b8 (Int.fdiv (sum xs) 256), b8 (Int.fdiv (sum xs) 65536), b8 (Int.fdiv (sum xs) 16777216)]) → AVal.one (List.getD (u8s [b8 (sum xs), b8 (Int.fdiv (sum xs) 256), b8 (Int.fdiv (sum xs) 65536), b8 (Int.fdiv (sum xs) 16777216)]) i AVal.undef) = true)))))) (.row 1 0 (n + 4)) [⟨u8s xs ++ u8s [b8 (sum xs), b8 (Int.fdiv (sum xs) 256), b8 (Int.fdiv (sum xs) 65536), b8 (Int.fdiv (sum xs) 16777216)], 1, .grown⟩] ⟨[.sl (u8s xs) (n) .any, U6, .sl [] 0 .nil, .ptr 0 0, .sl (u8s xs) (n) .any, .sc (.int .u32 (sum xs)), .agg [.sc (.int .u8 (b8 (sum xs))), .sc (.int .u8 (b8 (Int.fdiv (sum xs) 256))), .sc (.int .u8 (b8 (Int.fdiv (sum xs) 65536))), .sc (.int .u8 (b8 (Int.fdiv (sum xs) 16777216)))], .sl (u8s xs) (n) .any, .row 1 0 (n), .row 0 0 4, .row 1 0 (n + 4)], [⟨[.sc (.int .u8 (b8 (sum xs))), .sc (.int .u8 (b8 (Int.fdiv (sum xs) 256))), .sc (.int .u8 (b8 (Int.fdiv (sum xs) 65536))), .sc (.int .u8 (b8 (Int.fdiv (sum xs) 16777216)))], 1, .fresh⟩, ⟨u8s xs ++ u8s [b8 (sum xs), b8 (Int.fdiv (sum xs) 256), b8 (Int.fdiv (sum xs) 65536), b8 (Int.fdiv (sum xs) 16777216)], 1, .grown⟩]⟩ (by kernel_rfl) ⟨by kernel_rfl, by kernel_rfl, by kernel_rfl⟩ ⟨⟨(by omega), (by simp)⟩, ⟨(by omega), ⟨(by (simp only [List.length_append, List.length_take, List.length_drop, u8s_length]; omega)), ⟨(by omega), ⟨(by (simp only [dataAll_append, dataAll_u8s, dataAll, AVal.data, Bool.and_true])), (by exact u8s_one _)⟩⟩⟩⟩⟩ ?_
  rw [Nat.add_zero (n + 4)]
  rw [Nat.add_zero (n + 4)]
  rw [Nat.add_zero (n + 4)]
  rw [Nat.add_zero (n + 4)]
  rw [Nat.add_zero (n + 4)]
  rw [Nat.add_zero (n + 4)]
  rw [Nat.add_zero (n + 4)]
  rw [Nat.add_zero (n + 4)]
  rw [Nat.add_zero (n + 4)]
  rw [Nat.add_zero (n + 4)]
  rw [Nat.add_zero (n + 4)]
  rw [Nat.add_zero (n + 4)]
  rw [Nat.add_zero (n + 4)]
  rw [Nat.add_zero (n + 4)]
  rw [Nat.add_zero (n + 4)]
  rw [Nat.add_zero (n + 4)]
  rw [Nat.add_zero (n + 4)]
  rw [Nat.add_zero (n + 4)]
  rw [Nat.add_zero (n + 4)]
  rw [Nat.add_zero (n + 4)]
  rw [Nat.add_zero (n + 4)]
  rw [Nat.add_zero (n + 4)]
  rw [Nat.add_zero (n + 4)]
  rw [Nat.add_zero (n + 4)]
  rw [Nat.add_zero (n + 4)]
  rw [Nat.add_zero (n + 4)]
  rw [Nat.add_zero (n + 4)]
  rw [Nat.add_zero (n + 4)]
  rw [Nat.add_zero (n + 4)]
  rw [Nat.add_zero (n + 4)]
  refine DerX.quiet (True) (.row 1 0 (n + 4)) ⟨[.sl (u8s xs) (n) .any, U6, .row 1 0 (n + 4), .ptr 0 0, .sl (u8s xs) (n) .any, .sc (.int .u32 (sum xs)), .agg [.sc (.int .u8 (b8 (sum xs))), .sc (.int .u8 (b8 (Int.fdiv (sum xs) 256))), .sc (.int .u8 (b8 (Int.fdiv (sum xs) 65536))), .sc (.int .u8 (b8 (Int.fdiv (sum xs) 16777216)))], .sl (u8s xs) (n) .any, .row 1 0 (n), .row 0 0 4, .row 1 0 (n + 4)], [⟨[.sc (.int .u8 (b8 (sum xs))), .sc (.int .u8 (b8 (Int.fdiv (sum xs) 256))), .sc (.int .u8 (b8 (Int.fdiv (sum xs) 65536))), .sc (.int .u8 (b8 (Int.fdiv (sum xs) 16777216)))], 1, .fresh⟩, ⟨u8s xs ++ u8s [b8 (sum xs), b8 (Int.fdiv (sum xs) 256), b8 (Int.fdiv (sum xs) 65536), b8 (Int.fdiv (sum xs) 16777216)], 1, .grown⟩]⟩ (by intro ext; kernel_rfl) ⟨by kernel_rfl, by kernel_rfl⟩ trivial ?_
  rw [Nat.add_zero (n + 4)]
  rw [Nat.add_zero (n + 4)]
  rw [Nat.add_zero (n + 4)]
  rw [Nat.add_zero (n + 4)]
  rw [Nat.add_zero (n + 4)]
  rw [Nat.add_zero (n + 4)]
  rw [Nat.add_zero (n + 4)]
  rw [Nat.add_zero (n + 4)]
  rw [Nat.add_zero (n + 4)]
  rw [Nat.add_zero (n + 4)]
  rw [Nat.add_zero (n + 4)]
  rw [Nat.add_zero (n + 4)]
  rw [Nat.add_zero (n + 4)]
  rw [Nat.add_zero (n + 4)]
  rw [Nat.add_zero (n + 4)]
  rw [Nat.add_zero (n + 4)]
  rw [Nat.add_zero (n + 4)]
  rw [Nat.add_zero (n + 4)]
  rw [Nat.add_zero (n + 4)]
  rw [Nat.add_zero (n + 4)]
  rw [Nat.add_zero (n + 4)]
  rw [Nat.add_zero (n + 4)]
  rw [Nat.add_zero (n + 4)]
  rw [Nat.add_zero (n + 4)]
  rw [Nat.add_zero (n + 4)]
  rw [Nat.add_zero (n + 4)]
  rw [Nat.add_zero (n + 4)]
  rw [Nat.add_zero (n + 4)]
  rw [Nat.add_zero (n + 4)]
  rw [Nat.add_zero (n + 4)]
  refine DerX.nil ?_
  refine AWP.ret ?_
  refine FI (.row 1 0 (n + 4)) ?_
  refine Shrink.dataK [1] ((dataAll (u8s xs ++ u8s [b8 (sum xs), b8 (Int.fdiv (sum xs) 256), b8 (Int.fdiv (sum xs) 65536), b8 (Int.fdiv (sum xs) 16777216)]) = true) ∧ (True)) (.sl (List.take ((n + 4) * 1) (List.drop 0 (u8s xs ++ u8s [b8 (sum xs), b8 (Int.fdiv (sum xs) 256), b8 (Int.fdiv (sum xs) 65536), b8 (Int.fdiv (sum xs) 16777216)]))) (n + 4) .any) (by kernel_rfl) ⟨(by (simp only [dataAll_append, dataAll_u8s, dataAll, AVal.data, Bool.and_true])), trivial⟩ ?_ rfl
  (simp only [AVal.anyA, anyAll, List.drop_zero, Nat.mul_one, u8s_append, u8s_take, u8s_drop]; rw [List.take_of_length_le (by simp <;> omega)]; rfl)
def opn (xs : List Int) : Option (List Int) :=
  if xs.length < 4 then none else if laid (sum (xs.take (xs.length - 4))) = xs.drop (xs.length - 4) then some (xs.take (xs.length - 4)) else none
def resO : Option (List Int) → AVal
  | none => .tup [.sl [] 0 .any, .sc (.bool false)]
  | some a => .tup [.sl (u8s a) a.length .any, .sc (.bool true)]
theorem laid_bts (s : Int) : Bts (laid s) := by
  simp [laid, Bts, b8, IntKind.wrap_u8]; omega
theorem c_open (xs : List Int) (n : Nat) (hn : n = xs.length) (hx : xs.length ≤ 1000000) (hb : Bts xs) : EvD Try.prog 91 [.sl (u8s xs) n .any] (resO (opn xs)) := by
  refine EvD.body Try.func91 rfl rfl (by unfold resO; split <;> rfl) ?_
  refine SQ ?_
  refine DerQ.run (TT 2) ⟨[.sl (u8s xs) (n) .any, U6, .sl [] 0 .nil, (B6 false)] ++ UU 22, []⟩ (by kernel_rfl) (tt 2) ?_
  refine SQ ?_
  refine DerQ.run (TT 4) ⟨[.sl (u8s xs) (n) .any, U6, .sl [] 0 .nil, (B6 false), (I6 (IntKind.wrap IntKind.i64 ((↑n : Int) - 4))), U6, .sl (u8s xs) (n) .any, (I6 (↑n : Int)), (I6 (IntKind.wrap IntKind.i64 ((↑n : Int) - 4)))] ++ UU 17, []⟩ (by kernel_rfl) (tt 4) ?_
  rw [IntWalk.i64_in ((↑n : Int) - 4) (by omega)]
  refine AWP.seq (SQ ?_)
  refine DerQ.run (TT 2) ⟨[.sl (u8s xs) (n) .any, U6, .sl [] 0 .nil, (B6 false), (I6 ((↑n : Int) - 4)), U6, .sl (u8s xs) (n) .any, (I6 (↑n : Int)), (I6 ((↑n : Int) - 4)), (I6 ((↑n : Int) - 4)), (B6 (decide ((↑n : Int) - 4 < 0)))] ++ UU 15, []⟩ (by kernel_rfl) (tt 2) ?_
  refine CN (decide ((↑n : Int) - 4 < 0)) (fun h1 => ?_) (fun h1 => ?_)
  · have h1' := of_decide_eq_true h1
    refine SQ ?_
    refine DerQ.run (TT 2) ⟨[.sl (u8s xs) (n) .any, U6, .sl [] 0 .nil, (B6 false), (I6 ((↑n : Int) - 4)), U6, .sl (u8s xs) (n) .any, (I6 (↑n : Int)), (I6 ((↑n : Int) - 4)), (I6 ((↑n : Int) - 4)), (B6 (decide ((↑n : Int) - 4 < 0)))] ++ UU 15, []⟩ (by kernel_rfl) (tt 2) ?_
    refine AWP.ret ?_
    refine FI (.tup [.sl [] 0 .nil, (B6 false)]) ?_
    have e : opn xs = none := by unfold opn; rw [if_pos (by omega)]
    rw [e]
    exact Shrink.dataK [] (True) (.tup [.sl [] 0 .nil, .sc (.bool false)]) (by kernel_rfl) trivial rfl rfl
  · have h1' := of_decide_eq_false h1
    refine AWP.skip (SQ ?_)
    refine DerQ.pre 3 (True ∧ True ∧ ((((0 : Int) ≤ (0 : Int)) ∧ ((0 ≤ (↑n : Int) - 4) ∧ (((↑n : Int) - 4 ≤ (↑n : Int)) ∧ ((↑n : Int) ≤ (↑n : Int))))) ∧ (Int.toNat ((↑n : Int) - 4) * 1 ≤ List.length (u8s xs))) ∧ True) ⟨[.sl (u8s xs) (n) .any, U6, .sl [] 0 .nil, (B6 false), (I6 ((↑n : Int) - 4)), U6, .sl (u8s xs) (n) .any, (I6 (↑n : Int)), (I6 ((↑n : Int) - 4)), (I6 ((↑n : Int) - 4)), (B6 (decide ((↑n : Int) - 4 < 0))), .sl (u8s xs) (n) .any, (I6 ((↑n : Int) - 4)), .sl (List.take ((Int.toNat ((↑n : Int) - 4) - 0) * 1) (List.drop 0 (u8s xs))) (Int.toNat ((↑n : Int) - 4) - 0) .any] ++ UU 12, []⟩ (by kernel_rfl) ⟨trivial, trivial, ⟨⟨(by omega), ⟨(by omega), ⟨(by omega), (by omega)⟩⟩⟩, (by (simp only [List.length_append, List.length_take, List.length_drop, u8s_length]; omega))⟩, trivial⟩ ?_
    rw [Nat.mul_one (Int.toNat ((↑n : Int) - 4) - 0)]
    rw [Nat.sub_zero (Int.toNat ((↑n : Int) - 4))]
    rw [List.drop_zero]
    rw [Go.Abs.u8s_take (Int.toNat ((↑n : Int) - 4)) (xs)]
    refine DerQ.callD (c_sum (List.take (Int.toNat ((↑n : Int) - 4)) xs) (Int.toNat ((↑n : Int) - 4)) (by (simp only [List.length_append, List.length_take, List.length_drop, u8s_length]; omega)) (by (simp only [List.length_append, List.length_take, List.length_drop, u8s_length]; omega))) ⟨[.sl (u8s xs) (n) .any, U6, .sl [] 0 .nil, (B6 false), (I6 ((↑n : Int) - 4)), U6, .sl (u8s xs) (n) .any, (I6 (↑n : Int)), (I6 ((↑n : Int) - 4)), (I6 ((↑n : Int) - 4)), (B6 (decide ((↑n : Int) - 4 < 0))), .sl (u8s xs) (n) .any, (I6 ((↑n : Int) - 4)), .sl (u8s (List.take (Int.toNat ((↑n : Int) - 4)) xs)) (Int.toNat ((↑n : Int) - 4)) .any, .sc (.int .u32 (sum (List.take (Int.toNat ((↑n : Int) - 4)) xs)))] ++ UU 11, []⟩ ⟨by kernel_rfl, by kernel_rfl, by kernel_rfl⟩ ?_
    refine DerQ.callD (c_laid (sum (List.take (Int.toNat ((↑n : Int) - 4)) xs))) ⟨[.sl (u8s xs) (n) .any, U6, .sl [] 0 .nil, (B6 false), (I6 ((↑n : Int) - 4)), U6, .sl (u8s xs) (n) .any, (I6 (↑n : Int)), (I6 ((↑n : Int) - 4)), (I6 ((↑n : Int) - 4)), (B6 (decide ((↑n : Int) - 4 < 0))), .sl (u8s xs) (n) .any, (I6 ((↑n : Int) - 4)), .sl (u8s (List.take (Int.toNat ((↑n : Int) - 4)) xs)) (Int.toNat ((↑n : Int) - 4)) .any, .sc (.int .u32 (sum (List.take (Int.toNat ((↑n : Int) - 4)) xs))), .agg [.sc (.int .u8 (b8 (sum (List.take (Int.toNat ((↑n : Int) - 4)) xs)))), .sc (.int .u8 (b8 (Int.fdiv (sum (List.take (Int.toNat ((↑n : Int) - 4)) xs)) 256))), .sc (.int .u8 (b8 (Int.fdiv (sum (List.take (Int.toNat ((↑n : Int) - 4)) xs)) 65536))), .sc (.int .u8 (b8 (Int.fdiv (sum (List.take (Int.toNat ((↑n : Int) - 4)) xs)) 16777216)))]] ++ UU 10, []⟩ ⟨by kernel_rfl, by kernel_rfl, by kernel_rfl⟩ ?_
    refine DerQ.run (True ∧ 4 ≤ 4 ∧ True) ⟨[.sl (u8s xs) (n) .any, U6, .sl [] 0 .nil, (B6 false), (I6 ((↑n : Int) - 4)), .ptr 0 0, .sl (u8s xs) (n) .any, (I6 (↑n : Int)), (I6 ((↑n : Int) - 4)), (I6 ((↑n : Int) - 4)), (B6 (decide ((↑n : Int) - 4 < 0))), .sl (u8s xs) (n) .any, (I6 ((↑n : Int) - 4)), .sl (u8s (List.take (Int.toNat ((↑n : Int) - 4)) xs)) (Int.toNat ((↑n : Int) - 4)) .any, .sc (.int .u32 (sum (List.take (Int.toNat ((↑n : Int) - 4)) xs))), .agg [.sc (.int .u8 (b8 (sum (List.take (Int.toNat ((↑n : Int) - 4)) xs)))), .sc (.int .u8 (b8 (Int.fdiv (sum (List.take (Int.toNat ((↑n : Int) - 4)) xs)) 256))), .sc (.int .u8 (b8 (Int.fdiv (sum (List.take (Int.toNat ((↑n : Int) - 4)) xs)) 65536))), .sc (.int .u8 (b8 (Int.fdiv (sum (List.take (Int.toNat ((↑n : Int) - 4)) xs)) 16777216)))]] ++ UU 10, [⟨[.sc (.int .u8 (b8 (sum (List.take (Int.toNat ((↑n : Int) - 4)) xs)))), .sc (.int .u8 (b8 (Int.fdiv (sum (List.take (Int.toNat ((↑n : Int) - 4)) xs)) 256))), .sc (.int .u8 (b8 (Int.fdiv (sum (List.take (Int.toNat ((↑n : Int) - 4)) xs)) 65536))), .sc (.int .u8 (b8 (Int.fdiv (sum (List.take (Int.toNat ((↑n : Int) - 4)) xs)) 16777216)))], 1, .fresh⟩]⟩ (by kernel_rfl) ⟨trivial, (by omega), trivial⟩ ?_
    refine AWP.seq (AWP.seq ?_)
    refine AWP.drawX mixed (fun o => [20].contains (o.dst.getD 0)) (by kernel_rfl) ?_
    refine DerX.quiet ((((0 : Int) ≤ (0 : Int)) ∧ (((0 : Int) < (4 : Int)) ∧ (((0 : Int) ≤ (4 : Int)) ∧ ((4 : Int) ≤ (4 : Int))))) ∧ (((1 : Nat) = (1 : Nat)) ∧ (4 ≤ List.length (u8s [b8 (sum (List.take (Int.toNat ((↑n : Int) - 4)) xs)), b8 (Int.fdiv (sum (List.take (Int.toNat ((↑n : Int) - 4)) xs)) 256), b8 (Int.fdiv (sum (List.take (Int.toNat ((↑n : Int) - 4)) xs)) 65536), b8 (Int.fdiv (sum (List.take (Int.toNat ((↑n : Int) - 4)) xs)) 16777216)])))) (.row 0 0 4) ⟨[.sl (u8s xs) (n) .any, U6, .sl [] 0 .nil, (B6 false), (I6 ((↑n : Int) - 4)), .ptr 0 0, .sl (u8s xs) (n) .any, (I6 (↑n : Int)), (I6 ((↑n : Int) - 4)), (I6 ((↑n : Int) - 4)), (B6 (decide ((↑n : Int) - 4 < 0))), .sl (u8s xs) (n) .any, (I6 ((↑n : Int) - 4)), .sl (u8s (List.take (Int.toNat ((↑n : Int) - 4)) xs)) (Int.toNat ((↑n : Int) - 4)) .any, .sc (.int .u32 (sum (List.take (Int.toNat ((↑n : Int) - 4)) xs))), .agg [.sc (.int .u8 (b8 (sum (List.take (Int.toNat ((↑n : Int) - 4)) xs)))), .sc (.int .u8 (b8 (Int.fdiv (sum (List.take (Int.toNat ((↑n : Int) - 4)) xs)) 256))), .sc (.int .u8 (b8 (Int.fdiv (sum (List.take (Int.toNat ((↑n : Int) - 4)) xs)) 65536))), .sc (.int .u8 (b8 (Int.fdiv (sum (List.take (Int.toNat ((↑n : Int) - 4)) xs)) 16777216)))], .row 0 0 4] ++ UU 9, [⟨[.sc (.int .u8 (b8 (sum (List.take (Int.toNat ((↑n : Int) - 4)) xs)))), .sc (.int .u8 (b8 (Int.fdiv (sum (List.take (Int.toNat ((↑n : Int) - 4)) xs)) 256))), .sc (.int .u8 (b8 (Int.fdiv (sum (List.take (Int.toNat ((↑n : Int) - 4)) xs)) 65536))), .sc (.int .u8 (b8 (Int.fdiv (sum (List.take (Int.toNat ((↑n : Int) - 4)) xs)) 16777216)))], 1, .fresh⟩]⟩ (by intro ext; kernel_rfl) ⟨by kernel_rfl, by kernel_rfl⟩ ⟨⟨(by omega), ⟨(by omega), ⟨(by omega), (by omega)⟩⟩⟩, ⟨(by omega), (by simp)⟩⟩ ?_
    refine DerX.quiet (True) (.sl (u8s xs) (n) .any) ⟨[.sl (u8s xs) (n) .any, U6, .sl [] 0 .nil, (B6 false), (I6 ((↑n : Int) - 4)), .ptr 0 0, .sl (u8s xs) (n) .any, (I6 (↑n : Int)), (I6 ((↑n : Int) - 4)), (I6 ((↑n : Int) - 4)), (B6 (decide ((↑n : Int) - 4 < 0))), .sl (u8s xs) (n) .any, (I6 ((↑n : Int) - 4)), .sl (u8s (List.take (Int.toNat ((↑n : Int) - 4)) xs)) (Int.toNat ((↑n : Int) - 4)) .any, .sc (.int .u32 (sum (List.take (Int.toNat ((↑n : Int) - 4)) xs))), .agg [.sc (.int .u8 (b8 (sum (List.take (Int.toNat ((↑n : Int) - 4)) xs)))), .sc (.int .u8 (b8 (Int.fdiv (sum (List.take (Int.toNat ((↑n : Int) - 4)) xs)) 256))), .sc (.int .u8 (b8 (Int.fdiv (sum (List.take (Int.toNat ((↑n : Int) - 4)) xs)) 65536))), .sc (.int .u8 (b8 (Int.fdiv (sum (List.take (Int.toNat ((↑n : Int) - 4)) xs)) 16777216)))], .row 0 0 4, .sl (u8s xs) (n) .any] ++ UU 8, [⟨[.sc (.int .u8 (b8 (sum (List.take (Int.toNat ((↑n : Int) - 4)) xs)))), .sc (.int .u8 (b8 (Int.fdiv (sum (List.take (Int.toNat ((↑n : Int) - 4)) xs)) 256))), .sc (.int .u8 (b8 (Int.fdiv (sum (List.take (Int.toNat ((↑n : Int) - 4)) xs)) 65536))), .sc (.int .u8 (b8 (Int.fdiv (sum (List.take (Int.toNat ((↑n : Int) - 4)) xs)) 16777216)))], 1, .fresh⟩]⟩ (by intro ext; kernel_rfl) ⟨by kernel_rfl, by kernel_rfl⟩ trivial ?_
    refine DerX.quiet (True) (I6 ((↑n : Int) - 4)) ⟨[.sl (u8s xs) (n) .any, U6, .sl [] 0 .nil, (B6 false), (I6 ((↑n : Int) - 4)), .ptr 0 0, .sl (u8s xs) (n) .any, (I6 (↑n : Int)), (I6 ((↑n : Int) - 4)), (I6 ((↑n : Int) - 4)), (B6 (decide ((↑n : Int) - 4 < 0))), .sl (u8s xs) (n) .any, (I6 ((↑n : Int) - 4)), .sl (u8s (List.take (Int.toNat ((↑n : Int) - 4)) xs)) (Int.toNat ((↑n : Int) - 4)) .any, .sc (.int .u32 (sum (List.take (Int.toNat ((↑n : Int) - 4)) xs))), .agg [.sc (.int .u8 (b8 (sum (List.take (Int.toNat ((↑n : Int) - 4)) xs)))), .sc (.int .u8 (b8 (Int.fdiv (sum (List.take (Int.toNat ((↑n : Int) - 4)) xs)) 256))), .sc (.int .u8 (b8 (Int.fdiv (sum (List.take (Int.toNat ((↑n : Int) - 4)) xs)) 65536))), .sc (.int .u8 (b8 (Int.fdiv (sum (List.take (Int.toNat ((↑n : Int) - 4)) xs)) 16777216)))], .row 0 0 4, .sl (u8s xs) (n) .any, (I6 ((↑n : Int) - 4))] ++ UU 7, [⟨[.sc (.int .u8 (b8 (sum (List.take (Int.toNat ((↑n : Int) - 4)) xs)))), .sc (.int .u8 (b8 (Int.fdiv (sum (List.take (Int.toNat ((↑n : Int) - 4)) xs)) 256))), .sc (.int .u8 (b8 (Int.fdiv (sum (List.take (Int.toNat ((↑n : Int) - 4)) xs)) 65536))), .sc (.int .u8 (b8 (Int.fdiv (sum (List.take (Int.toNat ((↑n : Int) - 4)) xs)) 16777216)))], 1, .fresh⟩]⟩ (by intro ext; kernel_rfl) ⟨by kernel_rfl, by kernel_rfl⟩ trivial ?_
    refine DerX.quiet (((0 ≤ (↑n : Int) - 4) ∧ (((↑n : Int) - 4 ≤ (↑n : Int)) ∧ (((↑n : Int) ≤ (↑n : Int)) ∧ ((↑n : Int) ≤ (↑n : Int))))) ∧ (Int.toNat (↑n : Int) * 1 ≤ List.length (u8s xs))) (.sl (List.take ((Int.toNat (↑n : Int) - Int.toNat ((↑n : Int) - 4)) * 1) (List.drop (Int.toNat ((↑n : Int) - 4) * 1) (u8s xs))) (Int.toNat (↑n : Int) - Int.toNat ((↑n : Int) - 4)) .any) ⟨[.sl (u8s xs) (n) .any, U6, .sl [] 0 .nil, (B6 false), (I6 ((↑n : Int) - 4)), .ptr 0 0, .sl (u8s xs) (n) .any, (I6 (↑n : Int)), (I6 ((↑n : Int) - 4)), (I6 ((↑n : Int) - 4)), (B6 (decide ((↑n : Int) - 4 < 0))), .sl (u8s xs) (n) .any, (I6 ((↑n : Int) - 4)), .sl (u8s (List.take (Int.toNat ((↑n : Int) - 4)) xs)) (Int.toNat ((↑n : Int) - 4)) .any, .sc (.int .u32 (sum (List.take (Int.toNat ((↑n : Int) - 4)) xs))), .agg [.sc (.int .u8 (b8 (sum (List.take (Int.toNat ((↑n : Int) - 4)) xs)))), .sc (.int .u8 (b8 (Int.fdiv (sum (List.take (Int.toNat ((↑n : Int) - 4)) xs)) 256))), .sc (.int .u8 (b8 (Int.fdiv (sum (List.take (Int.toNat ((↑n : Int) - 4)) xs)) 65536))), .sc (.int .u8 (b8 (Int.fdiv (sum (List.take (Int.toNat ((↑n : Int) - 4)) xs)) 16777216)))], .row 0 0 4, .sl (u8s xs) (n) .any, (I6 ((↑n : Int) - 4)), .sl (List.take ((Int.toNat (↑n : Int) - Int.toNat ((↑n : Int) - 4)) * 1) (List.drop (Int.toNat ((↑n : Int) - 4) * 1) (u8s xs))) (Int.toNat (↑n : Int) - Int.toNat ((↑n : Int) - 4)) .any] ++ UU 6, [⟨[.sc (.int .u8 (b8 (sum (List.take (Int.toNat ((↑n : Int) - 4)) xs)))), .sc (.int .u8 (b8 (Int.fdiv (sum (List.take (Int.toNat ((↑n : Int) - 4)) xs)) 256))), .sc (.int .u8 (b8 (Int.fdiv (sum (List.take (Int.toNat ((↑n : Int) - 4)) xs)) 65536))), .sc (.int .u8 (b8 (Int.fdiv (sum (List.take (Int.toNat ((↑n : Int) - 4)) xs)) 16777216)))], 1, .fresh⟩]⟩ (by intro ext; kernel_rfl) ⟨by kernel_rfl, by kernel_rfl⟩ ⟨⟨(by omega), ⟨(by omega), ⟨(by omega), (by omega)⟩⟩⟩, (by (simp only [List.length_append, List.length_take, List.length_drop, u8s_length]; omega))⟩ ?_
    rw [Int.toNat_natCast (n)]
    rw [Nat.mul_one (n - Int.toNat ((↑n : Int) - 4))]
    rw [Nat.mul_one (Int.toNat ((↑n : Int) - 4))]
    rw [Go.Abs.u8s_drop (Int.toNat ((↑n : Int) - 4)) (xs)]
    rw [Go.Abs.u8s_take (n - Int.toNat ((↑n : Int) - 4)) (List.drop (Int.toNat ((↑n : Int) - 4)) xs)]
    refine DerX.callT (c_equal [b8 (sum (List.take (Int.toNat ((↑n : Int) - 4)) xs)), b8 (Int.fdiv (sum (List.take (Int.toNat ((↑n : Int) - 4)) xs)) 256), b8 (Int.fdiv (sum (List.take (Int.toNat ((↑n : Int) - 4)) xs)) 65536), b8 (Int.fdiv (sum (List.take (Int.toNat ((↑n : Int) - 4)) xs)) 16777216)] (List.take (n - Int.toNat ((↑n : Int) - 4)) (List.drop (Int.toNat ((↑n : Int) - 4)) xs)) ((4 : Nat)) (n - Int.toNat ((↑n : Int) - 4)) (by exact laid_bts _) (by (repeat (first | assumption | apply Bts.take | apply Bts.drop | apply Bts.append))) (by rfl) (by (simp only [List.length_append, List.length_take, List.length_drop, u8s_length]; omega))) [.row 0 0 4, .sl (u8s (List.take (n - Int.toNat ((↑n : Int) - 4)) (List.drop (Int.toNat ((↑n : Int) - 4)) xs))) (n - Int.toNat ((↑n : Int) - 4)) .any] ((dataAll (u8s [b8 (sum (List.take (Int.toNat ((↑n : Int) - 4)) xs)), b8 (Int.fdiv (sum (List.take (Int.toNat ((↑n : Int) - 4)) xs)) 256), b8 (Int.fdiv (sum (List.take (Int.toNat ((↑n : Int) - 4)) xs)) 65536), b8 (Int.fdiv (sum (List.take (Int.toNat ((↑n : Int) - 4)) xs)) 16777216)]) = true) ∧ ((AVal.sl (u8s [b8 (sum (List.take (Int.toNat ((↑n : Int) - 4)) xs)), b8 (Int.fdiv (sum (List.take (Int.toNat ((↑n : Int) - 4)) xs)) 256), b8 (Int.fdiv (sum (List.take (Int.toNat ((↑n : Int) - 4)) xs)) 65536), b8 (Int.fdiv (sum (List.take (Int.toNat ((↑n : Int) - 4)) xs)) 16777216)]) 4 SlK.any = AVal.sl (u8s [b8 (sum (List.take (Int.toNat ((↑n : Int) - 4)) xs)), b8 (Int.fdiv (sum (List.take (Int.toNat ((↑n : Int) - 4)) xs)) 256), b8 (Int.fdiv (sum (List.take (Int.toNat ((↑n : Int) - 4)) xs)) 65536), b8 (Int.fdiv (sum (List.take (Int.toNat ((↑n : Int) - 4)) xs)) 16777216)]) 4 SlK.any) ∧ ((AVal.data (AVal.sl (u8s (List.take (n - Int.toNat ((↑n : Int) - 4)) (List.drop (Int.toNat ((↑n : Int) - 4)) xs))) (n - Int.toNat ((↑n : Int) - 4)) SlK.any) = true) ∧ ((AVal.anyA (AVal.sl (u8s (List.take (n - Int.toNat ((↑n : Int) - 4)) (List.drop (Int.toNat ((↑n : Int) - 4)) xs))) (n - Int.toNat ((↑n : Int) - 4)) SlK.any) = AVal.sl (u8s (List.take (n - Int.toNat ((↑n : Int) - 4)) (List.drop (Int.toNat ((↑n : Int) - 4)) xs))) (n - Int.toNat ((↑n : Int) - 4)) SlK.any) ∧ (True))))) ⟨[.sl (u8s xs) (n) .any, U6, .sl [] 0 .nil, (B6 false), (I6 ((↑n : Int) - 4)), .ptr 0 0, .sl (u8s xs) (n) .any, (I6 (↑n : Int)), (I6 ((↑n : Int) - 4)), (I6 ((↑n : Int) - 4)), (B6 (decide ((↑n : Int) - 4 < 0))), .sl (u8s xs) (n) .any, (I6 ((↑n : Int) - 4)), .sl (u8s (List.take (Int.toNat ((↑n : Int) - 4)) xs)) (Int.toNat ((↑n : Int) - 4)) .any, .sc (.int .u32 (sum (List.take (Int.toNat ((↑n : Int) - 4)) xs))), .agg [.sc (.int .u8 (b8 (sum (List.take (Int.toNat ((↑n : Int) - 4)) xs)))), .sc (.int .u8 (b8 (Int.fdiv (sum (List.take (Int.toNat ((↑n : Int) - 4)) xs)) 256))), .sc (.int .u8 (b8 (Int.fdiv (sum (List.take (Int.toNat ((↑n : Int) - 4)) xs)) 65536))), .sc (.int .u8 (b8 (Int.fdiv (sum (List.take (Int.toNat ((↑n : Int) - 4)) xs)) 16777216)))], .row 0 0 4, .sl (u8s xs) (n) .any, (I6 ((↑n : Int) - 4)), .sl (u8s (List.take (n - Int.toNat ((↑n : Int) - 4)) (List.drop (Int.toNat ((↑n : Int) - 4)) xs))) (n - Int.toNat ((↑n : Int) - 4)) .any, (B6 ([b8 (sum (List.take (Int.toNat ((↑n : Int) - 4)) xs)), b8 (Int.fdiv (sum (List.take (Int.toNat ((↑n : Int) - 4)) xs)) 256), b8 (Int.fdiv (sum (List.take (Int.toNat ((↑n : Int) - 4)) xs)) 65536), b8 (Int.fdiv (sum (List.take (Int.toNat ((↑n : Int) - 4)) xs)) 16777216)] == List.take (n - Int.toNat ((↑n : Int) - 4)) (List.drop (Int.toNat ((↑n : Int) - 4)) xs)))] ++ UU 5, [⟨[.sc (.int .u8 (b8 (sum (List.take (Int.toNat ((↑n : Int) - 4)) xs)))), .sc (.int .u8 (b8 (Int.fdiv (sum (List.take (Int.toNat ((↑n : Int) - 4)) xs)) 256))), .sc (.int .u8 (b8 (Int.fdiv (sum (List.take (Int.toNat ((↑n : Int) - 4)) xs)) 65536))), .sc (.int .u8 (b8 (Int.fdiv (sum (List.take (Int.toNat ((↑n : Int) - 4)) xs)) 16777216)))], 1, .fresh⟩]⟩ (by intro ext; kernel_rfl) ⟨by kernel_rfl, by kernel_rfl, by kernel_rfl, by kernel_rfl⟩ ⟨(by rfl), ⟨(by rfl), ⟨(by rfl), ⟨(by rfl), trivial⟩⟩⟩⟩ ?_
    refine DerX.quiet (True) (B6 (![b8 (sum (List.take (Int.toNat ((↑n : Int) - 4)) xs)), b8 (Int.fdiv (sum (List.take (Int.toNat ((↑n : Int) - 4)) xs)) 256), b8 (Int.fdiv (sum (List.take (Int.toNat ((↑n : Int) - 4)) xs)) 65536), b8 (Int.fdiv (sum (List.take (Int.toNat ((↑n : Int) - 4)) xs)) 16777216)] == List.take (n - Int.toNat ((↑n : Int) - 4)) (List.drop (Int.toNat ((↑n : Int) - 4)) xs))) ⟨[.sl (u8s xs) (n) .any, U6, .sl [] 0 .nil, (B6 false), (I6 ((↑n : Int) - 4)), .ptr 0 0, .sl (u8s xs) (n) .any, (I6 (↑n : Int)), (I6 ((↑n : Int) - 4)), (I6 ((↑n : Int) - 4)), (B6 (decide ((↑n : Int) - 4 < 0))), .sl (u8s xs) (n) .any, (I6 ((↑n : Int) - 4)), .sl (u8s (List.take (Int.toNat ((↑n : Int) - 4)) xs)) (Int.toNat ((↑n : Int) - 4)) .any, .sc (.int .u32 (sum (List.take (Int.toNat ((↑n : Int) - 4)) xs))), .agg [.sc (.int .u8 (b8 (sum (List.take (Int.toNat ((↑n : Int) - 4)) xs)))), .sc (.int .u8 (b8 (Int.fdiv (sum (List.take (Int.toNat ((↑n : Int) - 4)) xs)) 256))), .sc (.int .u8 (b8 (Int.fdiv (sum (List.take (Int.toNat ((↑n : Int) - 4)) xs)) 65536))), .sc (.int .u8 (b8 (Int.fdiv (sum (List.take (Int.toNat ((↑n : Int) - 4)) xs)) 16777216)))], .row 0 0 4, .sl (u8s xs) (n) .any, (I6 ((↑n : Int) - 4)), .sl (u8s (List.take (n - Int.toNat ((↑n : Int) - 4)) (List.drop (Int.toNat ((↑n : Int) - 4)) xs))) (n - Int.toNat ((↑n : Int) - 4)) .any, (B6 ([b8 (sum (List.take (Int.toNat ((↑n : Int) - 4)) xs)), b8 (Int.fdiv (sum (List.take (Int.toNat ((↑n : Int) - 4)) xs)) 256), b8 (Int.fdiv (sum (List.take (Int.toNat ((↑n : Int) - 4)) xs)) 65536), b8 (Int.fdiv (sum (List.take (Int.toNat ((↑n : Int) - 4)) xs)) 16777216)] == List.take (n - Int.toNat ((↑n : Int) - 4)) (List.drop (Int.toNat ((↑n : Int) - 4)) xs))), (B6 (![b8 (sum (List.take (Int.toNat ((↑n : Int) - 4)) xs)), b8 (Int.fdiv (sum (List.take (Int.toNat ((↑n : Int) - 4)) xs)) 256), b8 (Int.fdiv (sum (List.take (Int.toNat ((↑n : Int) - 4)) xs)) 65536), b8 (Int.fdiv (sum (List.take (Int.toNat ((↑n : Int) - 4)) xs)) 16777216)] == List.take (n - Int.toNat ((↑n : Int) - 4)) (List.drop (Int.toNat ((↑n : Int) - 4)) xs))), U6, U6, U6, .undef], [⟨[.sc (.int .u8 (b8 (sum (List.take (Int.toNat ((↑n : Int) - 4)) xs)))), .sc (.int .u8 (b8 (Int.fdiv (sum (List.take (Int.toNat ((↑n : Int) - 4)) xs)) 256))), .sc (.int .u8 (b8 (Int.fdiv (sum (List.take (Int.toNat ((↑n : Int) - 4)) xs)) 65536))), .sc (.int .u8 (b8 (Int.fdiv (sum (List.take (Int.toNat ((↑n : Int) - 4)) xs)) 16777216)))], 1, .fresh⟩]⟩ (by intro ext; kernel_rfl) ⟨by kernel_rfl, by kernel_rfl⟩ trivial ?_
    refine DerX.nil ?_
    refine CN (![b8 (sum (List.take (Int.toNat ((↑n : Int) - 4)) xs)), b8 (Int.fdiv (sum (List.take (Int.toNat ((↑n : Int) - 4)) xs)) 256), b8 (Int.fdiv (sum (List.take (Int.toNat ((↑n : Int) - 4)) xs)) 65536), b8 (Int.fdiv (sum (List.take (Int.toNat ((↑n : Int) - 4)) xs)) 16777216)] == List.take (n - Int.toNat ((↑n : Int) - 4)) (List.drop (Int.toNat ((↑n : Int) - 4)) xs)) (fun h2 => ?_) (fun h2 => ?_)
    · refine SQ ?_
      refine DerQ.run (TT 2) ⟨[.sl (u8s xs) (n) .any, U6, .sl [] 0 .nil, (B6 false), (I6 ((↑n : Int) - 4)), .ptr 0 0, .sl (u8s xs) (n) .any, (I6 (↑n : Int)), (I6 ((↑n : Int) - 4)), (I6 ((↑n : Int) - 4)), (B6 (decide ((↑n : Int) - 4 < 0))), .sl (u8s xs) (n) .any, (I6 ((↑n : Int) - 4)), .sl (u8s (List.take (Int.toNat ((↑n : Int) - 4)) xs)) (Int.toNat ((↑n : Int) - 4)) .any, .sc (.int .u32 (sum (List.take (Int.toNat ((↑n : Int) - 4)) xs))), .agg [.sc (.int .u8 (b8 (sum (List.take (Int.toNat ((↑n : Int) - 4)) xs)))), .sc (.int .u8 (b8 (Int.fdiv (sum (List.take (Int.toNat ((↑n : Int) - 4)) xs)) 256))), .sc (.int .u8 (b8 (Int.fdiv (sum (List.take (Int.toNat ((↑n : Int) - 4)) xs)) 65536))), .sc (.int .u8 (b8 (Int.fdiv (sum (List.take (Int.toNat ((↑n : Int) - 4)) xs)) 16777216)))], .row 0 0 4, .sl (u8s xs) (n) .any, (I6 ((↑n : Int) - 4)), .sl (u8s (List.take (n - Int.toNat ((↑n : Int) - 4)) (List.drop (Int.toNat ((↑n : Int) - 4)) xs))) (n - Int.toNat ((↑n : Int) - 4)) .any, (B6 ([b8 (sum (List.take (Int.toNat ((↑n : Int) - 4)) xs)), b8 (Int.fdiv (sum (List.take (Int.toNat ((↑n : Int) - 4)) xs)) 256), b8 (Int.fdiv (sum (List.take (Int.toNat ((↑n : Int) - 4)) xs)) 65536), b8 (Int.fdiv (sum (List.take (Int.toNat ((↑n : Int) - 4)) xs)) 16777216)] == List.take (n - Int.toNat ((↑n : Int) - 4)) (List.drop (Int.toNat ((↑n : Int) - 4)) xs))), (B6 (![b8 (sum (List.take (Int.toNat ((↑n : Int) - 4)) xs)), b8 (Int.fdiv (sum (List.take (Int.toNat ((↑n : Int) - 4)) xs)) 256), b8 (Int.fdiv (sum (List.take (Int.toNat ((↑n : Int) - 4)) xs)) 65536), b8 (Int.fdiv (sum (List.take (Int.toNat ((↑n : Int) - 4)) xs)) 16777216)] == List.take (n - Int.toNat ((↑n : Int) - 4)) (List.drop (Int.toNat ((↑n : Int) - 4)) xs))), U6, U6, U6, .undef], [⟨[.sc (.int .u8 (b8 (sum (List.take (Int.toNat ((↑n : Int) - 4)) xs)))), .sc (.int .u8 (b8 (Int.fdiv (sum (List.take (Int.toNat ((↑n : Int) - 4)) xs)) 256))), .sc (.int .u8 (b8 (Int.fdiv (sum (List.take (Int.toNat ((↑n : Int) - 4)) xs)) 65536))), .sc (.int .u8 (b8 (Int.fdiv (sum (List.take (Int.toNat ((↑n : Int) - 4)) xs)) 16777216)))], 1, .fresh⟩]⟩ (by kernel_rfl) (tt 2) ?_
      refine AWP.ret ?_
      refine FI (.tup [.sl [] 0 .nil, (B6 false)]) ?_
      have q : Int.toNat ((n : Int) - 4) = xs.length - 4 := by omega
      have q2 : List.take (n - (xs.length - 4)) (List.drop (xs.length - 4) xs) = List.drop (xs.length - 4) xs := List.take_of_length_le (by simp; omega)
      rw [q, q2] at h2
      have h3 : laid (sum (xs.take (xs.length - 4))) ≠ xs.drop (xs.length - 4) := by simpa [laid] using h2
      have e : opn xs = none := by unfold opn; rw [if_neg (by omega), if_neg h3]
      rw [e]
      exact Shrink.dataK [] (True) (.tup [.sl [] 0 .nil, .sc (.bool false)]) (by kernel_rfl) trivial rfl rfl
    · refine AWP.skip (SQ ?_)
      refine DerQ.run (True ∧ True ∧ True ∧ ((((0 : Int) ≤ (0 : Int)) ∧ ((0 ≤ (↑n : Int) - 4) ∧ (((↑n : Int) - 4 ≤ (↑n : Int) - 4) ∧ ((↑n : Int) - 4 ≤ (↑n : Int))))) ∧ (Int.toNat ((↑n : Int) - 4) * 1 ≤ List.length (u8s xs))) ∧ True ∧ True ∧ True) ⟨[.sl (u8s xs) (n) .any, U6, .sl (List.take ((Int.toNat ((↑n : Int) - 4) - 0) * 1) (List.drop 0 (u8s xs))) (Int.toNat ((↑n : Int) - 4) - 0) .any, (B6 true), (I6 ((↑n : Int) - 4)), .ptr 0 0, .sl (u8s xs) (n) .any, (I6 (↑n : Int)), (I6 ((↑n : Int) - 4)), (I6 ((↑n : Int) - 4)), (B6 (decide ((↑n : Int) - 4 < 0))), .sl (u8s xs) (n) .any, (I6 ((↑n : Int) - 4)), .sl (u8s (List.take (Int.toNat ((↑n : Int) - 4)) xs)) (Int.toNat ((↑n : Int) - 4)) .any, .sc (.int .u32 (sum (List.take (Int.toNat ((↑n : Int) - 4)) xs))), .agg [.sc (.int .u8 (b8 (sum (List.take (Int.toNat ((↑n : Int) - 4)) xs)))), .sc (.int .u8 (b8 (Int.fdiv (sum (List.take (Int.toNat ((↑n : Int) - 4)) xs)) 256))), .sc (.int .u8 (b8 (Int.fdiv (sum (List.take (Int.toNat ((↑n : Int) - 4)) xs)) 65536))), .sc (.int .u8 (b8 (Int.fdiv (sum (List.take (Int.toNat ((↑n : Int) - 4)) xs)) 16777216)))], .row 0 0 4, .sl (u8s xs) (n) .any, (I6 ((↑n : Int) - 4)), .sl (u8s (List.take (n - Int.toNat ((↑n : Int) - 4)) (List.drop (Int.toNat ((↑n : Int) - 4)) xs))) (n - Int.toNat ((↑n : Int) - 4)) .any, (B6 ([b8 (sum (List.take (Int.toNat ((↑n : Int) - 4)) xs)), b8 (Int.fdiv (sum (List.take (Int.toNat ((↑n : Int) - 4)) xs)) 256), b8 (Int.fdiv (sum (List.take (Int.toNat ((↑n : Int) - 4)) xs)) 65536), b8 (Int.fdiv (sum (List.take (Int.toNat ((↑n : Int) - 4)) xs)) 16777216)] == List.take (n - Int.toNat ((↑n : Int) - 4)) (List.drop (Int.toNat ((↑n : Int) - 4)) xs))), (B6 (![b8 (sum (List.take (Int.toNat ((↑n : Int) - 4)) xs)), b8 (Int.fdiv (sum (List.take (Int.toNat ((↑n : Int) - 4)) xs)) 256), b8 (Int.fdiv (sum (List.take (Int.toNat ((↑n : Int) - 4)) xs)) 65536), b8 (Int.fdiv (sum (List.take (Int.toNat ((↑n : Int) - 4)) xs)) 16777216)] == List.take (n - Int.toNat ((↑n : Int) - 4)) (List.drop (Int.toNat ((↑n : Int) - 4)) xs))), .sl (u8s xs) (n) .any, (I6 ((↑n : Int) - 4)), (I6 ((↑n : Int) - 4)), .sl (List.take ((Int.toNat ((↑n : Int) - 4) - 0) * 1) (List.drop 0 (u8s xs))) (Int.toNat ((↑n : Int) - 4) - 0) .any], [⟨[.sc (.int .u8 (b8 (sum (List.take (Int.toNat ((↑n : Int) - 4)) xs)))), .sc (.int .u8 (b8 (Int.fdiv (sum (List.take (Int.toNat ((↑n : Int) - 4)) xs)) 256))), .sc (.int .u8 (b8 (Int.fdiv (sum (List.take (Int.toNat ((↑n : Int) - 4)) xs)) 65536))), .sc (.int .u8 (b8 (Int.fdiv (sum (List.take (Int.toNat ((↑n : Int) - 4)) xs)) 16777216)))], 1, .fresh⟩]⟩ (by kernel_rfl) ⟨trivial, trivial, trivial, ⟨⟨(by omega), ⟨(by omega), ⟨(by omega), (by omega)⟩⟩⟩, (by (simp only [List.length_append, List.length_take, List.length_drop, u8s_length]; omega))⟩, trivial, trivial, trivial⟩ ?_
      rw [Nat.mul_one (Int.toNat ((↑n : Int) - 4) - 0)]
      rw [Nat.sub_zero (Int.toNat ((↑n : Int) - 4))]
      rw [List.drop_zero]
      rw [Go.Abs.u8s_take (Int.toNat ((↑n : Int) - 4)) (xs)]
      refine AWP.ret ?_
      refine FI (.tup [.sl (u8s (List.take (Int.toNat ((↑n : Int) - 4)) xs)) (Int.toNat ((↑n : Int) - 4)) .any, (B6 true)]) ?_
      have q : Int.toNat ((n : Int) - 4) = xs.length - 4 := by omega
      have q2 : List.take (n - (xs.length - 4)) (List.drop (xs.length - 4) xs) = List.drop (xs.length - 4) xs := List.take_of_length_le (by simp; omega)
      rw [q, q2] at h2
      have h3 : laid (sum (xs.take (xs.length - 4))) = xs.drop (xs.length - 4) := by simpa [laid] using h2
      have e : opn xs = some (xs.take (xs.length - 4)) := by unfold opn; rw [if_neg (by omega), if_pos h3]
      rw [e, q]
      refine Shrink.dataK [] True (.tup [.sl (u8s (List.take (xs.length - 4) xs)) (xs.length - 4) .any, (B6 true)]) (by kernel_rfl) trivial ?_ rfl
      simp [resO, AVal.anyA, anyAll]
end Go.Crc
