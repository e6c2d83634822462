/- Walks and laws, part Num7. -/
import Derived.Test.YtmcjdeiicbgmhabNum4
import Derived.Test.YtmcjdeiicbgmhabAbs34
set_option maxRecDepth 100000
set_option maxHeartbeats 0
set_option linter.unusedSimpArgs false
set_option linter.unusedVariables false
namespace Go.Num
open Go Go.Abs Go.Proofs
/-- The digits of a number, at most k. -/
def dig : Nat → Int → List Int
  | 0, _ => []
  | k + 1, u => (if u / 10 = 0 then [] else dig k (u / 10)) ++ [48 + u % 10]
def absN (n : Int) : Int := if n < 0 then -n else n
def decS (n : Int) : ByteArray := if n < 0 then "-".toUTF8 ++ strOf (u8s (dig 20 (absN n))) else strOf (u8s (dig 20 (absN n)))
theorem z_store (T : List Int) (i : Nat) (u : Int) (hi : i < 20) (h0 : 0 ≤ u) (h1 : u ≤ 9223372036854775808) : spliceA (u8s (List.replicate (20 - i) 0 ++ T)) (Int.toNat (20 - (↑i : Int) - 1)) (u8s [IntKind.wrap IntKind.u8 (IntKind.wrap IntKind.u64 (48 + Int.tmod u 10))]) = u8s (List.replicate (20 - (i + 1)) 0 ++ (48 + u % 10) :: T) := by
  rw [spliceA_one]
  have e : 20 - i = (20 - (i + 1)) + 1 := by omega
  have e2 : Int.toNat (20 - (↑i : Int) - 1) = (List.replicate (20 - (i + 1)) (0 : Int)).length := by simp; omega
  have e3 : IntKind.wrap IntKind.u8 (IntKind.wrap IntKind.u64 (48 + Int.tmod u 10)) = 48 + u % 10 := by
    rw [Int.tmod_eq_emod_of_nonneg h0, IntKind.wrap_u64, IntKind.wrap_u8]; omega
  rw [e, e2, e3, List.replicate_succ', List.append_assoc]
  simp
theorem z_tail (T : List Int) (i : Nat) (hi : i < 20) (hT : T.length = i) (x : Int) : List.take (20 - Int.toNat (20 - (↑i : Int) - 1)) (List.drop (Int.toNat (20 - (↑i : Int) - 1)) (List.replicate (20 - (i + 1)) 0 ++ x :: T)) = x :: T := by
  rw [List.drop_left' (by simp; omega), List.take_of_length_le (by simp; omega)]
theorem z_tail2 (T : List Int) (i : Nat) (hi : i ≤ 20) (hT : T.length = i) : List.take (20 - Int.toNat (20 - (↑i : Int))) (List.drop (Int.toNat (20 - (↑i : Int))) (List.replicate (20 - i) 0 ++ T)) = T := by
  rw [List.drop_left' (by simp), List.take_of_length_le (by omega)]
theorem z_div (u : Int) (h0 : 0 ≤ u) (h1 : u ≤ 9223372036854775808) : IntKind.wrap IntKind.u64 (Int.tdiv u 10) = u / 10 := by
  rw [Int.tdiv_eq_ediv_of_nonneg h0, IntKind.wrap_u64]; omega
theorem z_last (i : Nat) (u : Int) (hi : (i : Int) < 20) (h : u / 10 = 0) : dig (20 - i) u = [48 + u % 10] := by
  have e : 20 - i = (20 - (i + 1)) + 1 := by omega
  rw [e, dig, if_pos h]; rfl
theorem z_next (i : Nat) (u : Int) (hi : (i : Int) < 20) (h : ¬ u / 10 = 0) : dig (20 - i) u = dig (20 - (i + 1)) (u / 10) ++ [48 + u % 10] := by
  have e : 20 - i = (20 - (i + 1)) + 1 := by omega
  rw [e, dig, if_neg h]
theorem n_dec (n : Int) (h0 : -9223372036854775808 ≤ n) (h1 : n ≤ 9223372036854775807) : EvD Try.prog 33 [.sc (.int .i64 n)] (.sc (.string (decS n))) := by
  refine EvD.body Try.func33 rfl rfl rfl ?_
  refine AWP.seq ?_
  refine AWP.reg ?_
  refine DerQ.run ((True) ∧ (True)) ⟨[.sc (.int .i64 (n)), .undef, .sc (.string ({ data := #[] })), .undef, .undef, .undef, .undef, .undef, .undef, .undef, .undef, .undef, .undef, .undef, .undef, .undef, .undef, .undef, .undef, .undef, .undef, .undef, .undef, .undef, .undef, .undef, .undef, .undef, .undef, .undef, .undef, .undef, .undef, .undef, .undef, .undef], []⟩ (by kernel_rfl) ⟨trivial, trivial⟩ ?_
  refine AWP.seq ?_
  refine AWP.reg ?_
  refine DerQ.run ((True) ∧ (True)) ⟨[.sc (.int .i64 (n)), .undef, .sc (.string ({ data := #[] })), .ptr 0 0, .undef, .undef, .undef, .undef, .undef, .undef, .undef, .undef, .undef, .undef, .undef, .undef, .undef, .undef, .undef, .undef, .undef, .undef, .undef, .undef, .undef, .undef, .undef, .undef, .undef, .undef, .undef, .undef, .undef, .undef, .undef, .undef], [⟨[.sc (.int .u8 0), .sc (.int .u8 0), .sc (.int .u8 0), .sc (.int .u8 0), .sc (.int .u8 0), .sc (.int .u8 0), .sc (.int .u8 0), .sc (.int .u8 0), .sc (.int .u8 0), .sc (.int .u8 0), .sc (.int .u8 0), .sc (.int .u8 0), .sc (.int .u8 0), .sc (.int .u8 0), .sc (.int .u8 0), .sc (.int .u8 0), .sc (.int .u8 0), .sc (.int .u8 0), .sc (.int .u8 0), .sc (.int .u8 0)], 1, .fresh⟩]⟩ (by kernel_rfl) ⟨trivial, trivial⟩ ?_
  refine AWP.seq ?_
  refine AWP.reg ?_
  refine DerQ.run ((True) ∧ (True)) ⟨[.sc (.int .i64 (n)), .undef, .sc (.string ({ data := #[] })), .ptr 0 0, .sc (.int .i64 20), .undef, .undef, .undef, .undef, .undef, .undef, .undef, .undef, .undef, .undef, .undef, .undef, .undef, .undef, .undef, .undef, .undef, .undef, .undef, .undef, .undef, .undef, .undef, .undef, .undef, .undef, .undef, .undef, .undef, .undef, .undef], [⟨[.sc (.int .u8 0), .sc (.int .u8 0), .sc (.int .u8 0), .sc (.int .u8 0), .sc (.int .u8 0), .sc (.int .u8 0), .sc (.int .u8 0), .sc (.int .u8 0), .sc (.int .u8 0), .sc (.int .u8 0), .sc (.int .u8 0), .sc (.int .u8 0), .sc (.int .u8 0), .sc (.int .u8 0), .sc (.int .u8 0), .sc (.int .u8 0), .sc (.int .u8 0), .sc (.int .u8 0), .sc (.int .u8 0), .sc (.int .u8 0)], 1, .fresh⟩]⟩ (by kernel_rfl) ⟨trivial, trivial⟩ ?_
  refine AWP.seq ?_
  refine AWP.reg ?_
  refine DerQ.run ((True) ∧ ((True) ∧ ((True) ∧ (True)))) ⟨[.sc (.int .i64 (n)), .undef, .sc (.string ({ data := #[] })), .ptr 0 0, .sc (.int .i64 20), .sc (.int .u64 (IntKind.wrap IntKind.u64 n)), .sc (.int .i64 (n)), .sc (.int .u64 (IntKind.wrap IntKind.u64 n)), .undef, .undef, .undef, .undef, .undef, .undef, .undef, .undef, .undef, .undef, .undef, .undef, .undef, .undef, .undef, .undef, .undef, .undef, .undef, .undef, .undef, .undef, .undef, .undef, .undef, .undef, .undef, .undef], [⟨[.sc (.int .u8 0), .sc (.int .u8 0), .sc (.int .u8 0), .sc (.int .u8 0), .sc (.int .u8 0), .sc (.int .u8 0), .sc (.int .u8 0), .sc (.int .u8 0), .sc (.int .u8 0), .sc (.int .u8 0), .sc (.int .u8 0), .sc (.int .u8 0), .sc (.int .u8 0), .sc (.int .u8 0), .sc (.int .u8 0), .sc (.int .u8 0), .sc (.int .u8 0), .sc (.int .u8 0), .sc (.int .u8 0), .sc (.int .u8 0)], 1, .fresh⟩]⟩ (by kernel_rfl) ⟨trivial, ⟨trivial, ⟨trivial, trivial⟩⟩⟩ ?_
  refine AWP.seq ?_
  refine AWP.seq ?_
  refine AWP.reg ?_
  refine DerQ.run ((True) ∧ ((True) ∧ (True))) ⟨[.sc (.int .i64 (n)), .undef, .sc (.string ({ data := #[] })), .ptr 0 0, .sc (.int .i64 20), .sc (.int .u64 (IntKind.wrap IntKind.u64 n)), .sc (.int .i64 (n)), .sc (.int .u64 (IntKind.wrap IntKind.u64 n)), .sc (.int .i64 (n)), .sc (.bool (decide (n < 0))), .undef, .undef, .undef, .undef, .undef, .undef, .undef, .undef, .undef, .undef, .undef, .undef, .undef, .undef, .undef, .undef, .undef, .undef, .undef, .undef, .undef, .undef, .undef, .undef, .undef, .undef], [⟨[.sc (.int .u8 0), .sc (.int .u8 0), .sc (.int .u8 0), .sc (.int .u8 0), .sc (.int .u8 0), .sc (.int .u8 0), .sc (.int .u8 0), .sc (.int .u8 0), .sc (.int .u8 0), .sc (.int .u8 0), .sc (.int .u8 0), .sc (.int .u8 0), .sc (.int .u8 0), .sc (.int .u8 0), .sc (.int .u8 0), .sc (.int .u8 0), .sc (.int .u8 0), .sc (.int .u8 0), .sc (.int .u8 0), .sc (.int .u8 0)], 1, .fresh⟩]⟩ (by kernel_rfl) ⟨trivial, ⟨trivial, trivial⟩⟩ ?_
  refine AWP.cond (b := decide (n < 0)) (by kernel_rfl) (fun h2 => ?_) (fun h2 => ?_)
  · have h2' := of_decide_eq_true h2
    refine AWP.reg ?_
    refine DerQ.run ((True) ∧ ((True) ∧ ((True) ∧ (True)))) ⟨[.sc (.int .i64 (n)), .undef, .sc (.string ({ data := #[] })), .ptr 0 0, .sc (.int .i64 20), .sc (.int .u64 (IntKind.wrap IntKind.u64 (0 - IntKind.wrap IntKind.u64 n))), .sc (.int .i64 (n)), .sc (.int .u64 (IntKind.wrap IntKind.u64 n)), .sc (.int .i64 (n)), .sc (.bool (decide (n < 0))), .sc (.int .u64 (IntKind.wrap IntKind.u64 n)), .sc (.int .u64 (IntKind.wrap IntKind.u64 (0 - IntKind.wrap IntKind.u64 n))), .undef, .undef, .undef, .undef, .undef, .undef, .undef, .undef, .undef, .undef, .undef, .undef, .undef, .undef, .undef, .undef, .undef, .undef, .undef, .undef, .undef, .undef, .undef, .undef], [⟨[.sc (.int .u8 0), .sc (.int .u8 0), .sc (.int .u8 0), .sc (.int .u8 0), .sc (.int .u8 0), .sc (.int .u8 0), .sc (.int .u8 0), .sc (.int .u8 0), .sc (.int .u8 0), .sc (.int .u8 0), .sc (.int .u8 0), .sc (.int .u8 0), .sc (.int .u8 0), .sc (.int .u8 0), .sc (.int .u8 0), .sc (.int .u8 0), .sc (.int .u8 0), .sc (.int .u8 0), .sc (.int .u8 0), .sc (.int .u8 0)], 1, .fresh⟩]⟩ (by kernel_rfl) ⟨trivial, ⟨trivial, ⟨trivial, trivial⟩⟩⟩ ?_
    refine AWP.seq ?_
    refine AWP.seq ?_
    refine AWP.reg ?_
    refine DerQ.run ((True) ∧ (True)) ⟨[.sc (.int .i64 (n)), .undef, .sc (.string ({ data := #[] })), .ptr 0 0, .sc (.int .i64 20), .sc (.int .u64 (IntKind.wrap IntKind.u64 (0 - IntKind.wrap IntKind.u64 n))), .sc (.int .i64 (n)), .sc (.int .u64 (IntKind.wrap IntKind.u64 n)), .sc (.int .i64 (n)), .sc (.bool (decide (n < 0))), .sc (.int .u64 (IntKind.wrap IntKind.u64 n)), .sc (.int .u64 (IntKind.wrap IntKind.u64 (0 - IntKind.wrap IntKind.u64 n))), .sc (.int .i64 0), .undef, .undef, .undef, .undef, .undef, .undef, .undef, .undef, .undef, .undef, .undef, .undef, .undef, .undef, .undef, .undef, .undef, .undef, .undef, .undef, .undef, .undef, .undef], [⟨[.sc (.int .u8 0), .sc (.int .u8 0), .sc (.int .u8 0), .sc (.int .u8 0), .sc (.int .u8 0), .sc (.int .u8 0), .sc (.int .u8 0), .sc (.int .u8 0), .sc (.int .u8 0), .sc (.int .u8 0), .sc (.int .u8 0), .sc (.int .u8 0), .sc (.int .u8 0), .sc (.int .u8 0), .sc (.int .u8 0), .sc (.int .u8 0), .sc (.int .u8 0), .sc (.int .u8 0), .sc (.int .u8 0), .sc (.int .u8 0)], 1, .fresh⟩]⟩ (by kernel_rfl) ⟨trivial, trivial⟩ ?_
    refine AWP.block ?_
    refine AWP.loopM [true, false, true, true, true, true, true, true, true, true, true, true, true, false, false, false, false, false, false, false, false, false, false, false, false, false, false, false, false, false, false, false, false, false, false, false] (fun kk st => ∃ (i : Nat) (u : Int) (T : List Int), kk = 20 - i ∧ i ≤ 20 ∧ T.length = i ∧ 0 ≤ u ∧ u ≤ 9223372036854775808 ∧ dig 20 (absN n) = dig (20 - i) u ++ T ∧ st = ⟨[.sc (.int .i64 (n)), .undef, .sc (.string ({ data := #[] })), .ptr 0 0, .sc (.int .i64 (20 - (i : Int))), .sc (.int .u64 u), .sc (.int .i64 (n)), .sc (.int .u64 (IntKind.wrap IntKind.u64 n)), .sc (.int .i64 (n)), .sc (.bool (decide (n < 0))), .sc (.int .u64 (IntKind.wrap IntKind.u64 n)), .sc (.int .u64 (IntKind.wrap IntKind.u64 (0 - IntKind.wrap IntKind.u64 n))), .sc (.int .i64 (i : Int)), .undef, .undef, .undef, .undef, .undef, .undef, .undef, .undef, .undef, .undef, .undef, .undef, .undef, .undef, .undef, .undef, .undef, .undef, .undef, .undef, .undef, .undef, .undef], [⟨u8s (List.replicate (20 - i) 0 ++ T), 1, .fresh⟩]⟩) _ ⟨0, absN n, [], rfl, by omega, rfl, by unfold absN; split <;> omega, by unfold absN; split <;> omega, by simp, by rw [absN, if_pos h2', IntKind.wrap_u64, IntKind.wrap_u64, show ((0 : Int) - n % 18446744073709551616) % 18446744073709551616 = -n by omega]; kernel_rfl⟩ ?_
    rintro kk s ⟨i, u, T, rfl, hi, hT, hu0, hu1, hD, rfl⟩
    refine AWP.seq ?_
    refine AWP.reg ?_
    refine DerQ.run ((True) ∧ (True)) ⟨[.sc (.int .i64 (n)), .undef, .sc (.string ({ data := #[] })), .ptr 0 0, .sc (.int .i64 (20 - (↑i : Int))), .sc (.int .u64 (u)), .sc (.int .i64 (n)), .sc (.int .u64 (IntKind.wrap IntKind.u64 n)), .sc (.int .i64 (n)), .sc (.bool (decide (n < 0))), .sc (.int .u64 (IntKind.wrap IntKind.u64 n)), .sc (.int .u64 (IntKind.wrap IntKind.u64 (0 - IntKind.wrap IntKind.u64 n))), .sc (.int .i64 ((↑i : Int))), .sc (.bool (decide ((↑i : Int) < 20))), .undef, .undef, .undef, .undef, .undef, .undef, .undef, .undef, .undef, .undef, .undef, .undef, .undef, .undef, .undef, .undef, .undef, .undef, .undef, .undef, .undef, .undef], [⟨u8s (List.replicate (20 - i) 0 ++ T), 1, .fresh⟩]⟩ (by kernel_rfl) ⟨trivial, trivial⟩ ?_
    refine AWP.seq ?_
    refine AWP.cond (b := decide ((↑i : Int) < 20)) (by kernel_rfl) (fun h3 => ?_) (fun h3 => ?_)
    · have h3' := of_decide_eq_true h3
      refine AWP.skip ?_
      refine AWP.seq ?_
      refine AWP.block ?_
      refine AWP.seq ?_
      refine AWP.reg ?_
      refine DerQ.run ((True) ∧ ((True) ∧ ((True) ∧ (True)))) ⟨[.sc (.int .i64 (n)), .undef, .sc (.string ({ data := #[] })), .ptr 0 0, .sc (.int .i64 (IntKind.wrap IntKind.i64 (20 - (↑i : Int) - 1))), .sc (.int .u64 (u)), .sc (.int .i64 (n)), .sc (.int .u64 (IntKind.wrap IntKind.u64 n)), .sc (.int .i64 (n)), .sc (.bool (decide (n < 0))), .sc (.int .u64 (IntKind.wrap IntKind.u64 n)), .sc (.int .u64 (IntKind.wrap IntKind.u64 (0 - IntKind.wrap IntKind.u64 n))), .sc (.int .i64 ((↑i : Int))), .sc (.bool (decide ((↑i : Int) < 20))), .sc (.int .i64 (20 - (↑i : Int))), .sc (.int .i64 (IntKind.wrap IntKind.i64 (20 - (↑i : Int) - 1))), .undef, .undef, .undef, .undef, .undef, .undef, .undef, .undef, .undef, .undef, .undef, .undef, .undef, .undef, .undef, .undef, .undef, .undef, .undef, .undef], [⟨u8s (List.replicate (20 - i) 0 ++ T), 1, .fresh⟩]⟩ (by kernel_rfl) ⟨trivial, ⟨trivial, ⟨trivial, trivial⟩⟩⟩ ?_
      rw [IntWalk.i64_in (20 - (↑i : Int) - 1) (by omega)]
      refine AWP.seq ?_
      refine AWP.reg ?_
      refine DerQ.run ((True) ∧ ((True) ∧ (((10 : Int) ≠ (0 : Int)) ∧ ((True) ∧ ((True) ∧ (((0 ≤ 20 - (↑i : Int) - 1) ∧ (20 - (↑i : Int) - 1 < 20)) ∧ ((0 + Int.toNat (20 - (↑i : Int) - 1) * 1 + 1 ≤ List.length (u8s (List.replicate (20 - i) 0 ++ T))) ∧ (True)))))))) ⟨[.sc (.int .i64 (n)), .undef, .sc (.string ({ data := #[] })), .ptr 0 0, .sc (.int .i64 (20 - (↑i : Int) - 1)), .sc (.int .u64 (u)), .sc (.int .i64 (n)), .sc (.int .u64 (IntKind.wrap IntKind.u64 n)), .sc (.int .i64 (n)), .sc (.bool (decide (n < 0))), .sc (.int .u64 (IntKind.wrap IntKind.u64 n)), .sc (.int .u64 (IntKind.wrap IntKind.u64 (0 - IntKind.wrap IntKind.u64 n))), .sc (.int .i64 ((↑i : Int))), .sc (.bool (decide ((↑i : Int) < 20))), .sc (.int .i64 (20 - (↑i : Int))), .sc (.int .i64 (20 - (↑i : Int) - 1)), .sc (.int .i64 (20 - (↑i : Int) - 1)), .sc (.int .u64 (u)), .sc (.int .u64 (Int.tmod u 10)), .sc (.int .u64 (IntKind.wrap IntKind.u64 (48 + Int.tmod u 10))), .sc (.int .u8 (IntKind.wrap IntKind.u8 (IntKind.wrap IntKind.u64 (48 + Int.tmod u 10)))), .ptr 0 (0 + Int.toNat (20 - (↑i : Int) - 1) * 1), .undef, .undef, .undef, .undef, .undef, .undef, .undef, .undef, .undef, .undef, .undef, .undef, .undef, .undef], [⟨spliceA (u8s (List.replicate (20 - i) 0 ++ T)) (0 + Int.toNat (20 - (↑i : Int) - 1) * 1) (u8s [IntKind.wrap IntKind.u8 (IntKind.wrap IntKind.u64 (48 + Int.tmod u 10))]), 1, .fresh⟩]⟩ (by kernel_rfl) ⟨trivial, ⟨trivial, ⟨(by omega), ⟨trivial, ⟨trivial, ⟨⟨(by omega), (by omega)⟩, ⟨(by (simp [spliceA_length] <;> omega)), trivial⟩⟩⟩⟩⟩⟩⟩ ?_
      rw [Nat.mul_one (Int.toNat (20 - (↑i : Int) - 1))]
      rw [Nat.zero_add (Int.toNat (20 - (↑i : Int) - 1))]
      rw [Go.Num.z_store (T) (i) (u) (by omega) (by omega) (by omega)]
      refine AWP.seq ?_
      refine AWP.reg ?_
      refine DerQ.run ((True) ∧ (((10 : Int) ≠ (0 : Int)) ∧ ((True) ∧ (True)))) ⟨[.sc (.int .i64 (n)), .undef, .sc (.string ({ data := #[] })), .ptr 0 0, .sc (.int .i64 (20 - (↑i : Int) - 1)), .sc (.int .u64 (IntKind.wrap IntKind.u64 (Int.tdiv u 10))), .sc (.int .i64 (n)), .sc (.int .u64 (IntKind.wrap IntKind.u64 n)), .sc (.int .i64 (n)), .sc (.bool (decide (n < 0))), .sc (.int .u64 (IntKind.wrap IntKind.u64 n)), .sc (.int .u64 (IntKind.wrap IntKind.u64 (0 - IntKind.wrap IntKind.u64 n))), .sc (.int .i64 ((↑i : Int))), .sc (.bool (decide ((↑i : Int) < 20))), .sc (.int .i64 (20 - (↑i : Int))), .sc (.int .i64 (20 - (↑i : Int) - 1)), .sc (.int .i64 (20 - (↑i : Int) - 1)), .sc (.int .u64 (u)), .sc (.int .u64 (Int.tmod u 10)), .sc (.int .u64 (IntKind.wrap IntKind.u64 (48 + Int.tmod u 10))), .sc (.int .u8 (IntKind.wrap IntKind.u8 (IntKind.wrap IntKind.u64 (48 + Int.tmod u 10)))), .ptr 0 (Int.toNat (20 - (↑i : Int) - 1)), .sc (.int .u64 (u)), .sc (.int .u64 (IntKind.wrap IntKind.u64 (Int.tdiv u 10))), .undef, .undef, .undef, .undef, .undef, .undef, .undef, .undef, .undef, .undef, .undef, .undef], [⟨u8s (List.replicate (20 - (i + 1)) 0 ++ (48 + u % 10) :: T), 1, .fresh⟩]⟩ (by kernel_rfl) ⟨trivial, ⟨(by omega), ⟨trivial, trivial⟩⟩⟩ ?_
      rw [Go.Num.z_div (u) (by omega) (by omega)]
      refine AWP.seq ?_
      refine AWP.reg ?_
      refine DerQ.run ((True) ∧ ((True) ∧ (True))) ⟨[.sc (.int .i64 (n)), .undef, .sc (.string ({ data := #[] })), .ptr 0 0, .sc (.int .i64 (20 - (↑i : Int) - 1)), .sc (.int .u64 (u / 10)), .sc (.int .i64 (n)), .sc (.int .u64 (IntKind.wrap IntKind.u64 n)), .sc (.int .i64 (n)), .sc (.bool (decide (n < 0))), .sc (.int .u64 (IntKind.wrap IntKind.u64 n)), .sc (.int .u64 (IntKind.wrap IntKind.u64 (0 - IntKind.wrap IntKind.u64 n))), .sc (.int .i64 ((↑i : Int))), .sc (.bool (decide ((↑i : Int) < 20))), .sc (.int .i64 (20 - (↑i : Int))), .sc (.int .i64 (20 - (↑i : Int) - 1)), .sc (.int .i64 (20 - (↑i : Int) - 1)), .sc (.int .u64 (u)), .sc (.int .u64 (Int.tmod u 10)), .sc (.int .u64 (IntKind.wrap IntKind.u64 (48 + Int.tmod u 10))), .sc (.int .u8 (IntKind.wrap IntKind.u8 (IntKind.wrap IntKind.u64 (48 + Int.tmod u 10)))), .ptr 0 (Int.toNat (20 - (↑i : Int) - 1)), .sc (.int .u64 (u)), .sc (.int .u64 (u / 10)), .sc (.int .u64 (u / 10)), .sc (.bool (u / 10 == 0)), .undef, .undef, .undef, .undef, .undef, .undef, .undef, .undef, .undef, .undef], [⟨u8s (List.replicate (20 - (i + 1)) 0 ++ (48 + u % 10) :: T), 1, .fresh⟩]⟩ (by kernel_rfl) ⟨trivial, ⟨trivial, trivial⟩⟩ ?_
      refine AWP.cond (b := u / 10 == 0) (by kernel_rfl) (fun h4 => ?_) (fun h4 => ?_)
      · have h4' := eq_of_beq h4
        refine AWP.exit ?_
        refine AWP.seq ?_
        refine AWP.seq ?_
        refine AWP.reg ?_
        refine DerQ.run ((True) ∧ ((True) ∧ (True))) ⟨[.sc (.int .i64 (n)), .undef, .sc (.string ({ data := #[] })), .ptr 0 0, .sc (.int .i64 (20 - (↑i : Int) - 1)), .sc (.int .u64 (u / 10)), .sc (.int .i64 (n)), .sc (.int .u64 (IntKind.wrap IntKind.u64 n)), .sc (.int .i64 (n)), .sc (.bool (decide (n < 0))), .sc (.int .u64 (IntKind.wrap IntKind.u64 n)), .sc (.int .u64 (IntKind.wrap IntKind.u64 (0 - IntKind.wrap IntKind.u64 n))), .sc (.int .i64 ((↑i : Int))), .sc (.bool (decide ((↑i : Int) < 20))), .sc (.int .i64 (20 - (↑i : Int))), .sc (.int .i64 (20 - (↑i : Int) - 1)), .sc (.int .i64 (20 - (↑i : Int) - 1)), .sc (.int .u64 (u)), .sc (.int .u64 (Int.tmod u 10)), .sc (.int .u64 (IntKind.wrap IntKind.u64 (48 + Int.tmod u 10))), .sc (.int .u8 (IntKind.wrap IntKind.u8 (IntKind.wrap IntKind.u64 (48 + Int.tmod u 10)))), .ptr 0 (Int.toNat (20 - (↑i : Int) - 1)), .sc (.int .u64 (u)), .sc (.int .u64 (u / 10)), .sc (.int .u64 (u / 10)), .sc (.bool (u / 10 == 0)), .undef, .sc (.int .i64 (n)), .sc (.bool (decide (n < 0))), .undef, .undef, .undef, .undef, .undef, .undef, .undef], [⟨u8s (List.replicate (20 - (i + 1)) 0 ++ (48 + u % 10) :: T), 1, .fresh⟩]⟩ (by kernel_rfl) ⟨trivial, ⟨trivial, trivial⟩⟩ ?_
        refine AWP.cond (b := decide (n < 0)) (by kernel_rfl) (fun h5 => ?_) (fun h5 => ?_)
        · have h5' := of_decide_eq_true h5
          refine AWP.seq ?_
          refine AWP.reg ?_
          refine DerQ.run ((True) ∧ ((((0 ≤ 20 - (↑i : Int) - 1) ∧ ((20 - (↑i : Int) - 1 < 20) ∧ ((20 - (↑i : Int) - 1 ≤ 20) ∧ ((20 : Int) ≤ (20 : Int))))) ∧ (((1 : Nat) = (1 : Nat)) ∧ (20 ≤ List.length (u8s (List.replicate (20 - (i + 1)) 0 ++ (48 + u % 10) :: T))))) ∧ ((((1 : Nat) = (1 : Nat)) ∧ ((0 + Int.toNat (20 - (↑i : Int) - 1) * 1 + (20 - Int.toNat (20 - (↑i : Int) - 1)) ≤ List.length (u8s (List.replicate (20 - (i + 1)) 0 ++ (48 + u % 10) :: T))) ∧ (∀ (i_1 : Nat), i_1 < List.length (u8s (List.replicate (20 - (i + 1)) 0 ++ (48 + u % 10) :: T)) → isByteA (List.getD (u8s (List.replicate (20 - (i + 1)) 0 ++ (48 + u % 10) :: T)) i_1 AVal.undef) = true))) ∧ ((1 + ByteArray.size (strOf (List.take (20 - Int.toNat (20 - (↑i : Int) - 1)) (List.drop (0 + Int.toNat (20 - (↑i : Int) - 1) * 1) (u8s (List.replicate (20 - (i + 1)) 0 ++ (48 + u % 10) :: T))))) ≤ 9223372036854775807) ∧ ((True) ∧ (True)))))) ⟨[.sc (.int .i64 (n)), .undef, .sc (.string ({ data := #[45] } ++ strOf (List.take (20 - Int.toNat (20 - (↑i : Int) - 1)) (List.drop (0 + Int.toNat (20 - (↑i : Int) - 1) * 1) (u8s (List.replicate (20 - (i + 1)) 0 ++ (48 + u % 10) :: T)))))), .ptr 0 0, .sc (.int .i64 (20 - (↑i : Int) - 1)), .sc (.int .u64 (u / 10)), .sc (.int .i64 (n)), .sc (.int .u64 (IntKind.wrap IntKind.u64 n)), .sc (.int .i64 (n)), .sc (.bool (decide (n < 0))), .sc (.int .u64 (IntKind.wrap IntKind.u64 n)), .sc (.int .u64 (IntKind.wrap IntKind.u64 (0 - IntKind.wrap IntKind.u64 n))), .sc (.int .i64 ((↑i : Int))), .sc (.bool (decide ((↑i : Int) < 20))), .sc (.int .i64 (20 - (↑i : Int))), .sc (.int .i64 (20 - (↑i : Int) - 1)), .sc (.int .i64 (20 - (↑i : Int) - 1)), .sc (.int .u64 (u)), .sc (.int .u64 (Int.tmod u 10)), .sc (.int .u64 (IntKind.wrap IntKind.u64 (48 + Int.tmod u 10))), .sc (.int .u8 (IntKind.wrap IntKind.u8 (IntKind.wrap IntKind.u64 (48 + Int.tmod u 10)))), .ptr 0 (Int.toNat (20 - (↑i : Int) - 1)), .sc (.int .u64 (u)), .sc (.int .u64 (u / 10)), .sc (.int .u64 (u / 10)), .sc (.bool (u / 10 == 0)), .undef, .sc (.int .i64 (n)), .sc (.bool (decide (n < 0))), .sc (.int .i64 (20 - (↑i : Int) - 1)), .row 0 (0 + Int.toNat (20 - (↑i : Int) - 1) * 1) (20 - Int.toNat (20 - (↑i : Int) - 1)), .sc (.string (strOf (List.take (20 - Int.toNat (20 - (↑i : Int) - 1)) (List.drop (0 + Int.toNat (20 - (↑i : Int) - 1) * 1) (u8s (List.replicate (20 - (i + 1)) 0 ++ (48 + u % 10) :: T)))))), .sc (.string ({ data := #[45] } ++ strOf (List.take (20 - Int.toNat (20 - (↑i : Int) - 1)) (List.drop (0 + Int.toNat (20 - (↑i : Int) - 1) * 1) (u8s (List.replicate (20 - (i + 1)) 0 ++ (48 + u % 10) :: T)))))), .undef, .undef, .undef], [⟨u8s (List.replicate (20 - (i + 1)) 0 ++ (48 + u % 10) :: T), 1, .fresh⟩]⟩ (by kernel_rfl) ⟨trivial, ⟨⟨⟨(by omega), ⟨(by omega), ⟨(by omega), (by omega)⟩⟩⟩, ⟨(by omega), (by (simp [spliceA_length] <;> omega))⟩⟩, ⟨⟨(by omega), ⟨(by (simp [spliceA_length] <;> omega)), (by exact u8s_isByte _)⟩⟩, ⟨?_, ⟨trivial, trivial⟩⟩⟩⟩⟩ ?_
          · rw [Go.Abs.strOf_len]; simp; omega
          rw [Nat.mul_one (Int.toNat (20 - (↑i : Int) - 1))]
          rw [Nat.zero_add (Int.toNat (20 - (↑i : Int) - 1))]
          rw [Go.Abs.u8s_drop (Int.toNat (20 - (↑i : Int) - 1)) (List.replicate (20 - (i + 1)) 0 ++ (48 + u % 10) :: T)]
          rw [Go.Abs.u8s_take (20 - Int.toNat (20 - (↑i : Int) - 1)) (List.drop (Int.toNat (20 - (↑i : Int) - 1)) (List.replicate (20 - (i + 1)) 0 ++ (48 + u % 10) :: T))]
          rw [Go.Num.z_tail (T) (i) (by omega) (by omega) (48 + u % 10)]
          refine AWP.ret ?_
          refine EvF.fin (.sc (.string ({ data := #[45] } ++ strOf (u8s ((48 + u % 10) :: T))))) _ (by simp) (by kernel_rfl) ?_
          refine Shrink.all ?_ rfl
          rw [decS, if_pos h2', hD, z_last i u h3' h4']; rfl
        · have h5' := of_decide_eq_false h5
          exfalso; omega
      · have h4' := ne_of_beq_false h4
        refine AWP.skip ?_
        refine AWP.reg ?_
        refine DerQ.run ((True) ∧ ((True) ∧ (True))) ⟨[.sc (.int .i64 (n)), .undef, .sc (.string ({ data := #[] })), .ptr 0 0, .sc (.int .i64 (20 - (↑i : Int) - 1)), .sc (.int .u64 (u / 10)), .sc (.int .i64 (n)), .sc (.int .u64 (IntKind.wrap IntKind.u64 n)), .sc (.int .i64 (n)), .sc (.bool (decide (n < 0))), .sc (.int .u64 (IntKind.wrap IntKind.u64 n)), .sc (.int .u64 (IntKind.wrap IntKind.u64 (0 - IntKind.wrap IntKind.u64 n))), .sc (.int .i64 (IntKind.wrap IntKind.i64 ((↑i : Int) + 1))), .sc (.bool (decide ((↑i : Int) < 20))), .sc (.int .i64 (20 - (↑i : Int))), .sc (.int .i64 (20 - (↑i : Int) - 1)), .sc (.int .i64 (20 - (↑i : Int) - 1)), .sc (.int .u64 (u)), .sc (.int .u64 (Int.tmod u 10)), .sc (.int .u64 (IntKind.wrap IntKind.u64 (48 + Int.tmod u 10))), .sc (.int .u8 (IntKind.wrap IntKind.u8 (IntKind.wrap IntKind.u64 (48 + Int.tmod u 10)))), .ptr 0 (Int.toNat (20 - (↑i : Int) - 1)), .sc (.int .u64 (u)), .sc (.int .u64 (u / 10)), .sc (.int .u64 (u / 10)), .sc (.bool (u / 10 == 0)), .sc (.int .i64 (IntKind.wrap IntKind.i64 ((↑i : Int) + 1))), .undef, .undef, .undef, .undef, .undef, .undef, .undef, .undef, .undef], [⟨u8s (List.replicate (20 - (i + 1)) 0 ++ (48 + u % 10) :: T), 1, .fresh⟩]⟩ (by kernel_rfl) ⟨trivial, ⟨trivial, trivial⟩⟩ ?_
        rw [IntWalk.i64_in ((↑i : Int) + 1) (by omega)]
        exact ⟨20 - (i + 1), by omega, i + 1, u / 10, (48 + u % 10) :: T, rfl, by omega, by simp [hT], by omega, by omega, by rw [hD, z_next i u h3' h4', List.append_assoc]; rfl, by rw [show (20 - (((i + 1 : Nat)) : Int)) = 20 - (i : Int) - 1 by omega]; kernel_rfl⟩
    · have h3' := of_decide_eq_false h3
      refine AWP.exit ?_
      refine AWP.seq ?_
      refine AWP.seq ?_
      refine AWP.reg ?_
      refine DerQ.run ((True) ∧ ((True) ∧ (True))) ⟨[.sc (.int .i64 (n)), .undef, .sc (.string ({ data := #[] })), .ptr 0 0, .sc (.int .i64 (20 - (↑i : Int))), .sc (.int .u64 (u)), .sc (.int .i64 (n)), .sc (.int .u64 (IntKind.wrap IntKind.u64 n)), .sc (.int .i64 (n)), .sc (.bool (decide (n < 0))), .sc (.int .u64 (IntKind.wrap IntKind.u64 n)), .sc (.int .u64 (IntKind.wrap IntKind.u64 (0 - IntKind.wrap IntKind.u64 n))), .sc (.int .i64 ((↑i : Int))), .sc (.bool (decide ((↑i : Int) < 20))), .undef, .undef, .undef, .undef, .undef, .undef, .undef, .undef, .undef, .undef, .undef, .undef, .undef, .sc (.int .i64 (n)), .sc (.bool (decide (n < 0))), .undef, .undef, .undef, .undef, .undef, .undef, .undef], [⟨u8s (List.replicate (20 - i) 0 ++ T), 1, .fresh⟩]⟩ (by kernel_rfl) ⟨trivial, ⟨trivial, trivial⟩⟩ ?_
      refine AWP.cond (b := decide (n < 0)) (by kernel_rfl) (fun h4 => ?_) (fun h4 => ?_)
      · have h4' := of_decide_eq_true h4
        refine AWP.seq ?_
        refine AWP.reg ?_
        refine DerQ.run ((True) ∧ ((((0 ≤ 20 - (↑i : Int)) ∧ ((20 - (↑i : Int) < 20) ∧ ((20 - (↑i : Int) ≤ 20) ∧ ((20 : Int) ≤ (20 : Int))))) ∧ (((1 : Nat) = (1 : Nat)) ∧ (20 ≤ List.length (u8s (List.replicate (20 - i) 0 ++ T))))) ∧ ((((1 : Nat) = (1 : Nat)) ∧ ((0 + Int.toNat (20 - (↑i : Int)) * 1 + (20 - Int.toNat (20 - (↑i : Int))) ≤ List.length (u8s (List.replicate (20 - i) 0 ++ T))) ∧ (∀ (i_1 : Nat), i_1 < List.length (u8s (List.replicate (20 - i) 0 ++ T)) → isByteA (List.getD (u8s (List.replicate (20 - i) 0 ++ T)) i_1 AVal.undef) = true))) ∧ ((1 + ByteArray.size (strOf (List.take (20 - Int.toNat (20 - (↑i : Int))) (List.drop (0 + Int.toNat (20 - (↑i : Int)) * 1) (u8s (List.replicate (20 - i) 0 ++ T))))) ≤ 9223372036854775807) ∧ ((True) ∧ (True)))))) ⟨[.sc (.int .i64 (n)), .undef, .sc (.string ({ data := #[45] } ++ strOf (List.take (20 - Int.toNat (20 - (↑i : Int))) (List.drop (0 + Int.toNat (20 - (↑i : Int)) * 1) (u8s (List.replicate (20 - i) 0 ++ T)))))), .ptr 0 0, .sc (.int .i64 (20 - (↑i : Int))), .sc (.int .u64 (u)), .sc (.int .i64 (n)), .sc (.int .u64 (IntKind.wrap IntKind.u64 n)), .sc (.int .i64 (n)), .sc (.bool (decide (n < 0))), .sc (.int .u64 (IntKind.wrap IntKind.u64 n)), .sc (.int .u64 (IntKind.wrap IntKind.u64 (0 - IntKind.wrap IntKind.u64 n))), .sc (.int .i64 ((↑i : Int))), .sc (.bool (decide ((↑i : Int) < 20))), .undef, .undef, .undef, .undef, .undef, .undef, .undef, .undef, .undef, .undef, .undef, .undef, .undef, .sc (.int .i64 (n)), .sc (.bool (decide (n < 0))), .sc (.int .i64 (20 - (↑i : Int))), .row 0 (0 + Int.toNat (20 - (↑i : Int)) * 1) (20 - Int.toNat (20 - (↑i : Int))), .sc (.string (strOf (List.take (20 - Int.toNat (20 - (↑i : Int))) (List.drop (0 + Int.toNat (20 - (↑i : Int)) * 1) (u8s (List.replicate (20 - i) 0 ++ T)))))), .sc (.string ({ data := #[45] } ++ strOf (List.take (20 - Int.toNat (20 - (↑i : Int))) (List.drop (0 + Int.toNat (20 - (↑i : Int)) * 1) (u8s (List.replicate (20 - i) 0 ++ T)))))), .undef, .undef, .undef], [⟨u8s (List.replicate (20 - i) 0 ++ T), 1, .fresh⟩]⟩ (by kernel_rfl) ⟨trivial, ⟨⟨⟨(by omega), ⟨(by omega), ⟨(by omega), (by omega)⟩⟩⟩, ⟨(by omega), (by (simp [spliceA_length] <;> omega))⟩⟩, ⟨⟨(by omega), ⟨(by (simp [spliceA_length] <;> omega)), (by exact u8s_isByte _)⟩⟩, ⟨?_, ⟨trivial, trivial⟩⟩⟩⟩⟩ ?_
        · rw [Go.Abs.strOf_len]; simp; omega
        rw [Nat.mul_one (Int.toNat (20 - (↑i : Int)))]
        rw [Nat.zero_add (Int.toNat (20 - (↑i : Int)))]
        rw [Go.Abs.u8s_drop (Int.toNat (20 - (↑i : Int))) (List.replicate (20 - i) 0 ++ T)]
        rw [Go.Abs.u8s_take (20 - Int.toNat (20 - (↑i : Int))) (List.drop (Int.toNat (20 - (↑i : Int))) (List.replicate (20 - i) 0 ++ T))]
        rw [Go.Num.z_tail2 (T) (i) (by omega) (by omega)]
        refine AWP.ret ?_
        refine EvF.fin (.sc (.string ({ data := #[45] } ++ strOf (u8s T)))) _ (by simp) (by kernel_rfl) ?_
        refine Shrink.all ?_ rfl
        rw [decS, if_pos h2', hD, show 20 - i = 0 by omega]; rfl
      · have h4' := of_decide_eq_false h4
        exfalso; omega
  · have h2' := of_decide_eq_false h2
    refine AWP.skip ?_
    refine AWP.seq ?_
    refine AWP.seq ?_
    refine AWP.reg ?_
    refine DerQ.run ((True) ∧ (True)) ⟨[.sc (.int .i64 (n)), .undef, .sc (.string ({ data := #[] })), .ptr 0 0, .sc (.int .i64 20), .sc (.int .u64 (IntKind.wrap IntKind.u64 n)), .sc (.int .i64 (n)), .sc (.int .u64 (IntKind.wrap IntKind.u64 n)), .sc (.int .i64 (n)), .sc (.bool (decide (n < 0))), .undef, .undef, .sc (.int .i64 0), .undef, .undef, .undef, .undef, .undef, .undef, .undef, .undef, .undef, .undef, .undef, .undef, .undef, .undef, .undef, .undef, .undef, .undef, .undef, .undef, .undef, .undef, .undef], [⟨[.sc (.int .u8 0), .sc (.int .u8 0), .sc (.int .u8 0), .sc (.int .u8 0), .sc (.int .u8 0), .sc (.int .u8 0), .sc (.int .u8 0), .sc (.int .u8 0), .sc (.int .u8 0), .sc (.int .u8 0), .sc (.int .u8 0), .sc (.int .u8 0), .sc (.int .u8 0), .sc (.int .u8 0), .sc (.int .u8 0), .sc (.int .u8 0), .sc (.int .u8 0), .sc (.int .u8 0), .sc (.int .u8 0), .sc (.int .u8 0)], 1, .fresh⟩]⟩ (by kernel_rfl) ⟨trivial, trivial⟩ ?_
    rw [IntWalk.u64_in (n) (by omega)]
    refine AWP.block ?_
    refine AWP.loopM [true, false, true, true, true, true, true, true, true, true, false, false, true, false, false, false, false, false, false, false, false, false, false, false, false, false, false, false, false, false, false, false, false, false, false, false] (fun kk st => ∃ (i : Nat) (u : Int) (T : List Int), kk = 20 - i ∧ i ≤ 20 ∧ T.length = i ∧ 0 ≤ u ∧ u ≤ 9223372036854775808 ∧ dig 20 (absN n) = dig (20 - i) u ++ T ∧ st = ⟨[.sc (.int .i64 (n)), .undef, .sc (.string ({ data := #[] })), .ptr 0 0, .sc (.int .i64 (20 - (i : Int))), .sc (.int .u64 u), .sc (.int .i64 (n)), .sc (.int .u64 (n)), .sc (.int .i64 (n)), .sc (.bool (decide (n < 0))), .undef, .undef, .sc (.int .i64 (i : Int)), .undef, .undef, .undef, .undef, .undef, .undef, .undef, .undef, .undef, .undef, .undef, .undef, .undef, .undef, .undef, .undef, .undef, .undef, .undef, .undef, .undef, .undef, .undef], [⟨u8s (List.replicate (20 - i) 0 ++ T), 1, .fresh⟩]⟩) _ ⟨0, absN n, [], rfl, by omega, rfl, by unfold absN; split <;> omega, by unfold absN; split <;> omega, by simp, by rw [absN, if_neg h2']; kernel_rfl⟩ ?_
    rintro kk s ⟨i, u, T, rfl, hi, hT, hu0, hu1, hD, rfl⟩
    refine AWP.seq ?_
    refine AWP.reg ?_
    refine DerQ.run ((True) ∧ (True)) ⟨[.sc (.int .i64 (n)), .undef, .sc (.string ({ data := #[] })), .ptr 0 0, .sc (.int .i64 (20 - (↑i : Int))), .sc (.int .u64 (u)), .sc (.int .i64 (n)), .sc (.int .u64 (n)), .sc (.int .i64 (n)), .sc (.bool (decide (n < 0))), .undef, .undef, .sc (.int .i64 ((↑i : Int))), .sc (.bool (decide ((↑i : Int) < 20))), .undef, .undef, .undef, .undef, .undef, .undef, .undef, .undef, .undef, .undef, .undef, .undef, .undef, .undef, .undef, .undef, .undef, .undef, .undef, .undef, .undef, .undef], [⟨u8s (List.replicate (20 - i) 0 ++ T), 1, .fresh⟩]⟩ (by kernel_rfl) ⟨trivial, trivial⟩ ?_
    refine AWP.seq ?_
    refine AWP.cond (b := decide ((↑i : Int) < 20)) (by kernel_rfl) (fun h3 => ?_) (fun h3 => ?_)
    · have h3' := of_decide_eq_true h3
      refine AWP.skip ?_
      refine AWP.seq ?_
      refine AWP.block ?_
      refine AWP.seq ?_
      refine AWP.reg ?_
      refine DerQ.run ((True) ∧ ((True) ∧ ((True) ∧ (True)))) ⟨[.sc (.int .i64 (n)), .undef, .sc (.string ({ data := #[] })), .ptr 0 0, .sc (.int .i64 (IntKind.wrap IntKind.i64 (20 - (↑i : Int) - 1))), .sc (.int .u64 (u)), .sc (.int .i64 (n)), .sc (.int .u64 (n)), .sc (.int .i64 (n)), .sc (.bool (decide (n < 0))), .undef, .undef, .sc (.int .i64 ((↑i : Int))), .sc (.bool (decide ((↑i : Int) < 20))), .sc (.int .i64 (20 - (↑i : Int))), .sc (.int .i64 (IntKind.wrap IntKind.i64 (20 - (↑i : Int) - 1))), .undef, .undef, .undef, .undef, .undef, .undef, .undef, .undef, .undef, .undef, .undef, .undef, .undef, .undef, .undef, .undef, .undef, .undef, .undef, .undef], [⟨u8s (List.replicate (20 - i) 0 ++ T), 1, .fresh⟩]⟩ (by kernel_rfl) ⟨trivial, ⟨trivial, ⟨trivial, trivial⟩⟩⟩ ?_
      rw [IntWalk.i64_in (20 - (↑i : Int) - 1) (by omega)]
      refine AWP.seq ?_
      refine AWP.reg ?_
      refine DerQ.run ((True) ∧ ((True) ∧ (((10 : Int) ≠ (0 : Int)) ∧ ((True) ∧ ((True) ∧ (((0 ≤ 20 - (↑i : Int) - 1) ∧ (20 - (↑i : Int) - 1 < 20)) ∧ ((0 + Int.toNat (20 - (↑i : Int) - 1) * 1 + 1 ≤ List.length (u8s (List.replicate (20 - i) 0 ++ T))) ∧ (True)))))))) ⟨[.sc (.int .i64 (n)), .undef, .sc (.string ({ data := #[] })), .ptr 0 0, .sc (.int .i64 (20 - (↑i : Int) - 1)), .sc (.int .u64 (u)), .sc (.int .i64 (n)), .sc (.int .u64 (n)), .sc (.int .i64 (n)), .sc (.bool (decide (n < 0))), .undef, .undef, .sc (.int .i64 ((↑i : Int))), .sc (.bool (decide ((↑i : Int) < 20))), .sc (.int .i64 (20 - (↑i : Int))), .sc (.int .i64 (20 - (↑i : Int) - 1)), .sc (.int .i64 (20 - (↑i : Int) - 1)), .sc (.int .u64 (u)), .sc (.int .u64 (Int.tmod u 10)), .sc (.int .u64 (IntKind.wrap IntKind.u64 (48 + Int.tmod u 10))), .sc (.int .u8 (IntKind.wrap IntKind.u8 (IntKind.wrap IntKind.u64 (48 + Int.tmod u 10)))), .ptr 0 (0 + Int.toNat (20 - (↑i : Int) - 1) * 1), .undef, .undef, .undef, .undef, .undef, .undef, .undef, .undef, .undef, .undef, .undef, .undef, .undef, .undef], [⟨spliceA (u8s (List.replicate (20 - i) 0 ++ T)) (0 + Int.toNat (20 - (↑i : Int) - 1) * 1) (u8s [IntKind.wrap IntKind.u8 (IntKind.wrap IntKind.u64 (48 + Int.tmod u 10))]), 1, .fresh⟩]⟩ (by kernel_rfl) ⟨trivial, ⟨trivial, ⟨(by omega), ⟨trivial, ⟨trivial, ⟨⟨(by omega), (by omega)⟩, ⟨(by (simp [spliceA_length] <;> omega)), trivial⟩⟩⟩⟩⟩⟩⟩ ?_
      rw [Nat.mul_one (Int.toNat (20 - (↑i : Int) - 1))]
      rw [Nat.zero_add (Int.toNat (20 - (↑i : Int) - 1))]
      rw [Go.Num.z_store (T) (i) (u) (by omega) (by omega) (by omega)]
      refine AWP.seq ?_
      refine AWP.reg ?_
      refine DerQ.run ((True) ∧ (((10 : Int) ≠ (0 : Int)) ∧ ((True) ∧ (True)))) ⟨[.sc (.int .i64 (n)), .undef, .sc (.string ({ data := #[] })), .ptr 0 0, .sc (.int .i64 (20 - (↑i : Int) - 1)), .sc (.int .u64 (IntKind.wrap IntKind.u64 (Int.tdiv u 10))), .sc (.int .i64 (n)), .sc (.int .u64 (n)), .sc (.int .i64 (n)), .sc (.bool (decide (n < 0))), .undef, .undef, .sc (.int .i64 ((↑i : Int))), .sc (.bool (decide ((↑i : Int) < 20))), .sc (.int .i64 (20 - (↑i : Int))), .sc (.int .i64 (20 - (↑i : Int) - 1)), .sc (.int .i64 (20 - (↑i : Int) - 1)), .sc (.int .u64 (u)), .sc (.int .u64 (Int.tmod u 10)), .sc (.int .u64 (IntKind.wrap IntKind.u64 (48 + Int.tmod u 10))), .sc (.int .u8 (IntKind.wrap IntKind.u8 (IntKind.wrap IntKind.u64 (48 + Int.tmod u 10)))), .ptr 0 (Int.toNat (20 - (↑i : Int) - 1)), .sc (.int .u64 (u)), .sc (.int .u64 (IntKind.wrap IntKind.u64 (Int.tdiv u 10))), .undef, .undef, .undef, .undef, .undef, .undef, .undef, .undef, .undef, .undef, .undef, .undef], [⟨u8s (List.replicate (20 - (i + 1)) 0 ++ (48 + u % 10) :: T), 1, .fresh⟩]⟩ (by kernel_rfl) ⟨trivial, ⟨(by omega), ⟨trivial, trivial⟩⟩⟩ ?_
      rw [Go.Num.z_div (u) (by omega) (by omega)]
      refine AWP.seq ?_
      refine AWP.reg ?_
      refine DerQ.run ((True) ∧ ((True) ∧ (True))) ⟨[.sc (.int .i64 (n)), .undef, .sc (.string ({ data := #[] })), .ptr 0 0, .sc (.int .i64 (20 - (↑i : Int) - 1)), .sc (.int .u64 (u / 10)), .sc (.int .i64 (n)), .sc (.int .u64 (n)), .sc (.int .i64 (n)), .sc (.bool (decide (n < 0))), .undef, .undef, .sc (.int .i64 ((↑i : Int))), .sc (.bool (decide ((↑i : Int) < 20))), .sc (.int .i64 (20 - (↑i : Int))), .sc (.int .i64 (20 - (↑i : Int) - 1)), .sc (.int .i64 (20 - (↑i : Int) - 1)), .sc (.int .u64 (u)), .sc (.int .u64 (Int.tmod u 10)), .sc (.int .u64 (IntKind.wrap IntKind.u64 (48 + Int.tmod u 10))), .sc (.int .u8 (IntKind.wrap IntKind.u8 (IntKind.wrap IntKind.u64 (48 + Int.tmod u 10)))), .ptr 0 (Int.toNat (20 - (↑i : Int) - 1)), .sc (.int .u64 (u)), .sc (.int .u64 (u / 10)), .sc (.int .u64 (u / 10)), .sc (.bool (u / 10 == 0)), .undef, .undef, .undef, .undef, .undef, .undef, .undef, .undef, .undef, .undef], [⟨u8s (List.replicate (20 - (i + 1)) 0 ++ (48 + u % 10) :: T), 1, .fresh⟩]⟩ (by kernel_rfl) ⟨trivial, ⟨trivial, trivial⟩⟩ ?_
      refine AWP.cond (b := u / 10 == 0) (by kernel_rfl) (fun h4 => ?_) (fun h4 => ?_)
      · have h4' := eq_of_beq h4
        refine AWP.exit ?_
        refine AWP.seq ?_
        refine AWP.seq ?_
        refine AWP.reg ?_
        refine DerQ.run ((True) ∧ ((True) ∧ (True))) ⟨[.sc (.int .i64 (n)), .undef, .sc (.string ({ data := #[] })), .ptr 0 0, .sc (.int .i64 (20 - (↑i : Int) - 1)), .sc (.int .u64 (u / 10)), .sc (.int .i64 (n)), .sc (.int .u64 (n)), .sc (.int .i64 (n)), .sc (.bool (decide (n < 0))), .undef, .undef, .sc (.int .i64 ((↑i : Int))), .sc (.bool (decide ((↑i : Int) < 20))), .sc (.int .i64 (20 - (↑i : Int))), .sc (.int .i64 (20 - (↑i : Int) - 1)), .sc (.int .i64 (20 - (↑i : Int) - 1)), .sc (.int .u64 (u)), .sc (.int .u64 (Int.tmod u 10)), .sc (.int .u64 (IntKind.wrap IntKind.u64 (48 + Int.tmod u 10))), .sc (.int .u8 (IntKind.wrap IntKind.u8 (IntKind.wrap IntKind.u64 (48 + Int.tmod u 10)))), .ptr 0 (Int.toNat (20 - (↑i : Int) - 1)), .sc (.int .u64 (u)), .sc (.int .u64 (u / 10)), .sc (.int .u64 (u / 10)), .sc (.bool (u / 10 == 0)), .undef, .sc (.int .i64 (n)), .sc (.bool (decide (n < 0))), .undef, .undef, .undef, .undef, .undef, .undef, .undef], [⟨u8s (List.replicate (20 - (i + 1)) 0 ++ (48 + u % 10) :: T), 1, .fresh⟩]⟩ (by kernel_rfl) ⟨trivial, ⟨trivial, trivial⟩⟩ ?_
        refine AWP.cond (b := decide (n < 0)) (by kernel_rfl) (fun h5 => ?_) (fun h5 => ?_)
        · have h5' := of_decide_eq_true h5
          exfalso; omega
        · have h5' := of_decide_eq_false h5
          refine AWP.skip ?_
          refine AWP.seq ?_
          refine AWP.reg ?_
          refine DerQ.run ((True) ∧ ((((0 ≤ 20 - (↑i : Int) - 1) ∧ ((20 - (↑i : Int) - 1 < 20) ∧ ((20 - (↑i : Int) - 1 ≤ 20) ∧ ((20 : Int) ≤ (20 : Int))))) ∧ (((1 : Nat) = (1 : Nat)) ∧ (20 ≤ List.length (u8s (List.replicate (20 - (i + 1)) 0 ++ (48 + u % 10) :: T))))) ∧ ((((1 : Nat) = (1 : Nat)) ∧ ((0 + Int.toNat (20 - (↑i : Int) - 1) * 1 + (20 - Int.toNat (20 - (↑i : Int) - 1)) ≤ List.length (u8s (List.replicate (20 - (i + 1)) 0 ++ (48 + u % 10) :: T))) ∧ (∀ (i_1 : Nat), i_1 < List.length (u8s (List.replicate (20 - (i + 1)) 0 ++ (48 + u % 10) :: T)) → isByteA (List.getD (u8s (List.replicate (20 - (i + 1)) 0 ++ (48 + u % 10) :: T)) i_1 AVal.undef) = true))) ∧ ((True) ∧ (True))))) ⟨[.sc (.int .i64 (n)), .undef, .sc (.string (strOf (List.take (20 - Int.toNat (20 - (↑i : Int) - 1)) (List.drop (0 + Int.toNat (20 - (↑i : Int) - 1) * 1) (u8s (List.replicate (20 - (i + 1)) 0 ++ (48 + u % 10) :: T)))))), .ptr 0 0, .sc (.int .i64 (20 - (↑i : Int) - 1)), .sc (.int .u64 (u / 10)), .sc (.int .i64 (n)), .sc (.int .u64 (n)), .sc (.int .i64 (n)), .sc (.bool (decide (n < 0))), .undef, .undef, .sc (.int .i64 ((↑i : Int))), .sc (.bool (decide ((↑i : Int) < 20))), .sc (.int .i64 (20 - (↑i : Int))), .sc (.int .i64 (20 - (↑i : Int) - 1)), .sc (.int .i64 (20 - (↑i : Int) - 1)), .sc (.int .u64 (u)), .sc (.int .u64 (Int.tmod u 10)), .sc (.int .u64 (IntKind.wrap IntKind.u64 (48 + Int.tmod u 10))), .sc (.int .u8 (IntKind.wrap IntKind.u8 (IntKind.wrap IntKind.u64 (48 + Int.tmod u 10)))), .ptr 0 (Int.toNat (20 - (↑i : Int) - 1)), .sc (.int .u64 (u)), .sc (.int .u64 (u / 10)), .sc (.int .u64 (u / 10)), .sc (.bool (u / 10 == 0)), .undef, .sc (.int .i64 (n)), .sc (.bool (decide (n < 0))), .undef, .undef, .undef, .undef, .sc (.int .i64 (20 - (↑i : Int) - 1)), .row 0 (0 + Int.toNat (20 - (↑i : Int) - 1) * 1) (20 - Int.toNat (20 - (↑i : Int) - 1)), .sc (.string (strOf (List.take (20 - Int.toNat (20 - (↑i : Int) - 1)) (List.drop (0 + Int.toNat (20 - (↑i : Int) - 1) * 1) (u8s (List.replicate (20 - (i + 1)) 0 ++ (48 + u % 10) :: T))))))], [⟨u8s (List.replicate (20 - (i + 1)) 0 ++ (48 + u % 10) :: T), 1, .fresh⟩]⟩ (by kernel_rfl) ⟨trivial, ⟨⟨⟨(by omega), ⟨(by omega), ⟨(by omega), (by omega)⟩⟩⟩, ⟨(by omega), (by (simp [spliceA_length] <;> omega))⟩⟩, ⟨⟨(by omega), ⟨(by (simp [spliceA_length] <;> omega)), (by exact u8s_isByte _)⟩⟩, ⟨trivial, trivial⟩⟩⟩⟩ ?_
          rw [Nat.mul_one (Int.toNat (20 - (↑i : Int) - 1))]
          rw [Nat.zero_add (Int.toNat (20 - (↑i : Int) - 1))]
          rw [Go.Abs.u8s_drop (Int.toNat (20 - (↑i : Int) - 1)) (List.replicate (20 - (i + 1)) 0 ++ (48 + u % 10) :: T)]
          rw [Go.Abs.u8s_take (20 - Int.toNat (20 - (↑i : Int) - 1)) (List.drop (Int.toNat (20 - (↑i : Int) - 1)) (List.replicate (20 - (i + 1)) 0 ++ (48 + u % 10) :: T))]
          rw [Go.Num.z_tail (T) (i) (by omega) (by omega) (48 + u % 10)]
          refine AWP.ret ?_
          refine EvF.fin (.sc (.string (strOf (u8s ((48 + u % 10) :: T))))) _ (by simp) (by kernel_rfl) ?_
          refine Shrink.all ?_ rfl
          rw [decS, if_neg h2', hD, z_last i u h3' h4']; rfl
      · have h4' := ne_of_beq_false h4
        refine AWP.skip ?_
        refine AWP.reg ?_
        refine DerQ.run ((True) ∧ ((True) ∧ (True))) ⟨[.sc (.int .i64 (n)), .undef, .sc (.string ({ data := #[] })), .ptr 0 0, .sc (.int .i64 (20 - (↑i : Int) - 1)), .sc (.int .u64 (u / 10)), .sc (.int .i64 (n)), .sc (.int .u64 (n)), .sc (.int .i64 (n)), .sc (.bool (decide (n < 0))), .undef, .undef, .sc (.int .i64 (IntKind.wrap IntKind.i64 ((↑i : Int) + 1))), .sc (.bool (decide ((↑i : Int) < 20))), .sc (.int .i64 (20 - (↑i : Int))), .sc (.int .i64 (20 - (↑i : Int) - 1)), .sc (.int .i64 (20 - (↑i : Int) - 1)), .sc (.int .u64 (u)), .sc (.int .u64 (Int.tmod u 10)), .sc (.int .u64 (IntKind.wrap IntKind.u64 (48 + Int.tmod u 10))), .sc (.int .u8 (IntKind.wrap IntKind.u8 (IntKind.wrap IntKind.u64 (48 + Int.tmod u 10)))), .ptr 0 (Int.toNat (20 - (↑i : Int) - 1)), .sc (.int .u64 (u)), .sc (.int .u64 (u / 10)), .sc (.int .u64 (u / 10)), .sc (.bool (u / 10 == 0)), .sc (.int .i64 (IntKind.wrap IntKind.i64 ((↑i : Int) + 1))), .undef, .undef, .undef, .undef, .undef, .undef, .undef, .undef, .undef], [⟨u8s (List.replicate (20 - (i + 1)) 0 ++ (48 + u % 10) :: T), 1, .fresh⟩]⟩ (by kernel_rfl) ⟨trivial, ⟨trivial, trivial⟩⟩ ?_
        rw [IntWalk.i64_in ((↑i : Int) + 1) (by omega)]
        exact ⟨20 - (i + 1), by omega, i + 1, u / 10, (48 + u % 10) :: T, rfl, by omega, by simp [hT], by omega, by omega, by rw [hD, z_next i u h3' h4', List.append_assoc]; rfl, by rw [show (20 - (((i + 1 : Nat)) : Int)) = 20 - (i : Int) - 1 by omega]; kernel_rfl⟩
    · have h3' := of_decide_eq_false h3
      refine AWP.exit ?_
      refine AWP.seq ?_
      refine AWP.seq ?_
      refine AWP.reg ?_
      refine DerQ.run ((True) ∧ ((True) ∧ (True))) ⟨[.sc (.int .i64 (n)), .undef, .sc (.string ({ data := #[] })), .ptr 0 0, .sc (.int .i64 (20 - (↑i : Int))), .sc (.int .u64 (u)), .sc (.int .i64 (n)), .sc (.int .u64 (n)), .sc (.int .i64 (n)), .sc (.bool (decide (n < 0))), .undef, .undef, .sc (.int .i64 ((↑i : Int))), .sc (.bool (decide ((↑i : Int) < 20))), .undef, .undef, .undef, .undef, .undef, .undef, .undef, .undef, .undef, .undef, .undef, .undef, .undef, .sc (.int .i64 (n)), .sc (.bool (decide (n < 0))), .undef, .undef, .undef, .undef, .undef, .undef, .undef], [⟨u8s (List.replicate (20 - i) 0 ++ T), 1, .fresh⟩]⟩ (by kernel_rfl) ⟨trivial, ⟨trivial, trivial⟩⟩ ?_
      refine AWP.cond (b := decide (n < 0)) (by kernel_rfl) (fun h4 => ?_) (fun h4 => ?_)
      · have h4' := of_decide_eq_true h4
        exfalso; omega
      · have h4' := of_decide_eq_false h4
        refine AWP.skip ?_
        refine AWP.seq ?_
        refine AWP.reg ?_
        refine DerQ.run ((True) ∧ ((((0 ≤ 20 - (↑i : Int)) ∧ ((20 - (↑i : Int) < 20) ∧ ((20 - (↑i : Int) ≤ 20) ∧ ((20 : Int) ≤ (20 : Int))))) ∧ (((1 : Nat) = (1 : Nat)) ∧ (20 ≤ List.length (u8s (List.replicate (20 - i) 0 ++ T))))) ∧ ((((1 : Nat) = (1 : Nat)) ∧ ((0 + Int.toNat (20 - (↑i : Int)) * 1 + (20 - Int.toNat (20 - (↑i : Int))) ≤ List.length (u8s (List.replicate (20 - i) 0 ++ T))) ∧ (∀ (i_1 : Nat), i_1 < List.length (u8s (List.replicate (20 - i) 0 ++ T)) → isByteA (List.getD (u8s (List.replicate (20 - i) 0 ++ T)) i_1 AVal.undef) = true))) ∧ ((True) ∧ (True))))) ⟨[.sc (.int .i64 (n)), .undef, .sc (.string (strOf (List.take (20 - Int.toNat (20 - (↑i : Int))) (List.drop (0 + Int.toNat (20 - (↑i : Int)) * 1) (u8s (List.replicate (20 - i) 0 ++ T)))))), .ptr 0 0, .sc (.int .i64 (20 - (↑i : Int))), .sc (.int .u64 (u)), .sc (.int .i64 (n)), .sc (.int .u64 (n)), .sc (.int .i64 (n)), .sc (.bool (decide (n < 0))), .undef, .undef, .sc (.int .i64 ((↑i : Int))), .sc (.bool (decide ((↑i : Int) < 20))), .undef, .undef, .undef, .undef, .undef, .undef, .undef, .undef, .undef, .undef, .undef, .undef, .undef, .sc (.int .i64 (n)), .sc (.bool (decide (n < 0))), .undef, .undef, .undef, .undef, .sc (.int .i64 (20 - (↑i : Int))), .row 0 (0 + Int.toNat (20 - (↑i : Int)) * 1) (20 - Int.toNat (20 - (↑i : Int))), .sc (.string (strOf (List.take (20 - Int.toNat (20 - (↑i : Int))) (List.drop (0 + Int.toNat (20 - (↑i : Int)) * 1) (u8s (List.replicate (20 - i) 0 ++ T))))))], [⟨u8s (List.replicate (20 - i) 0 ++ T), 1, .fresh⟩]⟩ (by kernel_rfl) ⟨trivial, ⟨⟨⟨(by omega), ⟨(by omega), ⟨(by omega), (by omega)⟩⟩⟩, ⟨(by omega), (by (simp [spliceA_length] <;> omega))⟩⟩, ⟨⟨(by omega), ⟨(by (simp [spliceA_length] <;> omega)), (by exact u8s_isByte _)⟩⟩, ⟨trivial, trivial⟩⟩⟩⟩ ?_
        rw [Nat.mul_one (Int.toNat (20 - (↑i : Int)))]
        rw [Nat.zero_add (Int.toNat (20 - (↑i : Int)))]
        rw [Go.Abs.u8s_drop (Int.toNat (20 - (↑i : Int))) (List.replicate (20 - i) 0 ++ T)]
        rw [Go.Abs.u8s_take (20 - Int.toNat (20 - (↑i : Int))) (List.drop (Int.toNat (20 - (↑i : Int))) (List.replicate (20 - i) 0 ++ T))]
        rw [Go.Num.z_tail2 (T) (i) (by omega) (by omega)]
        refine AWP.ret ?_
        refine EvF.fin (.sc (.string (strOf (u8s T)))) _ (by simp) (by kernel_rfl) ?_
        refine Shrink.all ?_ rfl
        rw [decS, if_neg h2', hD, show 20 - i = 0 by omega]; rfl
end Go.Num
