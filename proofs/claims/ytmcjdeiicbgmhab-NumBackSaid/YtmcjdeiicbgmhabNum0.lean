/- Walks and laws, part Num0. -/
import Derived.Test.YtmcjdeiicbgmhabAbs29
set_option linter.unusedSimpArgs false
set_option linter.unusedVariables false
namespace Go.Num
open Go Go.Abs
def zig (n : Int) : Int := if 0 ≤ n then 2 * n else -2 * n - 1
def zag (u : Int) : Int := if u % 2 = 0 then u / 2 else -1 - u / 2
theorem wrap64 (x : Int) : IntKind.wrap .u64 x = x % 18446744073709551616 := by
  simp [IntKind.wrap, IntKind.bits, IntKind.signed]
theorem bv64 (x : Int) (h0 : 0 ≤ x) (h1 : x < 18446744073709551616) : (BitVec.ofInt 64 x).toNat = x.toNat := by
  rw [BitVec.toNat_ofInt]; omega
theorem xor_zero64 (x : Int) (h0 : 0 ≤ x) (h1 : x < 18446744073709551616) : ((BitVec.ofInt 64 x ^^^ BitVec.ofInt 64 0).toNat : Int) = x := by
  have : BitVec.ofInt 64 0 = 0#64 := by decide
  rw [this, BitVec.xor_zero, bv64 x h0 h1]; omega
theorem xor_ones64 (x : Int) (h0 : 0 ≤ x) (h1 : x < 18446744073709551616) : ((BitVec.ofInt 64 x ^^^ BitVec.ofInt 64 18446744073709551615).toNat : Int) = 18446744073709551615 - x := by
  have : BitVec.ofInt 64 18446744073709551615 = BitVec.allOnes 64 := by decide
  rw [this, BitVec.xor_allOnes, BitVec.toNat_not, bv64 x h0 h1]; omega
theorem folded_eq (n : Int) (h0 : -9223372036854775808 ≤ n) (h1 : n ≤ 9223372036854775807) :
    (↑(BitVec.toNat (BitVec.ofInt 64 (IntKind.wrap IntKind.u64 (IntKind.wrap IntKind.u64 n * 2)) ^^^ BitVec.ofInt 64 (IntKind.wrap IntKind.u64 (Int.fdiv n 9223372036854775808)))) : Int) = zig n := by
  rw [Int.fdiv_eq_ediv_of_nonneg _ (by omega), wrap64, wrap64, wrap64]
  unfold zig
  by_cases h : 0 ≤ n
  · have e : n / 9223372036854775808 % 18446744073709551616 = 0 := by omega
    rw [e, xor_zero64 _ (by omega) (by omega), if_pos h]; omega
  · have e : n / 9223372036854775808 % 18446744073709551616 = 18446744073709551615 := by omega
    rw [e, xor_ones64 _ (by omega) (by omega), if_neg h]; omega
theorem zag_zig (n : Int) : zag (zig n) = n := by
  unfold zag zig
  split <;> split <;> omega
theorem zig_rng (n : Int) (h0 : -9223372036854775808 ≤ n) (h1 : n ≤ 9223372036854775807) : 0 ≤ zig n ∧ zig n < 18446744073709551616 := by
  unfold zig; split <;> omega
end Go.Num
namespace Go.Num
open Go Go.Abs
/-- The bytes of a number without a sign. -/
def encF : Nat → Int → List Int
  | 0, u => [u]
  | k + 1, u => if u < 128 then [u] else (u % 128 + 128) :: encF k (u / 128)
def enc (u : Int) : List Int := encF 10 u
theorem unfolded_eq (u : Int) (h0 : 0 ≤ u) (h1 : u < 18446744073709551616) :
    IntKind.wrap IntKind.i64 (↑(BitVec.toNat (BitVec.ofInt 64 (IntKind.wrap IntKind.i64 (Int.fdiv u 2)) ^^^ BitVec.ofInt 64 (IntKind.wrap IntKind.i64 (0 - IntKind.wrap IntKind.i64 (↑(BitVec.toNat (BitVec.ofInt 64 u &&& BitVec.ofInt 64 1)) : Int))))) : Int) = zag u := by
  have ha : (BitVec.ofInt 64 u &&& BitVec.ofInt 64 1).toNat = u.toNat % 2 := by
    rw [BitVec.toNat_and, bv64 u h0 h1, bv64 1 (by omega) (by omega)]
    exact Nat.and_one_is_mod _
  rw [ha, Int.fdiv_eq_ediv_of_nonneg _ (by omega), IntWalk.i64_in (u / 2) (by omega), IntWalk.i64_in ((u.toNat % 2 : Nat) : Int) (by omega)]
  rw [IntWalk.i64_in (0 - ((u.toNat % 2 : Nat) : Int)) (by omega)]
  unfold zag
  by_cases h : u % 2 = 0
  · have e : (0 : Int) - ((u.toNat % 2 : Nat) : Int) = 0 := by omega
    rw [e, xor_zero64 _ (by omega) (by omega), if_pos h, IntWalk.i64_in _ (by omega)]
  · have e : (0 : Int) - ((u.toNat % 2 : Nat) : Int) = -1 := by omega
    have e2 : BitVec.ofInt 64 (-1) = BitVec.ofInt 64 18446744073709551615 := by decide
    rw [e, e2, xor_ones64 _ (by omega) (by omega), if_neg h, IntKind.wrap_i64]
    omega
end Go.Num
namespace Go.Num
open Go Go.Abs
def bnd : Nat → Int
  | 0 => 18446744073709551616
  | i + 1 => (bnd i + 127) / 128
theorem bnd_succ (i : Nat) (u : Int) (h : u < bnd i) : u / 128 < bnd (i + 1) := by
  simp only [bnd]; omega
theorem bnd_nine (u : Int) (h : u < bnd 9) : u < 128 := by
  have : bnd 9 = 2 := by decide
  omega
theorem bnd_le (i : Nat) : bnd i ≤ 18446744073709551616 := by
  induction i with
  | zero => simp [bnd]
  | succ i ih => simp only [bnd]; omega
end Go.Num
namespace Go.Num
open Go Go.Abs
theorem or128' : ∀ x : BitVec 8, (x ||| BitVec.ofInt 8 128).toNat = x.toNat % 128 + 128 := by decide
theorem or128 (u : Int) (h : 0 ≤ u) : (↑(BitVec.toNat (BitVec.ofInt 8 (IntKind.wrap IntKind.u8 u) ||| BitVec.ofInt 8 128)) : Int) = u % 128 + 128 := by
  rw [or128', BitVec.toNat_ofInt, IntKind.wrap_u8]; omega
theorem enc_step (i : Nat) (u : Int) (hi : i ≤ 9) (hu : ¬ u < 128) : encF (10 - i) u = (u % 128 + 128) :: encF (10 - (i + 1)) (u / 128) := by
  have e : 10 - i = (10 - (i + 1)) + 1 := by omega
  rw [e]
  simp only [encF, if_neg hu]
theorem enc_last (i : Nat) (u : Int) (hi : i ≤ 9) (hu : u < 128) : encF (10 - i) u = [u] := by
  have e : 10 - i = (10 - (i + 1)) + 1 := by omega
  rw [e]
  simp only [encF, if_pos hu]
end Go.Num
namespace Go.Num
open Go Go.Abs
/-- The number in the first bytes. -/
def valN (xs : List Int) : Nat → Int
  | 0 => 0
  | i + 1 => valN xs i + (xs.getD i 0 % 128) * (128 ^ i : Nat)
end Go.Num
namespace Go.Num
open Go Go.Abs
theorem and127' : ∀ x : BitVec 8, (x &&& BitVec.ofInt 8 127).toNat = x.toNat % 128 := by decide
theorem and127 (c : Int) (h : 0 ≤ c ∧ c < 256) : (↑(BitVec.toNat (BitVec.ofInt 8 c &&& BitVec.ofInt 8 127)) : Int) = c % 128 := by
  rw [and127', BitVec.toNat_ofInt]; omega
theorem pow128 (i : Nat) : 128 ^ i = 2 ^ (7 * i) := by rw [Nat.pow_mul]
theorem or_val (v c : Int) (i : Nat) (hi : i ≤ 9) (hv0 : 0 ≤ v) (hv1 : v < ((128 ^ i : Nat) : Int)) (hc : 0 ≤ c ∧ c < 256) (h9 : i = 9 → c ≤ 1) :
    (↑(BitVec.toNat (BitVec.ofInt 64 v ||| BitVec.ofInt 64 (IntKind.wrap IntKind.u64 ((↑(BitVec.toNat (BitVec.ofInt 8 c &&& BitVec.ofInt 8 127)) : Int) * 2 ^ min (Int.toNat (7 * (↑i : Int))) 64)))) : Int) = v + (c % 128) * ((128 ^ i : Nat) : Int) ∧
    v + (c % 128) * ((128 ^ i : Nat) : Int) < ((128 ^ (i + 1) : Nat) : Int) ∧ v + (c % 128) * ((128 ^ i : Nat) : Int) < 18446744073709551616 := by
  rw [and127 c hc]
  have hm : min (Int.toNat (7 * (↑i : Int))) 64 = 7 * i := by omega
  rw [hm]
  have hp : (2 : Int) ^ (7 * i) = ((128 ^ i : Nat) : Int) := by rw [pow128]; simp
  rw [hp]
  obtain ⟨w, hw⟩ : ∃ w : Nat, c % 128 = w := ⟨(c % 128).toNat, by omega⟩
  obtain ⟨x, hx⟩ : ∃ x : Nat, v = x := ⟨v.toNat, by omega⟩
  rw [hw, hx]
  have hw1 : w < 128 := by omega
  have hx1 : x < 128 ^ i := by rw [hx] at hv1; exact_mod_cast hv1
  have hprod : w * 128 ^ i < 18446744073709551616 ∧ x + w * 128 ^ i < 18446744073709551616 := by
    have h10 : i = 0 ∨ i = 1 ∨ i = 2 ∨ i = 3 ∨ i = 4 ∨ i = 5 ∨ i = 6 ∨ i = 7 ∨ i = 8 ∨ i = 9 := by omega
    rcases h10 with rfl | rfl | rfl | rfl | rfl | rfl | rfl | rfl | rfl | rfl <;> simp at hx1 ⊢ <;> omega
  have hmul : ((w : Int) * ((128 ^ i : Nat) : Int)) = ((w * 128 ^ i : Nat) : Int) := by simp
  rw [hmul]
  refine ⟨?_, ?_, by omega⟩
  · rw [wrap64, BitVec.toNat_or, bv64 _ (by omega) (by omega), bv64 _ (by omega) (by omega)]
    have e1 : ((x : Int)).toNat = x := by omega
    have e2 : (((w * 128 ^ i : Nat) : Int) % 18446744073709551616).toNat = w <<< (7 * i) := by
      rw [Nat.shiftLeft_eq, ← pow128]; omega
    rw [e1, e2, Nat.or_comm, ← Nat.shiftLeft_add_eq_or_of_lt (by rw [← pow128]; exact hx1), Nat.shiftLeft_eq, ← pow128]
    omega
  · have : 128 ^ (i + 1) = 128 ^ i * 128 := Nat.pow_succ ..
    have h3 : w * 128 ^ i ≤ 127 * 128 ^ i := Nat.mul_le_mul_right _ (by omega)
    omega
end Go.Num
namespace Go.Num
open Go Go.Abs
/-- What is read at the beginning of bytes. -/
inductive GR where
  | short
  | form
  | ok (v : Int) (k : Nat)
def getF (xs : List Int) : Nat → Nat → GR
  | 0, _ => .form
  | f + 1, i => if xs.length ≤ i then .short else if i = 9 ∧ 1 < xs.getD i 0 then .form
    else if xs.getD i 0 < 128 then (if 0 < i ∧ xs.getD i 0 = 0 then .form else .ok (zag (valN xs (i + 1))) (i + 1)) else getF xs f (i + 1)
def getR (xs : List Int) : GR := getF xs 10 0
def resG (xs : List Int) : GR → AVal
  | .short => .tup [.sc (.int .i64 0), .sl [] 0 .any, .sc (.int .i64 5)]
  | .form => .tup [.sc (.int .i64 0), .sl [] 0 .any, .sc (.int .i64 3)]
  | .ok v k => .tup [.sc (.int .i64 v), .sl (u8s (xs.drop k)) (xs.length - k) .any, .sc (.int .i64 0)]
theorem getF_step (xs : List Int) (i : Nat) (hi : i ≤ 9) : getF xs (10 - i) i = if xs.length ≤ i then .short else if i = 9 ∧ 1 < xs.getD i 0 then .form
    else if xs.getD i 0 < 128 then (if 0 < i ∧ xs.getD i 0 = 0 then .form else .ok (zag (valN xs (i + 1))) (i + 1)) else getF xs (10 - (i + 1)) (i + 1) := by
  have e : 10 - i = (10 - (i + 1)) + 1 := by omega
  rw [e]; simp only [getF]
  try rfl
end Go.Num
namespace Go.Num
open Go Go.Abs
theorem encF_length (k : Nat) (u : Int) : (encF k u).length ≤ k + 1 ∧ 0 < (encF k u).length := by
  induction k generalizing u with
  | zero => simp [encF]
  | succ k ih =>
    simp only [encF]; split
    · simp
    · have := ih (u / 128); simp; omega
theorem enc_length (u : Int) : (enc u).length ≤ 11 ∧ 0 < (enc u).length := encF_length 10 u
theorem encF_bts (k : Nat) (u : Int) (h0 : 0 ≤ u) (h : u < bnd (10 - k)) (hk : k ≤ 10) : Bts (encF k u) := by
  induction k generalizing u with
  | zero => 
    have : bnd (10 - 0) = 1 := by decide
    exact Bts.cons h0 (by omega) Bts.nil
  | succ k ih =>
    simp only [encF]; split
    · exact Bts.cons h0 (by omega) Bts.nil
    · refine Bts.cons (by omega) (by omega) (ih (u / 128) (by omega) ?_ (by omega))
      have := bnd_succ (10 - (k + 1)) u h
      have e : 10 - (k + 1) + 1 = 10 - k := by omega
      rwa [e] at this
theorem enc_bts (u : Int) (h0 : 0 ≤ u) (h1 : u < 18446744073709551616) : Bts (enc u) := encF_bts 10 u h0 h1 (by omega)
end Go.Num
