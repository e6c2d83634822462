/- Walks and laws. -/
import Derived.Test.YtikllaiggklljaaLibB
import Derived.Test.YtikllaiggklljaaCrR2
set_option maxRecDepth 100000
set_option maxHeartbeats 0
set_option linter.unusedSimpArgs false
set_option linter.unusedVariables false
namespace Go.Crc
open Go Go.Abs Go.Proofs
theorem bv_small (x : Int) (h0 : 0 ≤ x) (h1 : x < 4294967296) : (BitVec.ofInt 32 x).toNat = x.toNat := by
  rw [BitVec.toNat_ofInt]; omega
theorem a32_one (x : Int) (h0 : 0 ≤ x) (h1 : x < 4294967296) : a32 x 1 = x % 2 := by
  unfold a32
  rw [BitVec.toNat_and, bv_small x h0 h1, bv_small 1 (by omega) (by omega)]
  have : x.toNat &&& (1 : Int).toNat = x.toNat % 2 := Nat.and_one_is_mod _
  rw [this, IntKind.wrap_u32]; omega
theorem x32_zero (x : Int) (h0 : 0 ≤ x) (h1 : x < 4294967296) : x32 x 0 = x := by
  unfold x32
  rw [BitVec.toNat_xor, bv_small x h0 h1, bv_small 0 (by omega) (by omega)]
  have : x.toNat ^^^ (0 : Int).toNat = x.toNat := Nat.xor_zero _
  rw [this, IntKind.wrap_u32]; omega
theorem dn_odd (x : Int) (h0 : 0 ≤ x) (h1 : x < 4294967296) (h : x.tmod 2 = 1) : x32 (x.tdiv 2) 3988292384 = dn 3988292384 x := by
  have e0 : a32 x 1 = 1 := by
    have : x.tmod 2 = x % 2 := Int.tmod_eq_emod_of_nonneg h0
    rw [a32_one x h0 h1]; omega
  have e1 : a32 3988292384 (w32 (0 - 1)) = 3988292384 := by decide
  have e2 : x.fdiv 2 = x.tdiv 2 := by rw [Int.fdiv_eq_ediv_of_nonneg _ (by omega), Int.tdiv_eq_ediv_of_nonneg h0]
  unfold dn
  rw [e0, e1, e2]
theorem dn_even (x : Int) (h0 : 0 ≤ x) (h1 : x < 4294967296) (h : x.tmod 2 ≠ 1) : x.tdiv 2 = dn 3988292384 x := by
  have h' : x % 2 = 0 := by
    have : x.tmod 2 = x % 2 := Int.tmod_eq_emod_of_nonneg h0
    omega
  have e0 : a32 x 1 = 0 := by rw [a32_one x h0 h1]; omega
  have e1 : a32 3988292384 (w32 (0 - 0)) = 0 := by decide
  have e2 : x.fdiv 2 = x.tdiv 2 := by rw [Int.fdiv_eq_ediv_of_nonneg _ (by omega), Int.tdiv_eq_ediv_of_nonneg h0]
  unfold dn
  rw [e0, e1, e2, x32_zero _ (by have := Int.tdiv_eq_ediv_of_nonneg (b := 2) h0; omega) (by have := Int.tdiv_eq_ediv_of_nonneg (b := 2) h0; omega)]
theorem sum_rng (xs : List Int) : 0 ≤ sum xs ∧ sum xs < 4294967296 := x32_rng _ _
@[simp] theorem laid_length (s : Int) : (laid s).length = 4 := rfl
end Go.Crc
