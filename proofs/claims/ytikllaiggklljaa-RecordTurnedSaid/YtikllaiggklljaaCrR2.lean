/- Walks and laws. -/
import Derived.Test.YtikllaiggklljaaLibB
import Derived.Test.YtikllaiggklljaaCrR1
set_option maxRecDepth 100000
set_option maxHeartbeats 0
set_option linter.unusedSimpArgs false
set_option linter.unusedVariables false
namespace Go.Crc
open Go Go.Abs Go.Proofs
theorem x32_rng (x y : Int) : 0 ≤ x32 x y ∧ x32 x y < 4294967296 := by
  unfold x32
  rw [IntKind.wrap_u32]; omega
theorem x32_ones (y : Int) (h0 : 0 ≤ y) (h1 : y < 4294967296) : x32 4294967295 y = 4294967295 - y := by
  unfold x32
  have e : BitVec.ofInt 32 4294967295 = BitVec.allOnes 32 := by decide
  rw [e, BitVec.xor_comm, BitVec.xor_allOnes, BitVec.toNat_not, BitVec.toNat_ofInt, IntKind.wrap_u32]
  have : (y % ((2 ^ 32 : Nat) : Int)).toNat = y.toNat := by omega
  rw [this]
  omega
theorem dn_rng (y x : Int) : 0 ≤ dn y x ∧ dn y x < 4294967296 := x32_rng _ _
theorem dnn_rng (n : Nat) (x : Int) (h : 0 ≤ x ∧ x < 4294967296) : 0 ≤ dnn n x ∧ dnn n x < 4294967296 := by
  cases n with
  | zero => exact h
  | succ n => exact dn_rng _ _
theorem stp_rng (x c : Int) : 0 ≤ stp x c ∧ stp x c < 4294967296 := dnn_rng 8 _ (x32_rng _ _)
theorem stps_rng (xs : List Int) (x : Int) (h : 0 ≤ x ∧ x < 4294967296) : 0 ≤ stps x xs ∧ stps x xs < 4294967296 := by
  induction xs generalizing x with
  | nil => exact h
  | cons c xs ih => exact ih _ (stp_rng _ _)
theorem sum_eq (xs : List Int) : sum xs = 4294967295 - stps 4294967295 xs := by
  have := stps_rng xs 4294967295 (by omega)
  exact x32_ones _ this.1 this.2
end Go.Crc
