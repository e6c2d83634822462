/- Walks and laws. -/
import Derived.Test.YtikllaiggklljaaLibB
import Derived.Test.YtikllaiggklljaaCrR2
set_option maxRecDepth 100000
set_option maxHeartbeats 0
set_option linter.unusedSimpArgs false
set_option linter.unusedVariables false
namespace Go.Crc
open Go Go.Abs Go.Proofs
theorem bv_small (x : Int) (h0 : 0 ≤ x) (h1 : x < 4294967296) : (BitVec.ofInt 32 x).toNat = x.toNat := by
  rw [BitVec.toNat_ofInt]; omega
theorem a32_one (x : Int) (h0 : 0 ≤ x) (h1 : x < 4294967296) : a32 x 1 = x % 2 := by
  unfold a32
  rw [BitVec.toNat_and, bv_small x h0 h1, bv_small 1 (by omega) (by omega)]
  have : x.toNat &&& (1 : Int).toNat = x.toNat % 2 := Nat.and_one_is_mod _
  rw [this, IntKind.wrap_u32]; omega
theorem x32_zero (x : Int) (h0 : 0 ≤ x) (h1 : x < 4294967296) : x32 x 0 = x := by
  unfold x32
  rw [BitVec.toNat_xor, bv_small x h0 h1, bv_small 0 (by omega) (by omega)]
  have : x.toNat ^^^ (0 : Int).toNat = x.toNat := Nat.xor_zero _
  rw [this, IntKind.wrap_u32]; omega
theorem dn_odd (x : Int) (h0 : 0 ≤ x) (h1 : x < 4294967296) (h : x.tmod 2 = 1) : x32 (x.tdiv 2) 3988292384 = dn 3988292384 x := by
  have e0 : a32 x 1 = 1 := by
    have : x.tmod 2 = x % 2 := Int.tmod_eq_emod_of_nonneg h0
    rw [a32_one x h0 h1]; omega
  have e1 : a32 3988292384 (w32 (0 - 1)) = 3988292384 := by decide
  have e2 : x.fdiv 2 = x.tdiv 2 := by rw [Int.fdiv_eq_ediv_of_nonneg _ (by omega), Int.tdiv_eq_ediv_of_nonneg h0]
  unfold dn
  rw [e0, e1, e2]
theorem dn_even (x : Int) (h0 : 0 ≤ x) (h1 : x < 4294967296) (h : x.tmod 2 ≠ 1) : x.tdiv 2 = dn 3988292384 x := by
  have h' : x % 2 = 0 := by
    have : x.tmod 2 = x % 2 := Int.tmod_eq_emod_of_nonneg h0
    omega
  have e0 : a32 x 1 = 0 := by rw [a32_one x h0 h1]; omega
  have e1 : a32 3988292384 (w32 (0 - 0)) = 0 := by decide
  have e2 : x.fdiv 2 = x.tdiv 2 := by rw [Int.fdiv_eq_ediv_of_nonneg _ (by omega), Int.tdiv_eq_ediv_of_nonneg h0]
  unfold dn
  rw [e0, e1, e2, x32_zero _ (by have := Int.tdiv_eq_ediv_of_nonneg (b := 2) h0; omega) (by have := Int.tdiv_eq_ediv_of_nonneg (b := 2) h0; omega)]
theorem r_bytes (xs ys : List Int) (n m : Nat) (hx : Bts xs) (hy : Bts ys) (hn : n = xs.length) (hm : m = ys.length) : EvD Try.prog 20 [.sl (u8s xs) n .any, .sl (u8s ys) m .any] (.sc (.bool (xs == ys))) := by
  refine EvD.body Try.func20 rfl rfl rfl ?_
  refine SQ ?_
  refine DerQ.run (True ∧ True) ⟨[.sl (u8s xs) (n) .any, .sl (u8s ys) (m) .any, U6, U6, (B6 false)] ++ UU 5, []⟩ (by kernel_rfl) ⟨trivial, trivial⟩ ?_
  refine SQ ?_
  refine DerQ.run (True ∧ ((n = List.length (u8s xs)) ∧ (∀ (i : Nat), i < List.length (u8s xs) → isByteA (List.getD (u8s xs) i AVal.undef) = true)) ∧ True ∧ ((m = List.length (u8s ys)) ∧ (∀ (i : Nat), i < List.length (u8s ys) → isByteA (List.getD (u8s ys) i AVal.undef) = true)) ∧ True ∧ True ∧ True) ⟨[.sl (u8s xs) (n) .any, .sl (u8s ys) (m) .any, U6, U6, (B6 (ByteArray.toList (strOf (u8s xs)) == ByteArray.toList (strOf (u8s ys)))), .sl (u8s xs) (n) .any, (S6 (strOf (u8s xs))), .sl (u8s ys) (m) .any, (S6 (strOf (u8s ys))), (B6 (ByteArray.toList (strOf (u8s xs)) == ByteArray.toList (strOf (u8s ys))))], []⟩ (by kernel_rfl) ⟨trivial, ⟨(by (simp only [List.length_append, List.length_take, List.length_drop, u8s_length]; omega)), (by exact u8s_isByte _)⟩, trivial, ⟨(by (simp only [List.length_append, List.length_take, List.length_drop, u8s_length]; omega)), (by exact u8s_isByte _)⟩, trivial, trivial, trivial⟩ ?_
  rw [Go.Abs.strOf_beq (xs) (ys) (by omega) (by omega)]
  refine AWP.ret FA
theorem r_step (x c : Int) : EvD Try.prog 93 [.sc (.int .u32 x), .sc (.int .u8 c)] (.sc (.int .u32 (stp x c))) := by
  refine EvD.body Try.func93 rfl rfl rfl ?_
  refine SQ ?_
  refine DerQ.run (True ∧ True) ⟨[.sc (.int .u32 (x)), .sc (.int .u8 (c)), U6, U6, .sc (.int .u32 0)] ++ UU 19, []⟩ (by kernel_rfl) ⟨trivial, trivial⟩ ?_
  refine SQ ?_
  refine DerQ.run (TT 5) ⟨[.sc (.int .u32 (x32 x (w32 c))), .sc (.int .u8 (c)), U6, U6, .sc (.int .u32 0), U6, U6, .sc (.int .u32 (x)), .sc (.int .u8 (c)), .sc (.int .u32 (w32 c)), .sc (.int .u32 (x32 x (w32 c)))] ++ UU 13, []⟩ (by kernel_rfl) (tt 5) ?_
  refine AWP.seq (SQ ?_)
  refine DerQ.run (True ∧ True) ⟨[.sc (.int .u32 (x32 x (w32 c))), .sc (.int .u8 (c)), U6, U6, .sc (.int .u32 0), (I6 0), U6, .sc (.int .u32 (x)), .sc (.int .u8 (c)), .sc (.int .u32 (w32 c)), .sc (.int .u32 (x32 x (w32 c)))] ++ UU 13, []⟩ (by kernel_rfl) ⟨trivial, trivial⟩ ?_
  refine AWP.block ?_
  refine AWP.loopM [true, true, false, false, true, true, false, true, true, true, true, false, false, false, false, false, false, false, false, false, false, false, false, false] (fun n st => ∃ i : Nat, i ≤ 8 ∧ n = 8 - i ∧ st = ⟨[.sc (.int .u32 (dnn i (x32 x (w32 c)))), .sc (.int .u8 (c)), U6, U6, .sc (.int .u32 0), (I6 i), U6, .sc (.int .u32 (x)), .sc (.int .u8 (c)), .sc (.int .u32 (w32 c)), .sc (.int .u32 (x32 x (w32 c))), U6, U6, U6, U6, U6, U6, U6, U6, U6, U6, U6, U6, .undef], []⟩) _ ⟨0, by omega, rfl, rfl⟩ ?_
  rintro n s ⟨i, hi, rfl, rfl⟩
  have hr := dnn_rng i _ (x32_rng x (w32 c))
  refine AWP.seq (SQ ?_)
  refine DerQ.run (TT 2) ⟨[.sc (.int .u32 (dnn i (x32 x (w32 c)))), .sc (.int .u8 (c)), U6, U6, .sc (.int .u32 0), (I6 (↑i : Int)), U6, .sc (.int .u32 (x)), .sc (.int .u8 (c)), .sc (.int .u32 (w32 c)), .sc (.int .u32 (x32 x (w32 c))), (I6 (↑i : Int)), (B6 (decide ((↑i : Int) < 8)))] ++ UU 11, []⟩ (by kernel_rfl) (tt 2) ?_
  refine CN (decide ((↑i : Int) < 8)) (fun h1 => ?_) (fun h1 => ?_)
  · have h1' := of_decide_eq_true h1
    refine AWP.skip (AWP.seq (AWP.block (SQ ?_)))
    refine DerQ.run (True ∧ ((2 : Int) ≠ (0 : Int)) ∧ True ∧ True) ⟨[.sc (.int .u32 (dnn i (x32 x (w32 c)))), .sc (.int .u8 (c)), U6, U6, .sc (.int .u32 0), (I6 (↑i : Int)), .sc (.int .u32 (Int.tmod (dnn i (x32 x (w32 c))) 2)), .sc (.int .u32 (x)), .sc (.int .u8 (c)), .sc (.int .u32 (w32 c)), .sc (.int .u32 (x32 x (w32 c))), (I6 (↑i : Int)), (B6 (decide ((↑i : Int) < 8))), U6, U6, .sc (.int .u32 (dnn i (x32 x (w32 c)))), .sc (.int .u32 (Int.tmod (dnn i (x32 x (w32 c))) 2))] ++ UU 7, []⟩ (by kernel_rfl) ⟨trivial, (by omega), trivial, trivial⟩ ?_
    refine SQ ?_
    refine DerQ.run (True ∧ ((2 : Int) ≠ (0 : Int)) ∧ True ∧ True) ⟨[.sc (.int .u32 (w32 (Int.tdiv (dnn i (x32 x (w32 c))) 2))), .sc (.int .u8 (c)), U6, U6, .sc (.int .u32 0), (I6 (↑i : Int)), .sc (.int .u32 (Int.tmod (dnn i (x32 x (w32 c))) 2)), .sc (.int .u32 (x)), .sc (.int .u8 (c)), .sc (.int .u32 (w32 c)), .sc (.int .u32 (x32 x (w32 c))), (I6 (↑i : Int)), (B6 (decide ((↑i : Int) < 8))), U6, U6, .sc (.int .u32 (dnn i (x32 x (w32 c)))), .sc (.int .u32 (Int.tmod (dnn i (x32 x (w32 c))) 2)), .sc (.int .u32 (dnn i (x32 x (w32 c)))), .sc (.int .u32 (w32 (Int.tdiv (dnn i (x32 x (w32 c))) 2)))] ++ UU 5, []⟩ (by kernel_rfl) ⟨trivial, (by omega), trivial, trivial⟩ ?_
    refine SQ ?_
    refine DerQ.run (TT 2) ⟨[.sc (.int .u32 (w32 (Int.tdiv (dnn i (x32 x (w32 c))) 2))), .sc (.int .u8 (c)), U6, U6, .sc (.int .u32 0), (I6 (↑i : Int)), .sc (.int .u32 (Int.tmod (dnn i (x32 x (w32 c))) 2)), .sc (.int .u32 (x)), .sc (.int .u8 (c)), .sc (.int .u32 (w32 c)), .sc (.int .u32 (x32 x (w32 c))), (I6 (↑i : Int)), (B6 (decide ((↑i : Int) < 8))), U6, U6, .sc (.int .u32 (dnn i (x32 x (w32 c)))), .sc (.int .u32 (Int.tmod (dnn i (x32 x (w32 c))) 2)), .sc (.int .u32 (dnn i (x32 x (w32 c)))), .sc (.int .u32 (w32 (Int.tdiv (dnn i (x32 x (w32 c))) 2))), .sc (.int .u32 (Int.tmod (dnn i (x32 x (w32 c))) 2)), (B6 (Int.tmod (dnn i (x32 x (w32 c))) 2 == 1)), U6, U6, .undef], []⟩ (by kernel_rfl) (tt 2) ?_
    refine CN (Int.tmod (dnn i (x32 x (w32 c))) 2 == 1) (fun h2 => ?_) (fun h2 => ?_)
    · have h2' := eq_of_beq h2
      refine AWP.reg ?_
      refine DerQ.run (TT 3) ⟨[.sc (.int .u32 (x32 (w32 (Int.tdiv (dnn i (x32 x (w32 c))) 2)) 3988292384)), .sc (.int .u8 (c)), U6, U6, .sc (.int .u32 0), (I6 (↑i : Int)), .sc (.int .u32 (Int.tmod (dnn i (x32 x (w32 c))) 2)), .sc (.int .u32 (x)), .sc (.int .u8 (c)), .sc (.int .u32 (w32 c)), .sc (.int .u32 (x32 x (w32 c))), (I6 (↑i : Int)), (B6 (decide ((↑i : Int) < 8))), U6, U6, .sc (.int .u32 (dnn i (x32 x (w32 c)))), .sc (.int .u32 (Int.tmod (dnn i (x32 x (w32 c))) 2)), .sc (.int .u32 (dnn i (x32 x (w32 c)))), .sc (.int .u32 (w32 (Int.tdiv (dnn i (x32 x (w32 c))) 2))), .sc (.int .u32 (Int.tmod (dnn i (x32 x (w32 c))) 2)), (B6 (Int.tmod (dnn i (x32 x (w32 c))) 2 == 1)), .sc (.int .u32 (w32 (Int.tdiv (dnn i (x32 x (w32 c))) 2))), .sc (.int .u32 (x32 (w32 (Int.tdiv (dnn i (x32 x (w32 c))) 2)) 3988292384)), .undef], []⟩ (by kernel_rfl) (tt 3) ?_
      refine AWP.reg ?_
      refine DerQ.run (TT 3) ⟨[.sc (.int .u32 (x32 (w32 (Int.tdiv (dnn i (x32 x (w32 c))) 2)) 3988292384)), .sc (.int .u8 (c)), U6, U6, .sc (.int .u32 0), (I6 (IntKind.wrap IntKind.i64 ((↑i : Int) + 1))), .sc (.int .u32 (Int.tmod (dnn i (x32 x (w32 c))) 2)), .sc (.int .u32 (x)), .sc (.int .u8 (c)), .sc (.int .u32 (w32 c)), .sc (.int .u32 (x32 x (w32 c))), (I6 (↑i : Int)), (B6 (decide ((↑i : Int) < 8))), (I6 (↑i : Int)), (I6 (IntKind.wrap IntKind.i64 ((↑i : Int) + 1))), .sc (.int .u32 (dnn i (x32 x (w32 c)))), .sc (.int .u32 (Int.tmod (dnn i (x32 x (w32 c))) 2)), .sc (.int .u32 (dnn i (x32 x (w32 c)))), .sc (.int .u32 (w32 (Int.tdiv (dnn i (x32 x (w32 c))) 2))), .sc (.int .u32 (Int.tmod (dnn i (x32 x (w32 c))) 2)), (B6 (Int.tmod (dnn i (x32 x (w32 c))) 2 == 1)), .sc (.int .u32 (w32 (Int.tdiv (dnn i (x32 x (w32 c))) 2))), .sc (.int .u32 (x32 (w32 (Int.tdiv (dnn i (x32 x (w32 c))) 2)) 3988292384)), .undef], []⟩ (by kernel_rfl) (tt 3) ?_
      rw [IntWalk.i64_in ((↑i : Int) + 1) (by omega)]
      have e0 : w32 (Int.tdiv (dnn i (x32 x (w32 c))) 2) = Int.tdiv (dnn i (x32 x (w32 c))) 2 := IntWalk.u32_in _ (by have := Int.tdiv_eq_ediv_of_nonneg (b := 2) hr.1; omega)
      rw [e0, dn_odd _ hr.1 hr.2 h2']
      exact ⟨8 - (i + 1), by omega, i + 1, by omega, rfl, by kernel_rfl⟩
    · have h2' := ne_of_beq_false h2
      refine AWP.skip (AWP.reg ?_)
      refine DerQ.run (TT 3) ⟨[.sc (.int .u32 (w32 (Int.tdiv (dnn i (x32 x (w32 c))) 2))), .sc (.int .u8 (c)), U6, U6, .sc (.int .u32 0), (I6 (IntKind.wrap IntKind.i64 ((↑i : Int) + 1))), .sc (.int .u32 (Int.tmod (dnn i (x32 x (w32 c))) 2)), .sc (.int .u32 (x)), .sc (.int .u8 (c)), .sc (.int .u32 (w32 c)), .sc (.int .u32 (x32 x (w32 c))), (I6 (↑i : Int)), (B6 (decide ((↑i : Int) < 8))), (I6 (↑i : Int)), (I6 (IntKind.wrap IntKind.i64 ((↑i : Int) + 1))), .sc (.int .u32 (dnn i (x32 x (w32 c)))), .sc (.int .u32 (Int.tmod (dnn i (x32 x (w32 c))) 2)), .sc (.int .u32 (dnn i (x32 x (w32 c)))), .sc (.int .u32 (w32 (Int.tdiv (dnn i (x32 x (w32 c))) 2))), .sc (.int .u32 (Int.tmod (dnn i (x32 x (w32 c))) 2)), (B6 (Int.tmod (dnn i (x32 x (w32 c))) 2 == 1)), U6, U6, .undef], []⟩ (by kernel_rfl) (tt 3) ?_
      rw [IntWalk.i64_in ((↑i : Int) + 1) (by omega)]
      have e0 : w32 (Int.tdiv (dnn i (x32 x (w32 c))) 2) = Int.tdiv (dnn i (x32 x (w32 c))) 2 := IntWalk.u32_in _ (by have := Int.tdiv_eq_ediv_of_nonneg (b := 2) hr.1; omega)
      rw [e0, dn_even _ hr.1 hr.2 h2']
      exact ⟨8 - (i + 1), by omega, i + 1, by omega, rfl, by kernel_rfl⟩
  · have h1' := of_decide_eq_false h1
    refine AWP.exit ?_
    refine SQ ?_
    refine DerQ.run (TT 2) ⟨[.sc (.int .u32 (dnn i (x32 x (w32 c)))), .sc (.int .u8 (c)), U6, U6, .sc (.int .u32 (dnn i (x32 x (w32 c)))), (I6 (↑i : Int)), U6, .sc (.int .u32 (x)), .sc (.int .u8 (c)), .sc (.int .u32 (w32 c)), .sc (.int .u32 (x32 x (w32 c))), (I6 (↑i : Int)), (B6 (decide ((↑i : Int) < 8)))] ++ UU 10 ++ [.sc (.int .u32 (dnn i (x32 x (w32 c))))], []⟩ (by kernel_rfl) (tt 2) ?_
    refine AWP.ret ?_
    refine FI (.sc (.int .u32 (dnn i (x32 x (w32 c))))) ?_
    refine Shrink.all ?_ rfl
    obtain rfl : i = 8 := by omega
    rfl
theorem r_sum (xs : List Int) (n : Nat) (hn : n = xs.length) (hx : xs.length ≤ 1000000) : EvD Try.prog 78 [.sl (u8s xs) n .any] (.sc (.int .u32 (sum xs))) := by
  subst hn
  refine EvD.body Try.func78 rfl rfl rfl ?_
  refine SQ ?_
  refine DerQ.run (True ∧ True) ⟨[.sl (u8s xs) (List.length xs) .any, U6, .sc (.int .u32 0)] ++ UU 16, []⟩ (by kernel_rfl) ⟨trivial, trivial⟩ ?_
  refine SQ ?_
  refine DerQ.run (True ∧ True) ⟨[.sl (u8s xs) (List.length xs) .any, U6, .sc (.int .u32 0), .sc (.int .u32 4294967295)] ++ UU 15, []⟩ (by kernel_rfl) ⟨trivial, trivial⟩ ?_
  refine AWP.seq (SQ ?_)
  refine DerQ.run (True ∧ True) ⟨[.sl (u8s xs) (List.length xs) .any, U6, .sc (.int .u32 0), .sc (.int .u32 4294967295), (I6 0)] ++ UU 14, []⟩ (by kernel_rfl) ⟨trivial, trivial⟩ ?_
  refine AWP.block ?_
  refine AWP.loopM [true, false, true, true, true, false, false, false, false, false, false, false, false, false, false, false, false, false, false] (fun n st => ∃ i : Nat, i ≤ xs.length ∧ n = xs.length - i ∧ st = ⟨[.sl (u8s xs) (List.length xs) .any, U6, .sc (.int .u32 0), .sc (.int .u32 (stps 4294967295 (xs.take i))), (I6 i), U6, U6, U6, U6, U6, U6, U6, U6, U6, U6, U6, U6, U6, .undef], []⟩) _ ⟨0, by omega, rfl, rfl⟩ ?_
  rintro n s ⟨i, hi, rfl, rfl⟩
  refine AWP.seq (SQ ?_)
  refine DerQ.run (TT 4) ⟨[.sl (u8s xs) (List.length xs) .any, U6, .sc (.int .u32 0), .sc (.int .u32 (stps 4294967295 (List.take i xs))), (I6 (↑i : Int)), (I6 (↑i : Int)), .sl (u8s xs) (List.length xs) .any, (I6 (↑(List.length xs) : Int)), (B6 (decide ((↑i : Int) < (↑(List.length xs) : Int))))] ++ UU 10, []⟩ (by kernel_rfl) (tt 4) ?_
  refine CN (decide ((↑i : Int) < (↑(List.length xs) : Int))) (fun h1 => ?_) (fun h1 => ?_)
  · have h1' := of_decide_eq_true h1
    refine AWP.skip (AWP.seq (AWP.block (AWP.reg ?_)))
    refine DerQ.pre 5 (True ∧ True ∧ True ∧ (((0 ≤ (↑i : Int)) ∧ ((↑i : Int) < (↑(List.length xs) : Int))) ∧ (Int.toNat (↑i : Int) * 1 + 1 ≤ List.length (u8s xs))) ∧ (0 < List.length [List.getD (u8s xs) (Int.toNat (↑i : Int) * 1 + 0) AVal.undef]) ∧ True) ⟨[.sl (u8s xs) (List.length xs) .any, U6, .sc (.int .u32 0), .sc (.int .u32 (stps 4294967295 (List.take i xs))), (I6 (↑i : Int)), (I6 (↑i : Int)), .sl (u8s xs) (List.length xs) .any, (I6 (↑(List.length xs) : Int)), (B6 (decide ((↑i : Int) < (↑(List.length xs) : Int)))), U6, U6, .sc (.int .u32 (stps 4294967295 (List.take i xs))), .sl (u8s xs) (List.length xs) .any, (I6 (↑i : Int)), .dptr [List.getD (u8s xs) (Int.toNat (↑i : Int) * 1 + 0) AVal.undef], List.getD [List.getD (u8s xs) (Int.toNat (↑i : Int) * 1 + 0) AVal.undef] 0 U6, U6, U6, .undef], []⟩ (by kernel_rfl) ⟨trivial, trivial, trivial, ⟨⟨(by omega), (by omega)⟩, (by (simp only [List.length_append, List.length_take, List.length_drop, u8s_length]; omega))⟩, (by simp), trivial⟩ ?_
    rw [Int.toNat_natCast (i)]
    rw [Nat.mul_one (i)]
    rw [Nat.add_zero (i)]
    rw [Go.Abs.u8s_getD (xs) (i) (by omega)]
    refine DerQ.callD (r_step (stps 4294967295 (List.take i xs)) (List.getD xs i 0)) ⟨[.sl (u8s xs) (List.length xs) .any, U6, .sc (.int .u32 0), .sc (.int .u32 (stps 4294967295 (List.take i xs))), (I6 (↑i : Int)), (I6 (↑i : Int)), .sl (u8s xs) (List.length xs) .any, (I6 (↑(List.length xs) : Int)), (B6 (decide ((↑i : Int) < (↑(List.length xs) : Int)))), U6, U6, .sc (.int .u32 (stps 4294967295 (List.take i xs))), .sl (u8s xs) (List.length xs) .any, (I6 (↑i : Int)), .dptr [.sc (.int .u8 (List.getD xs i 0))], .sc (.int .u8 (List.getD xs i 0)), .sc (.int .u32 (stp (stps 4294967295 (List.take i xs)) (List.getD xs i 0))), U6, .undef], []⟩ ⟨by kernel_rfl, by kernel_rfl, by kernel_rfl⟩ ?_
    refine DerQ.run (True ∧ True) ⟨[.sl (u8s xs) (List.length xs) .any, U6, .sc (.int .u32 0), .sc (.int .u32 (stp (stps 4294967295 (List.take i xs)) (List.getD xs i 0))), (I6 (↑i : Int)), (I6 (↑i : Int)), .sl (u8s xs) (List.length xs) .any, (I6 (↑(List.length xs) : Int)), (B6 (decide ((↑i : Int) < (↑(List.length xs) : Int)))), U6, U6, .sc (.int .u32 (stps 4294967295 (List.take i xs))), .sl (u8s xs) (List.length xs) .any, (I6 (↑i : Int)), .dptr [.sc (.int .u8 (List.getD xs i 0))], .sc (.int .u8 (List.getD xs i 0)), .sc (.int .u32 (stp (stps 4294967295 (List.take i xs)) (List.getD xs i 0))), U6, .undef], []⟩ (by kernel_rfl) ⟨trivial, trivial⟩ ?_
    refine AWP.reg ?_
    refine DerQ.run (TT 3) ⟨[.sl (u8s xs) (List.length xs) .any, U6, .sc (.int .u32 0), .sc (.int .u32 (stp (stps 4294967295 (List.take i xs)) (List.getD xs i 0))), (I6 (IntKind.wrap IntKind.i64 ((↑i : Int) + 1))), (I6 (↑i : Int)), .sl (u8s xs) (List.length xs) .any, (I6 (↑(List.length xs) : Int)), (B6 (decide ((↑i : Int) < (↑(List.length xs) : Int)))), (I6 (↑i : Int)), (I6 (IntKind.wrap IntKind.i64 ((↑i : Int) + 1))), .sc (.int .u32 (stps 4294967295 (List.take i xs))), .sl (u8s xs) (List.length xs) .any, (I6 (↑i : Int)), .dptr [.sc (.int .u8 (List.getD xs i 0))], .sc (.int .u8 (List.getD xs i 0)), .sc (.int .u32 (stp (stps 4294967295 (List.take i xs)) (List.getD xs i 0))), U6, .undef], []⟩ (by kernel_rfl) (tt 3) ?_
    rw [IntWalk.i64_in ((↑i : Int) + 1) (by omega)]
    rw [stps_take _ xs i (by omega)]
    exact ⟨xs.length - (i + 1), by omega, i + 1, by omega, rfl, by kernel_rfl⟩
  · have h1' := of_decide_eq_false h1
    refine AWP.exit ?_
    refine SQ ?_
    refine DerQ.run (TT 3) ⟨[.sl (u8s xs) (List.length xs) .any, U6, .sc (.int .u32 (IntKind.wrap IntKind.u32 (4294967295 - stps 4294967295 (List.take i xs)))), .sc (.int .u32 (stps 4294967295 (List.take i xs))), (I6 (↑i : Int)), (I6 (↑i : Int)), .sl (u8s xs) (List.length xs) .any, (I6 (↑(List.length xs) : Int)), (B6 (decide ((↑i : Int) < (↑(List.length xs) : Int))))] ++ UU 8 ++ [.sc (.int .u32 (stps 4294967295 (List.take i xs))), .sc (.int .u32 (IntKind.wrap IntKind.u32 (4294967295 - stps 4294967295 (List.take i xs))))], []⟩ (by kernel_rfl) (tt 3) ?_
    refine AWP.ret ?_
    refine FI (.sc (.int .u32 (IntKind.wrap IntKind.u32 (4294967295 - stps 4294967295 (List.take i xs))))) ?_
    refine Shrink.all ?_ rfl
    have hr := stps_rng xs 4294967295 (by omega)
    rw [List.take_of_length_le (by omega), IntWalk.u32_in _ (by omega), ← sum_eq]
theorem sum_rng (xs : List Int) : 0 ≤ sum xs ∧ sum xs < 4294967296 := x32_rng _ _
theorem seal_bytes (s : Int) (h0 : 0 ≤ s) (h1 : s < 4294967296) : [b8 (Int.tmod s 256), b8 (Int.tmod (IntKind.wrap IntKind.u32 (Int.tdiv s 256)) 256),
    b8 (Int.tmod (IntKind.wrap IntKind.u32 (Int.tdiv (IntKind.wrap IntKind.u32 (Int.tdiv s 256)) 256)) 256),
    b8 (Int.tmod (IntKind.wrap IntKind.u32 (Int.tdiv (IntKind.wrap IntKind.u32 (Int.tdiv (IntKind.wrap IntKind.u32 (Int.tdiv s 256)) 256)) 256)) 256)] = laid s := by
  have d (x : Int) (hx : 0 ≤ x) (hx1 : x < 4294967296) : IntKind.wrap IntKind.u32 (Int.tdiv x 256) = x / 256 := by
    rw [Int.tdiv_eq_ediv_of_nonneg hx, IntWalk.u32_in _ (by omega)]
  have m (x : Int) (hx : 0 ≤ x) : Int.tmod x 256 = x % 256 := Int.tmod_eq_emod_of_nonneg hx
  rw [d s h0 h1, d (s / 256) (by omega) (by omega), d (s / 256 / 256) (by omega) (by omega), m s h0, m (s / 256) (by omega), m (s / 256 / 256) (by omega), m (s / 256 / 256 / 256) (by omega)]
  simp only [laid, b8, IntKind.wrap_u8, Int.fdiv_eq_ediv_of_nonneg s (show (0 : Int) ≤ 256 by omega), Int.fdiv_eq_ediv_of_nonneg s (show (0 : Int) ≤ 65536 by omega), Int.fdiv_eq_ediv_of_nonneg s (show (0 : Int) ≤ 16777216 by omega)]
  simp only [List.cons.injEq, and_true]
  omega
theorem r_seal (xs : List Int) (n : Nat) (hn : n = xs.length) (hx : xs.length ≤ 1000000) : EvD Try.prog 51 [.sl (u8s xs) n .any] (.sl (u8s (xs ++ laid (sum xs))) (n + 4) .any) := by
  refine EvD.body Try.func51 rfl rfl rfl ?_
  refine SQ ?_
  refine DerQ.run (True ∧ True) ⟨[.sl (u8s xs) (n) .any, U6, .sl [] 0 .nil] ++ UU 21, []⟩ (by kernel_rfl) ⟨trivial, trivial⟩ ?_
  refine SQ ?_
  refine DerQ.run (True ∧ True ∧ ((List.length (u8s xs) = n * 1) ∧ (n ≤ 1073741824)) ∧ True ∧ True) ⟨[.sl (u8s xs) (n) .any, U6, .sl [] 0 .nil, .row 0 0 (n), U6, U6, .sl [] 0 .cap0, .sl (u8s xs) (n) .any, .row 0 0 (n)] ++ UU 15, [⟨u8s xs, 1, .fresh⟩]⟩ (by kernel_rfl) ⟨trivial, trivial, ⟨(by (simp only [List.length_append, List.length_take, List.length_drop, u8s_length]; omega)), (by omega)⟩, trivial, trivial⟩ ?_
  refine SQ ?_
  refine DerQ.pre 1 (True ∧ True) ⟨[.sl (u8s xs) (n) .any, U6, .sl [] 0 .nil, .row 0 0 (n), U6, U6, .sl [] 0 .cap0, .sl (u8s xs) (n) .any, .row 0 0 (n), .sl (u8s xs) (n) .any] ++ UU 14, [⟨u8s xs, 1, .fresh⟩]⟩ (by kernel_rfl) ⟨trivial, trivial⟩ ?_
  refine DerQ.callD (r_sum xs n (by omega) (by omega)) ⟨[.sl (u8s xs) (n) .any, U6, .sl [] 0 .nil, .row 0 0 (n), U6, U6, .sl [] 0 .cap0, .sl (u8s xs) (n) .any, .row 0 0 (n), .sl (u8s xs) (n) .any, .sc (.int .u32 (sum xs))] ++ UU 13, [⟨u8s xs, 1, .fresh⟩]⟩ ⟨by kernel_rfl, by kernel_rfl, by kernel_rfl⟩ ?_
  refine DerQ.run (True ∧ True) ⟨[.sl (u8s xs) (n) .any, U6, .sl [] 0 .nil, .row 0 0 (n), .sc (.int .u32 (sum xs)), U6, .sl [] 0 .cap0, .sl (u8s xs) (n) .any, .row 0 0 (n), .sl (u8s xs) (n) .any, .sc (.int .u32 (sum xs))] ++ UU 13, [⟨u8s xs, 1, .fresh⟩]⟩ (by kernel_rfl) ⟨trivial, trivial⟩ ?_
  refine AWP.seq (SQ ?_)
  refine DerQ.run (True ∧ True) ⟨[.sl (u8s xs) (n) .any, U6, .sl [] 0 .nil, .row 0 0 (n), .sc (.int .u32 (sum xs)), (I6 0), .sl [] 0 .cap0, .sl (u8s xs) (n) .any, .row 0 0 (n), .sl (u8s xs) (n) .any, .sc (.int .u32 (sum xs))] ++ UU 13, [⟨u8s xs, 1, .fresh⟩]⟩ (by kernel_rfl) ⟨trivial, trivial⟩ ?_
  refine AWP.block ?_
  refine AWP.loopN 5 ?_
  refine AWP.turn ?_
  refine AWP.seq (SQ ?_)
  refine DerQ.run (TT 2) ⟨[.sl (u8s xs) (n) .any, U6, .sl [] 0 .nil, .row 0 0 (n), .sc (.int .u32 (sum xs)), (I6 0), .sl [] 0 .cap0, .sl (u8s xs) (n) .any, .row 0 0 (n), .sl (u8s xs) (n) .any, .sc (.int .u32 (sum xs)), (I6 0), (B6 true)] ++ UU 11, [⟨u8s xs, 1, .fresh⟩]⟩ (by kernel_rfl) (tt 2) ?_
  refine CN true (fun _ => ?_) (fun h => nomatch h)
  refine AWP.skip (AWP.seq (AWP.block (SQ ?_)))
  refine DerQ.run (True ∧ True ∧ ((256 : Int) ≠ (0 : Int)) ∧ True ∧ True ∧ ((List.length (u8s [b8 (Int.tmod (sum xs) 256)]) = 1) ∧ (((1 : Nat) = (1 : Nat)) ∧ ((n * 1 = List.length (u8s xs)) ∧ ((n + 1 ≤ 1073741824) ∧ ((dataAll (u8s xs ++ u8s [b8 (Int.tmod (sum xs) 256)]) = true) ∧ (∀ (i : Nat), i < List.length (u8s [b8 (Int.tmod (sum xs) 256)]) → AVal.one (List.getD (u8s [b8 (Int.tmod (sum xs) 256)]) i AVal.undef) = true)))))) ∧ True ∧ True) ⟨[.sl (u8s xs) (n) .any, U6, .sl [] 0 .nil, .row 0 0 (n + 1), .sc (.int .u32 (sum xs)), (I6 0), .sl [] 0 .cap0, .sl (u8s xs) (n) .any, .row 0 0 (n), .sl (u8s xs) (n) .any, .sc (.int .u32 (sum xs)), (I6 0), (B6 true), U6, U6, .row 0 0 (n), .sc (.int .u32 (sum xs)), .sc (.int .u32 (Int.tmod (sum xs) 256)), .sc (.int .u8 (b8 (Int.tmod (sum xs) 256))), .sl [.sc (.int .u8 (b8 (Int.tmod (sum xs) 256)))] 1 .nn, .row 0 0 (n + 1), U6, U6, .undef], [⟨u8s xs ++ u8s [b8 (Int.tmod (sum xs) 256)], 1, .grown⟩]⟩ (by kernel_rfl) ⟨trivial, trivial, (by omega), trivial, trivial, ⟨(by rfl), ⟨(by omega), ⟨(by (simp only [List.length_append, List.length_take, List.length_drop, u8s_length]; omega)), ⟨(by omega), ⟨(by (simp only [dataAll_append, dataAll_u8s, dataAll, AVal.data, Bool.and_true])), (by exact u8s_one _)⟩⟩⟩⟩⟩, trivial, trivial⟩ ?_
  rw [Nat.add_zero (n + 1)]
  rw [Nat.add_zero (n + 1)]
  rw [Nat.add_zero (n + 1)]
  rw [Nat.add_zero (n + 1)]
  rw [Nat.add_zero (n + 1)]
  rw [Nat.add_zero (n + 1)]
  rw [Nat.add_zero (n + 1)]
  rw [Nat.add_zero (n + 1)]
  rw [Nat.add_zero (n + 1)]
  rw [Nat.add_zero (n + 1)]
  rw [Nat.add_zero (n + 1)]
  rw [Nat.add_zero (n + 1)]
  rw [Nat.add_zero (n + 1)]
  rw [Nat.add_zero (n + 1)]
  rw [Nat.add_zero (n + 1)]
  rw [Nat.add_zero (n + 1)]
  rw [Nat.add_zero (n + 1)]
  rw [Nat.add_zero (n + 1)]
  rw [Nat.add_zero (n + 1)]
  rw [Nat.add_zero (n + 1)]
  rw [Nat.add_zero (n + 1)]
  rw [Nat.add_zero (n + 1)]
  rw [Nat.add_zero (n + 1)]
  rw [Nat.add_zero (n + 1)]
  rw [Nat.add_zero (n + 1)]
  rw [Nat.add_zero (n + 1)]
  rw [Nat.add_zero (n + 1)]
  rw [Nat.add_zero (n + 1)]
  rw [Nat.add_zero (n + 1)]
  rw [Nat.add_zero (n + 1)]
  refine AWP.reg ?_
  refine DerQ.run (True ∧ ((256 : Int) ≠ (0 : Int)) ∧ True ∧ True) ⟨[.sl (u8s xs) (n) .any, U6, .sl [] 0 .nil, .row 0 0 (n + 1), .sc (.int .u32 (IntKind.wrap IntKind.u32 (Int.tdiv (sum xs) 256))), (I6 0), .sl [] 0 .cap0, .sl (u8s xs) (n) .any, .row 0 0 (n), .sl (u8s xs) (n) .any, .sc (.int .u32 (sum xs)), (I6 0), (B6 true), U6, U6, .row 0 0 (n), .sc (.int .u32 (sum xs)), .sc (.int .u32 (Int.tmod (sum xs) 256)), .sc (.int .u8 (b8 (Int.tmod (sum xs) 256))), .sl [.sc (.int .u8 (b8 (Int.tmod (sum xs) 256)))] 1 .nn, .row 0 0 (n + 1), .sc (.int .u32 (sum xs)), .sc (.int .u32 (IntKind.wrap IntKind.u32 (Int.tdiv (sum xs) 256))), .undef], [⟨u8s xs ++ u8s [b8 (Int.tmod (sum xs) 256)], 1, .grown⟩]⟩ (by kernel_rfl) ⟨trivial, (by omega), trivial, trivial⟩ ?_
  rw [Nat.add_zero (n + 1)]
  rw [Nat.add_zero (n + 1)]
  rw [Nat.add_zero (n + 1)]
  rw [Nat.add_zero (n + 1)]
  rw [Nat.add_zero (n + 1)]
  rw [Nat.add_zero (n + 1)]
  rw [Nat.add_zero (n + 1)]
  rw [Nat.add_zero (n + 1)]
  rw [Nat.add_zero (n + 1)]
  rw [Nat.add_zero (n + 1)]
  rw [Nat.add_zero (n + 1)]
  rw [Nat.add_zero (n + 1)]
  rw [Nat.add_zero (n + 1)]
  rw [Nat.add_zero (n + 1)]
  rw [Nat.add_zero (n + 1)]
  rw [Nat.add_zero (n + 1)]
  rw [Nat.add_zero (n + 1)]
  rw [Nat.add_zero (n + 1)]
  rw [Nat.add_zero (n + 1)]
  rw [Nat.add_zero (n + 1)]
  rw [Nat.add_zero (n + 1)]
  rw [Nat.add_zero (n + 1)]
  rw [Nat.add_zero (n + 1)]
  rw [Nat.add_zero (n + 1)]
  rw [Nat.add_zero (n + 1)]
  rw [Nat.add_zero (n + 1)]
  rw [Nat.add_zero (n + 1)]
  rw [Nat.add_zero (n + 1)]
  rw [Nat.add_zero (n + 1)]
  rw [Nat.add_zero (n + 1)]
  refine AWP.reg ?_
  refine DerQ.run (TT 3) ⟨[.sl (u8s xs) (n) .any, U6, .sl [] 0 .nil, .row 0 0 (n + 1), .sc (.int .u32 (IntKind.wrap IntKind.u32 (Int.tdiv (sum xs) 256))), (I6 1), .sl [] 0 .cap0, .sl (u8s xs) (n) .any, .row 0 0 (n), .sl (u8s xs) (n) .any, .sc (.int .u32 (sum xs)), (I6 0), (B6 true), (I6 0), (I6 1), .row 0 0 (n), .sc (.int .u32 (sum xs)), .sc (.int .u32 (Int.tmod (sum xs) 256)), .sc (.int .u8 (b8 (Int.tmod (sum xs) 256))), .sl [.sc (.int .u8 (b8 (Int.tmod (sum xs) 256)))] 1 .nn, .row 0 0 (n + 1), .sc (.int .u32 (sum xs)), .sc (.int .u32 (IntKind.wrap IntKind.u32 (Int.tdiv (sum xs) 256))), .undef], [⟨u8s xs ++ u8s [b8 (Int.tmod (sum xs) 256)], 1, .grown⟩]⟩ (by kernel_rfl) (tt 3) ?_
  refine AWP.turn ?_
  refine AWP.seq (SQ ?_)
  refine DerQ.run (TT 2) ⟨[.sl (u8s xs) (n) .any, U6, .sl [] 0 .nil, .row 0 0 (n + 1), .sc (.int .u32 (IntKind.wrap IntKind.u32 (Int.tdiv (sum xs) 256))), (I6 1), .sl [] 0 .cap0, .sl (u8s xs) (n) .any, .row 0 0 (n), .sl (u8s xs) (n) .any, .sc (.int .u32 (sum xs)), (I6 1), (B6 true), (I6 0), (I6 1), .row 0 0 (n), .sc (.int .u32 (sum xs)), .sc (.int .u32 (Int.tmod (sum xs) 256)), .sc (.int .u8 (b8 (Int.tmod (sum xs) 256))), .sl [.sc (.int .u8 (b8 (Int.tmod (sum xs) 256)))] 1 .nn, .row 0 0 (n + 1), .sc (.int .u32 (sum xs)), .sc (.int .u32 (IntKind.wrap IntKind.u32 (Int.tdiv (sum xs) 256))), .undef], [⟨u8s xs ++ u8s [b8 (Int.tmod (sum xs) 256)], 1, .grown⟩]⟩ (by kernel_rfl) (tt 2) ?_
  rw [Nat.add_zero (n + 1)]
  rw [Nat.add_zero (n + 1)]
  rw [Nat.add_zero (n + 1)]
  rw [Nat.add_zero (n + 1)]
  rw [Nat.add_zero (n + 1)]
  rw [Nat.add_zero (n + 1)]
  rw [Nat.add_zero (n + 1)]
  rw [Nat.add_zero (n + 1)]
  rw [Nat.add_zero (n + 1)]
  rw [Nat.add_zero (n + 1)]
  rw [Nat.add_zero (n + 1)]
  rw [Nat.add_zero (n + 1)]
  rw [Nat.add_zero (n + 1)]
  rw [Nat.add_zero (n + 1)]
  rw [Nat.add_zero (n + 1)]
  rw [Nat.add_zero (n + 1)]
  rw [Nat.add_zero (n + 1)]
  rw [Nat.add_zero (n + 1)]
  rw [Nat.add_zero (n + 1)]
  rw [Nat.add_zero (n + 1)]
  rw [Nat.add_zero (n + 1)]
  rw [Nat.add_zero (n + 1)]
  rw [Nat.add_zero (n + 1)]
  rw [Nat.add_zero (n + 1)]
  rw [Nat.add_zero (n + 1)]
  rw [Nat.add_zero (n + 1)]
  rw [Nat.add_zero (n + 1)]
  rw [Nat.add_zero (n + 1)]
  rw [Nat.add_zero (n + 1)]
  rw [Nat.add_zero (n + 1)]
  refine CN true (fun _ => ?_) (fun h => nomatch h)
  refine AWP.skip (AWP.seq (AWP.block (SQ ?_)))
  refine DerQ.run (True ∧ True ∧ ((256 : Int) ≠ (0 : Int)) ∧ True ∧ True ∧ ((List.length (u8s [b8 (Int.tmod (IntKind.wrap IntKind.u32 (Int.tdiv (sum xs) 256)) 256)]) = 1) ∧ (((1 : Nat) = (1 : Nat)) ∧ (((n + 1) * 1 = List.length (u8s xs ++ u8s [b8 (Int.tmod (sum xs) 256)])) ∧ ((n + 1 + 1 ≤ 1073741824) ∧ ((dataAll (u8s xs ++ u8s [b8 (Int.tmod (sum xs) 256)] ++ u8s [b8 (Int.tmod (IntKind.wrap IntKind.u32 (Int.tdiv (sum xs) 256)) 256)]) = true) ∧ (∀ (i : Nat), i < List.length (u8s [b8 (Int.tmod (IntKind.wrap IntKind.u32 (Int.tdiv (sum xs) 256)) 256)]) → AVal.one (List.getD (u8s [b8 (Int.tmod (IntKind.wrap IntKind.u32 (Int.tdiv (sum xs) 256)) 256)]) i AVal.undef) = true)))))) ∧ True ∧ True) ⟨[.sl (u8s xs) (n) .any, U6, .sl [] 0 .nil, .row 0 0 (n + 1 + 1), .sc (.int .u32 (IntKind.wrap IntKind.u32 (Int.tdiv (sum xs) 256))), (I6 1), .sl [] 0 .cap0, .sl (u8s xs) (n) .any, .row 0 0 (n), .sl (u8s xs) (n) .any, .sc (.int .u32 (sum xs)), (I6 1), (B6 true), (I6 0), (I6 1), .row 0 0 (n + 1), .sc (.int .u32 (IntKind.wrap IntKind.u32 (Int.tdiv (sum xs) 256))), .sc (.int .u32 (Int.tmod (IntKind.wrap IntKind.u32 (Int.tdiv (sum xs) 256)) 256)), .sc (.int .u8 (b8 (Int.tmod (IntKind.wrap IntKind.u32 (Int.tdiv (sum xs) 256)) 256))), .sl [.sc (.int .u8 (b8 (Int.tmod (IntKind.wrap IntKind.u32 (Int.tdiv (sum xs) 256)) 256)))] 1 .nn, .row 0 0 (n + 1 + 1), .sc (.int .u32 (sum xs)), .sc (.int .u32 (IntKind.wrap IntKind.u32 (Int.tdiv (sum xs) 256))), .undef], [⟨u8s xs ++ u8s [b8 (Int.tmod (sum xs) 256)] ++ u8s [b8 (Int.tmod (IntKind.wrap IntKind.u32 (Int.tdiv (sum xs) 256)) 256)], 1, .grown⟩]⟩ (by kernel_rfl) ⟨trivial, trivial, (by omega), trivial, trivial, ⟨(by rfl), ⟨(by omega), ⟨(by (simp <;> omega)), ⟨(by omega), ⟨(by (simp only [dataAll_append, dataAll_u8s, dataAll, AVal.data, Bool.and_true])), (by exact u8s_one _)⟩⟩⟩⟩⟩, trivial, trivial⟩ ?_
  rw [Nat.add_zero (n + 2)]
  rw [Nat.add_zero (n + 2)]
  rw [Nat.add_zero (n + 2)]
  rw [Nat.add_zero (n + 2)]
  rw [Nat.add_zero (n + 2)]
  rw [Nat.add_zero (n + 2)]
  rw [Nat.add_zero (n + 2)]
  rw [Nat.add_zero (n + 2)]
  rw [Nat.add_zero (n + 2)]
  rw [Nat.add_zero (n + 2)]
  rw [Nat.add_zero (n + 2)]
  rw [Nat.add_zero (n + 2)]
  rw [Nat.add_zero (n + 2)]
  rw [Nat.add_zero (n + 2)]
  rw [Nat.add_zero (n + 2)]
  rw [Nat.add_zero (n + 2)]
  rw [Nat.add_zero (n + 2)]
  rw [Nat.add_zero (n + 2)]
  rw [Nat.add_zero (n + 2)]
  rw [Nat.add_zero (n + 2)]
  rw [Nat.add_zero (n + 2)]
  rw [Nat.add_zero (n + 2)]
  rw [Nat.add_zero (n + 2)]
  rw [Nat.add_zero (n + 2)]
  rw [Nat.add_zero (n + 2)]
  rw [Nat.add_zero (n + 2)]
  rw [Nat.add_zero (n + 2)]
  rw [Nat.add_zero (n + 2)]
  rw [Nat.add_zero (n + 2)]
  rw [Nat.add_zero (n + 2)]
  refine AWP.reg ?_
  refine DerQ.run (True ∧ ((256 : Int) ≠ (0 : Int)) ∧ True ∧ True) ⟨[.sl (u8s xs) (n) .any, U6, .sl [] 0 .nil, .row 0 0 (n + 2), .sc (.int .u32 (IntKind.wrap IntKind.u32 (Int.tdiv (IntKind.wrap IntKind.u32 (Int.tdiv (sum xs) 256)) 256))), (I6 1), .sl [] 0 .cap0, .sl (u8s xs) (n) .any, .row 0 0 (n), .sl (u8s xs) (n) .any, .sc (.int .u32 (sum xs)), (I6 1), (B6 true), (I6 0), (I6 1), .row 0 0 (n + 1), .sc (.int .u32 (IntKind.wrap IntKind.u32 (Int.tdiv (sum xs) 256))), .sc (.int .u32 (Int.tmod (IntKind.wrap IntKind.u32 (Int.tdiv (sum xs) 256)) 256)), .sc (.int .u8 (b8 (Int.tmod (IntKind.wrap IntKind.u32 (Int.tdiv (sum xs) 256)) 256))), .sl [.sc (.int .u8 (b8 (Int.tmod (IntKind.wrap IntKind.u32 (Int.tdiv (sum xs) 256)) 256)))] 1 .nn, .row 0 0 (n + 2), .sc (.int .u32 (IntKind.wrap IntKind.u32 (Int.tdiv (sum xs) 256))), .sc (.int .u32 (IntKind.wrap IntKind.u32 (Int.tdiv (IntKind.wrap IntKind.u32 (Int.tdiv (sum xs) 256)) 256))), .undef], [⟨u8s xs ++ u8s [b8 (Int.tmod (sum xs) 256)] ++ u8s [b8 (Int.tmod (IntKind.wrap IntKind.u32 (Int.tdiv (sum xs) 256)) 256)], 1, .grown⟩]⟩ (by kernel_rfl) ⟨trivial, (by omega), trivial, trivial⟩ ?_
  rw [Nat.add_zero (n + 2)]
  rw [Nat.add_zero (n + 2)]
  rw [Nat.add_zero (n + 2)]
  rw [Nat.add_zero (n + 2)]
  rw [Nat.add_zero (n + 2)]
  rw [Nat.add_zero (n + 2)]
  rw [Nat.add_zero (n + 2)]
  rw [Nat.add_zero (n + 2)]
  rw [Nat.add_zero (n + 2)]
  rw [Nat.add_zero (n + 2)]
  rw [Nat.add_zero (n + 2)]
  rw [Nat.add_zero (n + 2)]
  rw [Nat.add_zero (n + 2)]
  rw [Nat.add_zero (n + 2)]
  rw [Nat.add_zero (n + 2)]
  rw [Nat.add_zero (n + 2)]
  rw [Nat.add_zero (n + 2)]
  rw [Nat.add_zero (n + 2)]
  rw [Nat.add_zero (n + 2)]
  rw [Nat.add_zero (n + 2)]
  rw [Nat.add_zero (n + 2)]
  rw [Nat.add_zero (n + 2)]
  rw [Nat.add_zero (n + 2)]
  rw [Nat.add_zero (n + 2)]
  rw [Nat.add_zero (n + 2)]
  rw [Nat.add_zero (n + 2)]
  rw [Nat.add_zero (n + 2)]
  rw [Nat.add_zero (n + 2)]
  rw [Nat.add_zero (n + 2)]
  rw [Nat.add_zero (n + 2)]
  refine AWP.reg ?_
  refine DerQ.run (TT 3) ⟨[.sl (u8s xs) (n) .any, U6, .sl [] 0 .nil, .row 0 0 (n + 2), .sc (.int .u32 (IntKind.wrap IntKind.u32 (Int.tdiv (IntKind.wrap IntKind.u32 (Int.tdiv (sum xs) 256)) 256))), (I6 2), .sl [] 0 .cap0, .sl (u8s xs) (n) .any, .row 0 0 (n), .sl (u8s xs) (n) .any, .sc (.int .u32 (sum xs)), (I6 1), (B6 true), (I6 1), (I6 2), .row 0 0 (n + 1), .sc (.int .u32 (IntKind.wrap IntKind.u32 (Int.tdiv (sum xs) 256))), .sc (.int .u32 (Int.tmod (IntKind.wrap IntKind.u32 (Int.tdiv (sum xs) 256)) 256)), .sc (.int .u8 (b8 (Int.tmod (IntKind.wrap IntKind.u32 (Int.tdiv (sum xs) 256)) 256))), .sl [.sc (.int .u8 (b8 (Int.tmod (IntKind.wrap IntKind.u32 (Int.tdiv (sum xs) 256)) 256)))] 1 .nn, .row 0 0 (n + 2), .sc (.int .u32 (IntKind.wrap IntKind.u32 (Int.tdiv (sum xs) 256))), .sc (.int .u32 (IntKind.wrap IntKind.u32 (Int.tdiv (IntKind.wrap IntKind.u32 (Int.tdiv (sum xs) 256)) 256))), .undef], [⟨u8s xs ++ u8s [b8 (Int.tmod (sum xs) 256)] ++ u8s [b8 (Int.tmod (IntKind.wrap IntKind.u32 (Int.tdiv (sum xs) 256)) 256)], 1, .grown⟩]⟩ (by kernel_rfl) (tt 3) ?_
  refine AWP.turn ?_
  refine AWP.seq (SQ ?_)
  refine DerQ.run (TT 2) ⟨[.sl (u8s xs) (n) .any, U6, .sl [] 0 .nil, .row 0 0 (n + 2), .sc (.int .u32 (IntKind.wrap IntKind.u32 (Int.tdiv (IntKind.wrap IntKind.u32 (Int.tdiv (sum xs) 256)) 256))), (I6 2), .sl [] 0 .cap0, .sl (u8s xs) (n) .any, .row 0 0 (n), .sl (u8s xs) (n) .any, .sc (.int .u32 (sum xs)), (I6 2), (B6 true), (I6 1), (I6 2), .row 0 0 (n + 1), .sc (.int .u32 (IntKind.wrap IntKind.u32 (Int.tdiv (sum xs) 256))), .sc (.int .u32 (Int.tmod (IntKind.wrap IntKind.u32 (Int.tdiv (sum xs) 256)) 256)), .sc (.int .u8 (b8 (Int.tmod (IntKind.wrap IntKind.u32 (Int.tdiv (sum xs) 256)) 256))), .sl [.sc (.int .u8 (b8 (Int.tmod (IntKind.wrap IntKind.u32 (Int.tdiv (sum xs) 256)) 256)))] 1 .nn, .row 0 0 (n + 2), .sc (.int .u32 (IntKind.wrap IntKind.u32 (Int.tdiv (sum xs) 256))), .sc (.int .u32 (IntKind.wrap IntKind.u32 (Int.tdiv (IntKind.wrap IntKind.u32 (Int.tdiv (sum xs) 256)) 256))), .undef], [⟨u8s xs ++ u8s [b8 (Int.tmod (sum xs) 256)] ++ u8s [b8 (Int.tmod (IntKind.wrap IntKind.u32 (Int.tdiv (sum xs) 256)) 256)], 1, .grown⟩]⟩ (by kernel_rfl) (tt 2) ?_
  rw [Nat.add_zero (n + 2)]
  rw [Nat.add_zero (n + 2)]
  rw [Nat.add_zero (n + 2)]
  rw [Nat.add_zero (n + 2)]
  rw [Nat.add_zero (n + 2)]
  rw [Nat.add_zero (n + 2)]
  rw [Nat.add_zero (n + 2)]
  rw [Nat.add_zero (n + 2)]
  rw [Nat.add_zero (n + 2)]
  rw [Nat.add_zero (n + 2)]
  rw [Nat.add_zero (n + 2)]
  rw [Nat.add_zero (n + 2)]
  rw [Nat.add_zero (n + 2)]
  rw [Nat.add_zero (n + 2)]
  rw [Nat.add_zero (n + 2)]
  rw [Nat.add_zero (n + 2)]
  rw [Nat.add_zero (n + 2)]
  rw [Nat.add_zero (n + 2)]
  rw [Nat.add_zero (n + 2)]
  rw [Nat.add_zero (n + 2)]
  rw [Nat.add_zero (n + 2)]
  rw [Nat.add_zero (n + 2)]
  rw [Nat.add_zero (n + 2)]
  rw [Nat.add_zero (n + 2)]
  rw [Nat.add_zero (n + 2)]
  rw [Nat.add_zero (n + 2)]
  rw [Nat.add_zero (n + 2)]
  rw [Nat.add_zero (n + 2)]
  rw [Nat.add_zero (n + 2)]
  rw [Nat.add_zero (n + 2)]
  refine CN true (fun _ => ?_) (fun h => nomatch h)
  refine AWP.skip (AWP.seq (AWP.block (SQ ?_)))
  refine DerQ.run (True ∧ True ∧ ((256 : Int) ≠ (0 : Int)) ∧ True ∧ True ∧ ((List.length (u8s [b8 (Int.tmod (IntKind.wrap IntKind.u32 (Int.tdiv (IntKind.wrap IntKind.u32 (Int.tdiv (sum xs) 256)) 256)) 256)]) = 1) ∧ (((1 : Nat) = (1 : Nat)) ∧ (((n + 2) * 1 = List.length (u8s xs ++ u8s [b8 (Int.tmod (sum xs) 256)] ++ u8s [b8 (Int.tmod (IntKind.wrap IntKind.u32 (Int.tdiv (sum xs) 256)) 256)])) ∧ ((n + 2 + 1 ≤ 1073741824) ∧ ((dataAll (u8s xs ++ u8s [b8 (Int.tmod (sum xs) 256)] ++ u8s [b8 (Int.tmod (IntKind.wrap IntKind.u32 (Int.tdiv (sum xs) 256)) 256)] ++ u8s [b8 (Int.tmod (IntKind.wrap IntKind.u32 (Int.tdiv (IntKind.wrap IntKind.u32 (Int.tdiv (sum xs) 256)) 256)) 256)]) = true) ∧ (∀ (i : Nat), i < List.length (u8s [b8 (Int.tmod (IntKind.wrap IntKind.u32 (Int.tdiv (IntKind.wrap IntKind.u32 (Int.tdiv (sum xs) 256)) 256)) 256)]) → AVal.one (List.getD (u8s [b8 (Int.tmod (IntKind.wrap IntKind.u32 (Int.tdiv (IntKind.wrap IntKind.u32 (Int.tdiv (sum xs) 256)) 256)) 256)]) i AVal.undef) = true)))))) ∧ True ∧ True) ⟨[.sl (u8s xs) (n) .any, U6, .sl [] 0 .nil, .row 0 0 (n + 2 + 1), .sc (.int .u32 (IntKind.wrap IntKind.u32 (Int.tdiv (IntKind.wrap IntKind.u32 (Int.tdiv (sum xs) 256)) 256))), (I6 2), .sl [] 0 .cap0, .sl (u8s xs) (n) .any, .row 0 0 (n), .sl (u8s xs) (n) .any, .sc (.int .u32 (sum xs)), (I6 2), (B6 true), (I6 1), (I6 2), .row 0 0 (n + 2), .sc (.int .u32 (IntKind.wrap IntKind.u32 (Int.tdiv (IntKind.wrap IntKind.u32 (Int.tdiv (sum xs) 256)) 256))), .sc (.int .u32 (Int.tmod (IntKind.wrap IntKind.u32 (Int.tdiv (IntKind.wrap IntKind.u32 (Int.tdiv (sum xs) 256)) 256)) 256)), .sc (.int .u8 (b8 (Int.tmod (IntKind.wrap IntKind.u32 (Int.tdiv (IntKind.wrap IntKind.u32 (Int.tdiv (sum xs) 256)) 256)) 256))), .sl [.sc (.int .u8 (b8 (Int.tmod (IntKind.wrap IntKind.u32 (Int.tdiv (IntKind.wrap IntKind.u32 (Int.tdiv (sum xs) 256)) 256)) 256)))] 1 .nn, .row 0 0 (n + 2 + 1), .sc (.int .u32 (IntKind.wrap IntKind.u32 (Int.tdiv (sum xs) 256))), .sc (.int .u32 (IntKind.wrap IntKind.u32 (Int.tdiv (IntKind.wrap IntKind.u32 (Int.tdiv (sum xs) 256)) 256))), .undef], [⟨u8s xs ++ u8s [b8 (Int.tmod (sum xs) 256)] ++ u8s [b8 (Int.tmod (IntKind.wrap IntKind.u32 (Int.tdiv (sum xs) 256)) 256)] ++ u8s [b8 (Int.tmod (IntKind.wrap IntKind.u32 (Int.tdiv (IntKind.wrap IntKind.u32 (Int.tdiv (sum xs) 256)) 256)) 256)], 1, .grown⟩]⟩ (by kernel_rfl) ⟨trivial, trivial, (by omega), trivial, trivial, ⟨(by rfl), ⟨(by omega), ⟨(by (simp <;> omega)), ⟨(by omega), ⟨(by (simp only [dataAll_append, dataAll_u8s, dataAll, AVal.data, Bool.and_true])), (by exact u8s_one _)⟩⟩⟩⟩⟩, trivial, trivial⟩ ?_
  rw [Nat.add_zero (n + 3)]
  rw [Nat.add_zero (n + 3)]
  rw [Nat.add_zero (n + 3)]
  rw [Nat.add_zero (n + 3)]
  rw [Nat.add_zero (n + 3)]
  rw [Nat.add_zero (n + 3)]
  rw [Nat.add_zero (n + 3)]
  rw [Nat.add_zero (n + 3)]
  rw [Nat.add_zero (n + 3)]
  rw [Nat.add_zero (n + 3)]
  rw [Nat.add_zero (n + 3)]
  rw [Nat.add_zero (n + 3)]
  rw [Nat.add_zero (n + 3)]
  rw [Nat.add_zero (n + 3)]
  rw [Nat.add_zero (n + 3)]
  rw [Nat.add_zero (n + 3)]
  rw [Nat.add_zero (n + 3)]
  rw [Nat.add_zero (n + 3)]
  rw [Nat.add_zero (n + 3)]
  rw [Nat.add_zero (n + 3)]
  rw [Nat.add_zero (n + 3)]
  rw [Nat.add_zero (n + 3)]
  rw [Nat.add_zero (n + 3)]
  rw [Nat.add_zero (n + 3)]
  rw [Nat.add_zero (n + 3)]
  rw [Nat.add_zero (n + 3)]
  rw [Nat.add_zero (n + 3)]
  rw [Nat.add_zero (n + 3)]
  rw [Nat.add_zero (n + 3)]
  rw [Nat.add_zero (n + 3)]
  refine AWP.reg ?_
  refine DerQ.run (True ∧ ((256 : Int) ≠ (0 : Int)) ∧ True ∧ True) ⟨[.sl (u8s xs) (n) .any, U6, .sl [] 0 .nil, .row 0 0 (n + 3), .sc (.int .u32 (IntKind.wrap IntKind.u32 (Int.tdiv (IntKind.wrap IntKind.u32 (Int.tdiv (IntKind.wrap IntKind.u32 (Int.tdiv (sum xs) 256)) 256)) 256))), (I6 2), .sl [] 0 .cap0, .sl (u8s xs) (n) .any, .row 0 0 (n), .sl (u8s xs) (n) .any, .sc (.int .u32 (sum xs)), (I6 2), (B6 true), (I6 1), (I6 2), .row 0 0 (n + 2), .sc (.int .u32 (IntKind.wrap IntKind.u32 (Int.tdiv (IntKind.wrap IntKind.u32 (Int.tdiv (sum xs) 256)) 256))), .sc (.int .u32 (Int.tmod (IntKind.wrap IntKind.u32 (Int.tdiv (IntKind.wrap IntKind.u32 (Int.tdiv (sum xs) 256)) 256)) 256)), .sc (.int .u8 (b8 (Int.tmod (IntKind.wrap IntKind.u32 (Int.tdiv (IntKind.wrap IntKind.u32 (Int.tdiv (sum xs) 256)) 256)) 256))), .sl [.sc (.int .u8 (b8 (Int.tmod (IntKind.wrap IntKind.u32 (Int.tdiv (IntKind.wrap IntKind.u32 (Int.tdiv (sum xs) 256)) 256)) 256)))] 1 .nn, .row 0 0 (n + 3), .sc (.int .u32 (IntKind.wrap IntKind.u32 (Int.tdiv (IntKind.wrap IntKind.u32 (Int.tdiv (sum xs) 256)) 256))), .sc (.int .u32 (IntKind.wrap IntKind.u32 (Int.tdiv (IntKind.wrap IntKind.u32 (Int.tdiv (IntKind.wrap IntKind.u32 (Int.tdiv (sum xs) 256)) 256)) 256))), .undef], [⟨u8s xs ++ u8s [b8 (Int.tmod (sum xs) 256)] ++ u8s [b8 (Int.tmod (IntKind.wrap IntKind.u32 (Int.tdiv (sum xs) 256)) 256)] ++ u8s [b8 (Int.tmod (IntKind.wrap IntKind.u32 (Int.tdiv (IntKind.wrap IntKind.u32 (Int.tdiv (sum xs) 256)) 256)) 256)], 1, .grown⟩]⟩ (by kernel_rfl) ⟨trivial, (by omega), trivial, trivial⟩ ?_
  rw [Nat.add_zero (n + 3)]
  rw [Nat.add_zero (n + 3)]
  rw [Nat.add_zero (n + 3)]
  rw [Nat.add_zero (n + 3)]
  rw [Nat.add_zero (n + 3)]
  rw [Nat.add_zero (n + 3)]
  rw [Nat.add_zero (n + 3)]
  rw [Nat.add_zero (n + 3)]
  rw [Nat.add_zero (n + 3)]
  rw [Nat.add_zero (n + 3)]
  rw [Nat.add_zero (n + 3)]
  rw [Nat.add_zero (n + 3)]
  rw [Nat.add_zero (n + 3)]
  rw [Nat.add_zero (n + 3)]
  rw [Nat.add_zero (n + 3)]
  rw [Nat.add_zero (n + 3)]
  rw [Nat.add_zero (n + 3)]
  rw [Nat.add_zero (n + 3)]
  rw [Nat.add_zero (n + 3)]
  rw [Nat.add_zero (n + 3)]
  rw [Nat.add_zero (n + 3)]
  rw [Nat.add_zero (n + 3)]
  rw [Nat.add_zero (n + 3)]
  rw [Nat.add_zero (n + 3)]
  rw [Nat.add_zero (n + 3)]
  rw [Nat.add_zero (n + 3)]
  rw [Nat.add_zero (n + 3)]
  rw [Nat.add_zero (n + 3)]
  rw [Nat.add_zero (n + 3)]
  rw [Nat.add_zero (n + 3)]
  refine AWP.reg ?_
  refine DerQ.run (TT 3) ⟨[.sl (u8s xs) (n) .any, U6, .sl [] 0 .nil, .row 0 0 (n + 3), .sc (.int .u32 (IntKind.wrap IntKind.u32 (Int.tdiv (IntKind.wrap IntKind.u32 (Int.tdiv (IntKind.wrap IntKind.u32 (Int.tdiv (sum xs) 256)) 256)) 256))), (I6 3), .sl [] 0 .cap0, .sl (u8s xs) (n) .any, .row 0 0 (n), .sl (u8s xs) (n) .any, .sc (.int .u32 (sum xs)), (I6 2), (B6 true), (I6 2), (I6 3), .row 0 0 (n + 2), .sc (.int .u32 (IntKind.wrap IntKind.u32 (Int.tdiv (IntKind.wrap IntKind.u32 (Int.tdiv (sum xs) 256)) 256))), .sc (.int .u32 (Int.tmod (IntKind.wrap IntKind.u32 (Int.tdiv (IntKind.wrap IntKind.u32 (Int.tdiv (sum xs) 256)) 256)) 256)), .sc (.int .u8 (b8 (Int.tmod (IntKind.wrap IntKind.u32 (Int.tdiv (IntKind.wrap IntKind.u32 (Int.tdiv (sum xs) 256)) 256)) 256))), .sl [.sc (.int .u8 (b8 (Int.tmod (IntKind.wrap IntKind.u32 (Int.tdiv (IntKind.wrap IntKind.u32 (Int.tdiv (sum xs) 256)) 256)) 256)))] 1 .nn, .row 0 0 (n + 3), .sc (.int .u32 (IntKind.wrap IntKind.u32 (Int.tdiv (IntKind.wrap IntKind.u32 (Int.tdiv (sum xs) 256)) 256))), .sc (.int .u32 (IntKind.wrap IntKind.u32 (Int.tdiv (IntKind.wrap IntKind.u32 (Int.tdiv (IntKind.wrap IntKind.u32 (Int.tdiv (sum xs) 256)) 256)) 256))), .undef], [⟨u8s xs ++ u8s [b8 (Int.tmod (sum xs) 256)] ++ u8s [b8 (Int.tmod (IntKind.wrap IntKind.u32 (Int.tdiv (sum xs) 256)) 256)] ++ u8s [b8 (Int.tmod (IntKind.wrap IntKind.u32 (Int.tdiv (IntKind.wrap IntKind.u32 (Int.tdiv (sum xs) 256)) 256)) 256)], 1, .grown⟩]⟩ (by kernel_rfl) (tt 3) ?_
  refine AWP.turn ?_
  refine AWP.seq (SQ ?_)
  refine DerQ.run (TT 2) ⟨[.sl (u8s xs) (n) .any, U6, .sl [] 0 .nil, .row 0 0 (n + 3), .sc (.int .u32 (IntKind.wrap IntKind.u32 (Int.tdiv (IntKind.wrap IntKind.u32 (Int.tdiv (IntKind.wrap IntKind.u32 (Int.tdiv (sum xs) 256)) 256)) 256))), (I6 3), .sl [] 0 .cap0, .sl (u8s xs) (n) .any, .row 0 0 (n), .sl (u8s xs) (n) .any, .sc (.int .u32 (sum xs)), (I6 3), (B6 true), (I6 2), (I6 3), .row 0 0 (n + 2), .sc (.int .u32 (IntKind.wrap IntKind.u32 (Int.tdiv (IntKind.wrap IntKind.u32 (Int.tdiv (sum xs) 256)) 256))), .sc (.int .u32 (Int.tmod (IntKind.wrap IntKind.u32 (Int.tdiv (IntKind.wrap IntKind.u32 (Int.tdiv (sum xs) 256)) 256)) 256)), .sc (.int .u8 (b8 (Int.tmod (IntKind.wrap IntKind.u32 (Int.tdiv (IntKind.wrap IntKind.u32 (Int.tdiv (sum xs) 256)) 256)) 256))), .sl [.sc (.int .u8 (b8 (Int.tmod (IntKind.wrap IntKind.u32 (Int.tdiv (IntKind.wrap IntKind.u32 (Int.tdiv (sum xs) 256)) 256)) 256)))] 1 .nn, .row 0 0 (n + 3), .sc (.int .u32 (IntKind.wrap IntKind.u32 (Int.tdiv (IntKind.wrap IntKind.u32 (Int.tdiv (sum xs) 256)) 256))), .sc (.int .u32 (IntKind.wrap IntKind.u32 (Int.tdiv (IntKind.wrap IntKind.u32 (Int.tdiv (IntKind.wrap IntKind.u32 (Int.tdiv (sum xs) 256)) 256)) 256))), .undef], [⟨u8s xs ++ u8s [b8 (Int.tmod (sum xs) 256)] ++ u8s [b8 (Int.tmod (IntKind.wrap IntKind.u32 (Int.tdiv (sum xs) 256)) 256)] ++ u8s [b8 (Int.tmod (IntKind.wrap IntKind.u32 (Int.tdiv (IntKind.wrap IntKind.u32 (Int.tdiv (sum xs) 256)) 256)) 256)], 1, .grown⟩]⟩ (by kernel_rfl) (tt 2) ?_
  rw [Nat.add_zero (n + 3)]
  rw [Nat.add_zero (n + 3)]
  rw [Nat.add_zero (n + 3)]
  rw [Nat.add_zero (n + 3)]
  rw [Nat.add_zero (n + 3)]
  rw [Nat.add_zero (n + 3)]
  rw [Nat.add_zero (n + 3)]
  rw [Nat.add_zero (n + 3)]
  rw [Nat.add_zero (n + 3)]
  rw [Nat.add_zero (n + 3)]
  rw [Nat.add_zero (n + 3)]
  rw [Nat.add_zero (n + 3)]
  rw [Nat.add_zero (n + 3)]
  rw [Nat.add_zero (n + 3)]
  rw [Nat.add_zero (n + 3)]
  rw [Nat.add_zero (n + 3)]
  rw [Nat.add_zero (n + 3)]
  rw [Nat.add_zero (n + 3)]
  rw [Nat.add_zero (n + 3)]
  rw [Nat.add_zero (n + 3)]
  rw [Nat.add_zero (n + 3)]
  rw [Nat.add_zero (n + 3)]
  rw [Nat.add_zero (n + 3)]
  rw [Nat.add_zero (n + 3)]
  rw [Nat.add_zero (n + 3)]
  rw [Nat.add_zero (n + 3)]
  rw [Nat.add_zero (n + 3)]
  rw [Nat.add_zero (n + 3)]
  rw [Nat.add_zero (n + 3)]
  rw [Nat.add_zero (n + 3)]
  refine CN true (fun _ => ?_) (fun h => nomatch h)
  refine AWP.skip (AWP.seq (AWP.block (SQ ?_)))
  refine DerQ.run (True ∧ True ∧ ((256 : Int) ≠ (0 : Int)) ∧ True ∧ True ∧ ((List.length (u8s [b8 (Int.tmod (IntKind.wrap IntKind.u32 (Int.tdiv (IntKind.wrap IntKind.u32 (Int.tdiv (IntKind.wrap IntKind.u32 (Int.tdiv (sum xs) 256)) 256)) 256)) 256)]) = 1) ∧ (((1 : Nat) = (1 : Nat)) ∧ (((n + 3) * 1 = List.length (u8s xs ++ u8s [b8 (Int.tmod (sum xs) 256)] ++ u8s [b8 (Int.tmod (IntKind.wrap IntKind.u32 (Int.tdiv (sum xs) 256)) 256)] ++ u8s [b8 (Int.tmod (IntKind.wrap IntKind.u32 (Int.tdiv (IntKind.wrap IntKind.u32 (Int.tdiv (sum xs) 256)) 256)) 256)])) ∧ ((n + 3 + 1 ≤ 1073741824) ∧ ((dataAll (u8s xs ++ u8s [b8 (Int.tmod (sum xs) 256)] ++ u8s [b8 (Int.tmod (IntKind.wrap IntKind.u32 (Int.tdiv (sum xs) 256)) 256)] ++ u8s [b8 (Int.tmod (IntKind.wrap IntKind.u32 (Int.tdiv (IntKind.wrap IntKind.u32 (Int.tdiv (sum xs) 256)) 256)) 256)] ++ u8s [b8 (Int.tmod (IntKind.wrap IntKind.u32 (Int.tdiv (IntKind.wrap IntKind.u32 (Int.tdiv (IntKind.wrap IntKind.u32 (Int.tdiv (sum xs) 256)) 256)) 256)) 256)]) = true) ∧ (∀ (i : Nat), i < List.length (u8s [b8 (Int.tmod (IntKind.wrap IntKind.u32 (Int.tdiv (IntKind.wrap IntKind.u32 (Int.tdiv (IntKind.wrap IntKind.u32 (Int.tdiv (sum xs) 256)) 256)) 256)) 256)]) → AVal.one (List.getD (u8s [b8 (Int.tmod (IntKind.wrap IntKind.u32 (Int.tdiv (IntKind.wrap IntKind.u32 (Int.tdiv (IntKind.wrap IntKind.u32 (Int.tdiv (sum xs) 256)) 256)) 256)) 256)]) i AVal.undef) = true)))))) ∧ True ∧ True) ⟨[.sl (u8s xs) (n) .any, U6, .sl [] 0 .nil, .row 0 0 (n + 3 + 1), .sc (.int .u32 (IntKind.wrap IntKind.u32 (Int.tdiv (IntKind.wrap IntKind.u32 (Int.tdiv (IntKind.wrap IntKind.u32 (Int.tdiv (sum xs) 256)) 256)) 256))), (I6 3), .sl [] 0 .cap0, .sl (u8s xs) (n) .any, .row 0 0 (n), .sl (u8s xs) (n) .any, .sc (.int .u32 (sum xs)), (I6 3), (B6 true), (I6 2), (I6 3), .row 0 0 (n + 3), .sc (.int .u32 (IntKind.wrap IntKind.u32 (Int.tdiv (IntKind.wrap IntKind.u32 (Int.tdiv (IntKind.wrap IntKind.u32 (Int.tdiv (sum xs) 256)) 256)) 256))), .sc (.int .u32 (Int.tmod (IntKind.wrap IntKind.u32 (Int.tdiv (IntKind.wrap IntKind.u32 (Int.tdiv (IntKind.wrap IntKind.u32 (Int.tdiv (sum xs) 256)) 256)) 256)) 256)), .sc (.int .u8 (b8 (Int.tmod (IntKind.wrap IntKind.u32 (Int.tdiv (IntKind.wrap IntKind.u32 (Int.tdiv (IntKind.wrap IntKind.u32 (Int.tdiv (sum xs) 256)) 256)) 256)) 256))), .sl [.sc (.int .u8 (b8 (Int.tmod (IntKind.wrap IntKind.u32 (Int.tdiv (IntKind.wrap IntKind.u32 (Int.tdiv (IntKind.wrap IntKind.u32 (Int.tdiv (sum xs) 256)) 256)) 256)) 256)))] 1 .nn, .row 0 0 (n + 3 + 1), .sc (.int .u32 (IntKind.wrap IntKind.u32 (Int.tdiv (IntKind.wrap IntKind.u32 (Int.tdiv (sum xs) 256)) 256))), .sc (.int .u32 (IntKind.wrap IntKind.u32 (Int.tdiv (IntKind.wrap IntKind.u32 (Int.tdiv (IntKind.wrap IntKind.u32 (Int.tdiv (sum xs) 256)) 256)) 256))), .undef], [⟨u8s xs ++ u8s [b8 (Int.tmod (sum xs) 256)] ++ u8s [b8 (Int.tmod (IntKind.wrap IntKind.u32 (Int.tdiv (sum xs) 256)) 256)] ++ u8s [b8 (Int.tmod (IntKind.wrap IntKind.u32 (Int.tdiv (IntKind.wrap IntKind.u32 (Int.tdiv (sum xs) 256)) 256)) 256)] ++ u8s [b8 (Int.tmod (IntKind.wrap IntKind.u32 (Int.tdiv (IntKind.wrap IntKind.u32 (Int.tdiv (IntKind.wrap IntKind.u32 (Int.tdiv (sum xs) 256)) 256)) 256)) 256)], 1, .grown⟩]⟩ (by kernel_rfl) ⟨trivial, trivial, (by omega), trivial, trivial, ⟨(by rfl), ⟨(by omega), ⟨(by (simp <;> omega)), ⟨(by omega), ⟨(by (simp only [dataAll_append, dataAll_u8s, dataAll, AVal.data, Bool.and_true])), (by exact u8s_one _)⟩⟩⟩⟩⟩, trivial, trivial⟩ ?_
  rw [Nat.add_zero (n + 4)]
  rw [Nat.add_zero (n + 4)]
  rw [Nat.add_zero (n + 4)]
  rw [Nat.add_zero (n + 4)]
  rw [Nat.add_zero (n + 4)]
  rw [Nat.add_zero (n + 4)]
  rw [Nat.add_zero (n + 4)]
  rw [Nat.add_zero (n + 4)]
  rw [Nat.add_zero (n + 4)]
  rw [Nat.add_zero (n + 4)]
  rw [Nat.add_zero (n + 4)]
  rw [Nat.add_zero (n + 4)]
  rw [Nat.add_zero (n + 4)]
  rw [Nat.add_zero (n + 4)]
  rw [Nat.add_zero (n + 4)]
  rw [Nat.add_zero (n + 4)]
  rw [Nat.add_zero (n + 4)]
  rw [Nat.add_zero (n + 4)]
  rw [Nat.add_zero (n + 4)]
  rw [Nat.add_zero (n + 4)]
  rw [Nat.add_zero (n + 4)]
  rw [Nat.add_zero (n + 4)]
  rw [Nat.add_zero (n + 4)]
  rw [Nat.add_zero (n + 4)]
  rw [Nat.add_zero (n + 4)]
  rw [Nat.add_zero (n + 4)]
  rw [Nat.add_zero (n + 4)]
  rw [Nat.add_zero (n + 4)]
  rw [Nat.add_zero (n + 4)]
  rw [Nat.add_zero (n + 4)]
  refine AWP.reg ?_
  refine DerQ.run (True ∧ ((256 : Int) ≠ (0 : Int)) ∧ True ∧ True) ⟨[.sl (u8s xs) (n) .any, U6, .sl [] 0 .nil, .row 0 0 (n + 4), .sc (.int .u32 (IntKind.wrap IntKind.u32 (Int.tdiv (IntKind.wrap IntKind.u32 (Int.tdiv (IntKind.wrap IntKind.u32 (Int.tdiv (IntKind.wrap IntKind.u32 (Int.tdiv (sum xs) 256)) 256)) 256)) 256))), (I6 3), .sl [] 0 .cap0, .sl (u8s xs) (n) .any, .row 0 0 (n), .sl (u8s xs) (n) .any, .sc (.int .u32 (sum xs)), (I6 3), (B6 true), (I6 2), (I6 3), .row 0 0 (n + 3), .sc (.int .u32 (IntKind.wrap IntKind.u32 (Int.tdiv (IntKind.wrap IntKind.u32 (Int.tdiv (IntKind.wrap IntKind.u32 (Int.tdiv (sum xs) 256)) 256)) 256))), .sc (.int .u32 (Int.tmod (IntKind.wrap IntKind.u32 (Int.tdiv (IntKind.wrap IntKind.u32 (Int.tdiv (IntKind.wrap IntKind.u32 (Int.tdiv (sum xs) 256)) 256)) 256)) 256)), .sc (.int .u8 (b8 (Int.tmod (IntKind.wrap IntKind.u32 (Int.tdiv (IntKind.wrap IntKind.u32 (Int.tdiv (IntKind.wrap IntKind.u32 (Int.tdiv (sum xs) 256)) 256)) 256)) 256))), .sl [.sc (.int .u8 (b8 (Int.tmod (IntKind.wrap IntKind.u32 (Int.tdiv (IntKind.wrap IntKind.u32 (Int.tdiv (IntKind.wrap IntKind.u32 (Int.tdiv (sum xs) 256)) 256)) 256)) 256)))] 1 .nn, .row 0 0 (n + 4), .sc (.int .u32 (IntKind.wrap IntKind.u32 (Int.tdiv (IntKind.wrap IntKind.u32 (Int.tdiv (IntKind.wrap IntKind.u32 (Int.tdiv (sum xs) 256)) 256)) 256))), .sc (.int .u32 (IntKind.wrap IntKind.u32 (Int.tdiv (IntKind.wrap IntKind.u32 (Int.tdiv (IntKind.wrap IntKind.u32 (Int.tdiv (IntKind.wrap IntKind.u32 (Int.tdiv (sum xs) 256)) 256)) 256)) 256))), .undef], [⟨u8s xs ++ u8s [b8 (Int.tmod (sum xs) 256)] ++ u8s [b8 (Int.tmod (IntKind.wrap IntKind.u32 (Int.tdiv (sum xs) 256)) 256)] ++ u8s [b8 (Int.tmod (IntKind.wrap IntKind.u32 (Int.tdiv (IntKind.wrap IntKind.u32 (Int.tdiv (sum xs) 256)) 256)) 256)] ++ u8s [b8 (Int.tmod (IntKind.wrap IntKind.u32 (Int.tdiv (IntKind.wrap IntKind.u32 (Int.tdiv (IntKind.wrap IntKind.u32 (Int.tdiv (sum xs) 256)) 256)) 256)) 256)], 1, .grown⟩]⟩ (by kernel_rfl) ⟨trivial, (by omega), trivial, trivial⟩ ?_
  rw [Nat.add_zero (n + 4)]
  rw [Nat.add_zero (n + 4)]
  rw [Nat.add_zero (n + 4)]
  rw [Nat.add_zero (n + 4)]
  rw [Nat.add_zero (n + 4)]
  rw [Nat.add_zero (n + 4)]
  rw [Nat.add_zero (n + 4)]
  rw [Nat.add_zero (n + 4)]
  rw [Nat.add_zero (n + 4)]
  rw [Nat.add_zero (n + 4)]
  rw [Nat.add_zero (n + 4)]
  rw [Nat.add_zero (n + 4)]
  rw [Nat.add_zero (n + 4)]
  rw [Nat.add_zero (n + 4)]
  rw [Nat.add_zero (n + 4)]
  rw [Nat.add_zero (n + 4)]
  rw [Nat.add_zero (n + 4)]
  rw [Nat.add_zero (n + 4)]
  rw [Nat.add_zero (n + 4)]
  rw [Nat.add_zero (n + 4)]
  rw [Nat.add_zero (n + 4)]
  rw [Nat.add_zero (n + 4)]
  rw [Nat.add_zero (n + 4)]
  rw [Nat.add_zero (n + 4)]
  rw [Nat.add_zero (n + 4)]
  rw [Nat.add_zero (n + 4)]
  rw [Nat.add_zero (n + 4)]
  rw [Nat.add_zero (n + 4)]
  rw [Nat.add_zero (n + 4)]
  rw [Nat.add_zero (n + 4)]
  refine AWP.reg ?_
  refine DerQ.run (TT 3) ⟨[.sl (u8s xs) (n) .any, U6, .sl [] 0 .nil, .row 0 0 (n + 4), .sc (.int .u32 (IntKind.wrap IntKind.u32 (Int.tdiv (IntKind.wrap IntKind.u32 (Int.tdiv (IntKind.wrap IntKind.u32 (Int.tdiv (IntKind.wrap IntKind.u32 (Int.tdiv (sum xs) 256)) 256)) 256)) 256))), (I6 4), .sl [] 0 .cap0, .sl (u8s xs) (n) .any, .row 0 0 (n), .sl (u8s xs) (n) .any, .sc (.int .u32 (sum xs)), (I6 3), (B6 true), (I6 3), (I6 4), .row 0 0 (n + 3), .sc (.int .u32 (IntKind.wrap IntKind.u32 (Int.tdiv (IntKind.wrap IntKind.u32 (Int.tdiv (IntKind.wrap IntKind.u32 (Int.tdiv (sum xs) 256)) 256)) 256))), .sc (.int .u32 (Int.tmod (IntKind.wrap IntKind.u32 (Int.tdiv (IntKind.wrap IntKind.u32 (Int.tdiv (IntKind.wrap IntKind.u32 (Int.tdiv (sum xs) 256)) 256)) 256)) 256)), .sc (.int .u8 (b8 (Int.tmod (IntKind.wrap IntKind.u32 (Int.tdiv (IntKind.wrap IntKind.u32 (Int.tdiv (IntKind.wrap IntKind.u32 (Int.tdiv (sum xs) 256)) 256)) 256)) 256))), .sl [.sc (.int .u8 (b8 (Int.tmod (IntKind.wrap IntKind.u32 (Int.tdiv (IntKind.wrap IntKind.u32 (Int.tdiv (IntKind.wrap IntKind.u32 (Int.tdiv (sum xs) 256)) 256)) 256)) 256)))] 1 .nn, .row 0 0 (n + 4), .sc (.int .u32 (IntKind.wrap IntKind.u32 (Int.tdiv (IntKind.wrap IntKind.u32 (Int.tdiv (IntKind.wrap IntKind.u32 (Int.tdiv (sum xs) 256)) 256)) 256))), .sc (.int .u32 (IntKind.wrap IntKind.u32 (Int.tdiv (IntKind.wrap IntKind.u32 (Int.tdiv (IntKind.wrap IntKind.u32 (Int.tdiv (IntKind.wrap IntKind.u32 (Int.tdiv (sum xs) 256)) 256)) 256)) 256))), .undef], [⟨u8s xs ++ u8s [b8 (Int.tmod (sum xs) 256)] ++ u8s [b8 (Int.tmod (IntKind.wrap IntKind.u32 (Int.tdiv (sum xs) 256)) 256)] ++ u8s [b8 (Int.tmod (IntKind.wrap IntKind.u32 (Int.tdiv (IntKind.wrap IntKind.u32 (Int.tdiv (sum xs) 256)) 256)) 256)] ++ u8s [b8 (Int.tmod (IntKind.wrap IntKind.u32 (Int.tdiv (IntKind.wrap IntKind.u32 (Int.tdiv (IntKind.wrap IntKind.u32 (Int.tdiv (sum xs) 256)) 256)) 256)) 256)], 1, .grown⟩]⟩ (by kernel_rfl) (tt 3) ?_
  refine AWP.turn ?_
  refine AWP.seq (SQ ?_)
  refine DerQ.run (TT 2) ⟨[.sl (u8s xs) (n) .any, U6, .sl [] 0 .nil, .row 0 0 (n + 4), .sc (.int .u32 (IntKind.wrap IntKind.u32 (Int.tdiv (IntKind.wrap IntKind.u32 (Int.tdiv (IntKind.wrap IntKind.u32 (Int.tdiv (IntKind.wrap IntKind.u32 (Int.tdiv (sum xs) 256)) 256)) 256)) 256))), (I6 4), .sl [] 0 .cap0, .sl (u8s xs) (n) .any, .row 0 0 (n), .sl (u8s xs) (n) .any, .sc (.int .u32 (sum xs)), (I6 4), (B6 false), (I6 3), (I6 4), .row 0 0 (n + 3), .sc (.int .u32 (IntKind.wrap IntKind.u32 (Int.tdiv (IntKind.wrap IntKind.u32 (Int.tdiv (IntKind.wrap IntKind.u32 (Int.tdiv (sum xs) 256)) 256)) 256))), .sc (.int .u32 (Int.tmod (IntKind.wrap IntKind.u32 (Int.tdiv (IntKind.wrap IntKind.u32 (Int.tdiv (IntKind.wrap IntKind.u32 (Int.tdiv (sum xs) 256)) 256)) 256)) 256)), .sc (.int .u8 (b8 (Int.tmod (IntKind.wrap IntKind.u32 (Int.tdiv (IntKind.wrap IntKind.u32 (Int.tdiv (IntKind.wrap IntKind.u32 (Int.tdiv (sum xs) 256)) 256)) 256)) 256))), .sl [.sc (.int .u8 (b8 (Int.tmod (IntKind.wrap IntKind.u32 (Int.tdiv (IntKind.wrap IntKind.u32 (Int.tdiv (IntKind.wrap IntKind.u32 (Int.tdiv (sum xs) 256)) 256)) 256)) 256)))] 1 .nn, .row 0 0 (n + 4), .sc (.int .u32 (IntKind.wrap IntKind.u32 (Int.tdiv (IntKind.wrap IntKind.u32 (Int.tdiv (IntKind.wrap IntKind.u32 (Int.tdiv (sum xs) 256)) 256)) 256))), .sc (.int .u32 (IntKind.wrap IntKind.u32 (Int.tdiv (IntKind.wrap IntKind.u32 (Int.tdiv (IntKind.wrap IntKind.u32 (Int.tdiv (IntKind.wrap IntKind.u32 (Int.tdiv (sum xs) 256)) 256)) 256)) 256))), .undef], [⟨u8s xs ++ u8s [b8 (Int.tmod (sum xs) 256)] ++ u8s [b8 (Int.tmod (IntKind.wrap IntKind.u32 (Int.tdiv (sum xs) 256)) 256)] ++ u8s [b8 (Int.tmod (IntKind.wrap IntKind.u32 (Int.tdiv (IntKind.wrap IntKind.u32 (Int.tdiv (sum xs) 256)) 256)) 256)] ++ u8s [b8 (Int.tmod (IntKind.wrap IntKind.u32 (Int.tdiv (IntKind.wrap IntKind.u32 (Int.tdiv (IntKind.wrap IntKind.u32 (Int.tdiv (sum xs) 256)) 256)) 256)) 256)], 1, .grown⟩]⟩ (by kernel_rfl) (tt 2) ?_
  rw [Nat.add_zero (n + 4)]
  rw [Nat.add_zero (n + 4)]
  rw [Nat.add_zero (n + 4)]
  rw [Nat.add_zero (n + 4)]
  rw [Nat.add_zero (n + 4)]
  rw [Nat.add_zero (n + 4)]
  rw [Nat.add_zero (n + 4)]
  rw [Nat.add_zero (n + 4)]
  rw [Nat.add_zero (n + 4)]
  rw [Nat.add_zero (n + 4)]
  rw [Nat.add_zero (n + 4)]
  rw [Nat.add_zero (n + 4)]
  rw [Nat.add_zero (n + 4)]
  rw [Nat.add_zero (n + 4)]
  rw [Nat.add_zero (n + 4)]
  rw [Nat.add_zero (n + 4)]
  rw [Nat.add_zero (n + 4)]
  rw [Nat.add_zero (n + 4)]
  rw [Nat.add_zero (n + 4)]
  rw [Nat.add_zero (n + 4)]
  rw [Nat.add_zero (n + 4)]
  rw [Nat.add_zero (n + 4)]
  rw [Nat.add_zero (n + 4)]
  rw [Nat.add_zero (n + 4)]
  rw [Nat.add_zero (n + 4)]
  rw [Nat.add_zero (n + 4)]
  rw [Nat.add_zero (n + 4)]
  rw [Nat.add_zero (n + 4)]
  rw [Nat.add_zero (n + 4)]
  rw [Nat.add_zero (n + 4)]
  refine CN false (fun h => nomatch h) (fun _ => ?_)
  refine AWP.exit ?_
  refine SQ ?_
  refine DerQ.run (TT 2) ⟨[.sl (u8s xs) (n) .any, U6, .row 0 0 (n + 4), .row 0 0 (n + 4), .sc (.int .u32 (IntKind.wrap IntKind.u32 (Int.tdiv (IntKind.wrap IntKind.u32 (Int.tdiv (IntKind.wrap IntKind.u32 (Int.tdiv (IntKind.wrap IntKind.u32 (Int.tdiv (sum xs) 256)) 256)) 256)) 256))), (I6 4), .sl [] 0 .cap0, .sl (u8s xs) (n) .any, .row 0 0 (n), .sl (u8s xs) (n) .any, .sc (.int .u32 (sum xs)), (I6 4), (B6 false), (I6 3), (I6 4), .row 0 0 (n + 3), .sc (.int .u32 (IntKind.wrap IntKind.u32 (Int.tdiv (IntKind.wrap IntKind.u32 (Int.tdiv (IntKind.wrap IntKind.u32 (Int.tdiv (sum xs) 256)) 256)) 256))), .sc (.int .u32 (Int.tmod (IntKind.wrap IntKind.u32 (Int.tdiv (IntKind.wrap IntKind.u32 (Int.tdiv (IntKind.wrap IntKind.u32 (Int.tdiv (sum xs) 256)) 256)) 256)) 256)), .sc (.int .u8 (b8 (Int.tmod (IntKind.wrap IntKind.u32 (Int.tdiv (IntKind.wrap IntKind.u32 (Int.tdiv (IntKind.wrap IntKind.u32 (Int.tdiv (sum xs) 256)) 256)) 256)) 256))), .sl [.sc (.int .u8 (b8 (Int.tmod (IntKind.wrap IntKind.u32 (Int.tdiv (IntKind.wrap IntKind.u32 (Int.tdiv (IntKind.wrap IntKind.u32 (Int.tdiv (sum xs) 256)) 256)) 256)) 256)))] 1 .nn, .row 0 0 (n + 4), .sc (.int .u32 (IntKind.wrap IntKind.u32 (Int.tdiv (IntKind.wrap IntKind.u32 (Int.tdiv (IntKind.wrap IntKind.u32 (Int.tdiv (sum xs) 256)) 256)) 256))), .sc (.int .u32 (IntKind.wrap IntKind.u32 (Int.tdiv (IntKind.wrap IntKind.u32 (Int.tdiv (IntKind.wrap IntKind.u32 (Int.tdiv (IntKind.wrap IntKind.u32 (Int.tdiv (sum xs) 256)) 256)) 256)) 256))), .row 0 0 (n + 4)], [⟨u8s xs ++ u8s [b8 (Int.tmod (sum xs) 256)] ++ u8s [b8 (Int.tmod (IntKind.wrap IntKind.u32 (Int.tdiv (sum xs) 256)) 256)] ++ u8s [b8 (Int.tmod (IntKind.wrap IntKind.u32 (Int.tdiv (IntKind.wrap IntKind.u32 (Int.tdiv (sum xs) 256)) 256)) 256)] ++ u8s [b8 (Int.tmod (IntKind.wrap IntKind.u32 (Int.tdiv (IntKind.wrap IntKind.u32 (Int.tdiv (IntKind.wrap IntKind.u32 (Int.tdiv (sum xs) 256)) 256)) 256)) 256)], 1, .grown⟩]⟩ (by kernel_rfl) (tt 2) ?_
  rw [Nat.add_zero (n + 4)]
  rw [Nat.add_zero (n + 4)]
  rw [Nat.add_zero (n + 4)]
  rw [Nat.add_zero (n + 4)]
  rw [Nat.add_zero (n + 4)]
  rw [Nat.add_zero (n + 4)]
  rw [Nat.add_zero (n + 4)]
  rw [Nat.add_zero (n + 4)]
  rw [Nat.add_zero (n + 4)]
  rw [Nat.add_zero (n + 4)]
  rw [Nat.add_zero (n + 4)]
  rw [Nat.add_zero (n + 4)]
  rw [Nat.add_zero (n + 4)]
  rw [Nat.add_zero (n + 4)]
  rw [Nat.add_zero (n + 4)]
  rw [Nat.add_zero (n + 4)]
  rw [Nat.add_zero (n + 4)]
  rw [Nat.add_zero (n + 4)]
  rw [Nat.add_zero (n + 4)]
  rw [Nat.add_zero (n + 4)]
  rw [Nat.add_zero (n + 4)]
  rw [Nat.add_zero (n + 4)]
  rw [Nat.add_zero (n + 4)]
  rw [Nat.add_zero (n + 4)]
  rw [Nat.add_zero (n + 4)]
  rw [Nat.add_zero (n + 4)]
  rw [Nat.add_zero (n + 4)]
  rw [Nat.add_zero (n + 4)]
  rw [Nat.add_zero (n + 4)]
  rw [Nat.add_zero (n + 4)]
  refine AWP.ret ?_
  refine FI (.row 0 0 (n + 4)) ?_
  refine Shrink.dataK [0] ((dataAll (u8s xs ++ u8s [b8 (Int.tmod (sum xs) 256)] ++ u8s [b8 (Int.tmod (IntKind.wrap IntKind.u32 (Int.tdiv (sum xs) 256)) 256)] ++ u8s [b8 (Int.tmod (IntKind.wrap IntKind.u32 (Int.tdiv (IntKind.wrap IntKind.u32 (Int.tdiv (sum xs) 256)) 256)) 256)] ++ u8s [b8 (Int.tmod (IntKind.wrap IntKind.u32 (Int.tdiv (IntKind.wrap IntKind.u32 (Int.tdiv (IntKind.wrap IntKind.u32 (Int.tdiv (sum xs) 256)) 256)) 256)) 256)]) = true) ∧ (True)) (.sl (List.take ((n + 4) * 1) (List.drop 0 (u8s xs ++ u8s [b8 (Int.tmod (sum xs) 256)] ++ u8s [b8 (Int.tmod (IntKind.wrap IntKind.u32 (Int.tdiv (sum xs) 256)) 256)] ++ u8s [b8 (Int.tmod (IntKind.wrap IntKind.u32 (Int.tdiv (IntKind.wrap IntKind.u32 (Int.tdiv (sum xs) 256)) 256)) 256)] ++ u8s [b8 (Int.tmod (IntKind.wrap IntKind.u32 (Int.tdiv (IntKind.wrap IntKind.u32 (Int.tdiv (IntKind.wrap IntKind.u32 (Int.tdiv (sum xs) 256)) 256)) 256)) 256)]))) (n + 4) .any) (by kernel_rfl) ⟨(by (simp only [dataAll_append, dataAll_u8s, dataAll, AVal.data, Bool.and_true])), trivial⟩ ?_ rfl
  have hr := sum_rng xs
  rw [← seal_bytes (sum xs) hr.1 hr.2]
  simp only [AVal.anyA, List.drop_zero, Nat.mul_one, u8s_append, List.append_assoc, List.cons_append, List.nil_append]
  rw [List.take_of_length_le (by simp [u8s_length]; omega)]
@[simp] theorem laid_length (s : Int) : (laid s).length = 4 := rfl
theorem opn_iff (xs : List Int) (h : ¬ xs.length < 4) : (xs.take (xs.length - 4) ++ laid (sum (xs.take (xs.length - 4))) = xs) ↔ laid (sum (xs.take (xs.length - 4))) = xs.drop (xs.length - 4) := by
  constructor
  · intro e
    have e2 : xs.take (xs.length - 4) ++ laid (sum (xs.take (xs.length - 4))) = xs.take (xs.length - 4) ++ xs.drop (xs.length - 4) := by rw [e, List.take_append_drop]
    exact List.append_cancel_left e2
  · intro e; rw [e, List.take_append_drop]
theorem r_open (xs : List Int) (n : Nat) (hn : n = xs.length) (hx : xs.length ≤ 1000000) (hb : Bts xs) : EvD Try.prog 52 [.sl (u8s xs) n .any] (resO (opn xs)) := by
  refine EvD.body Try.func52 rfl rfl (by unfold resO; split <;> rfl) ?_
  refine SQ ?_
  refine DerQ.run (TT 2) ⟨[.sl (u8s xs) (n) .any, U6, .sl [] 0 .nil, (B6 false)] ++ UU 16, []⟩ (by kernel_rfl) (tt 2) ?_
  refine AWP.seq (SQ ?_)
  refine DerQ.run (TT 3) ⟨[.sl (u8s xs) (n) .any, U6, .sl [] 0 .nil, (B6 false), U6, .sl (u8s xs) (n) .any, (I6 (↑n : Int)), (B6 (decide ((↑n : Int) < 4)))] ++ UU 12, []⟩ (by kernel_rfl) (tt 3) ?_
  refine CN (decide ((↑n : Int) < 4)) (fun h1 => ?_) (fun h1 => ?_)
  · have h1' := of_decide_eq_true h1
    refine SQ ?_
    refine DerQ.run (TT 2) ⟨[.sl (u8s xs) (n) .any, U6, .sl [] 0 .nil, (B6 false), U6, .sl (u8s xs) (n) .any, (I6 (↑n : Int)), (B6 (decide ((↑n : Int) < 4)))] ++ UU 12, []⟩ (by kernel_rfl) (tt 2) ?_
    refine AWP.ret ?_
    refine FI (.tup [.sl [] 0 .nil, (B6 false)]) ?_
    have e : opn xs = none := by unfold opn; rw [if_pos (by omega)]
    rw [e]
    exact Shrink.dataK [] (True) (.tup [.sl [] 0 .nil, .sc (.bool false)]) (by kernel_rfl) trivial rfl rfl
  · have h1' := of_decide_eq_false h1
    refine AWP.skip (SQ ?_)
    refine DerQ.run (True ∧ True ∧ True ∧ True ∧ ((((0 : Int) ≤ (0 : Int)) ∧ ((0 ≤ IntKind.wrap IntKind.i64 ((↑n : Int) - 4)) ∧ ((IntKind.wrap IntKind.i64 ((↑n : Int) - 4) ≤ (↑n : Int)) ∧ ((↑n : Int) ≤ (↑n : Int))))) ∧ (Int.toNat (IntKind.wrap IntKind.i64 ((↑n : Int) - 4)) * 1 ≤ List.length (u8s xs))) ∧ True ∧ True) ⟨[.sl (u8s xs) (n) .any, U6, .sl [] 0 .nil, (B6 false), .sl (List.take ((Int.toNat (IntKind.wrap IntKind.i64 ((↑n : Int) - 4)) - 0) * 1) (List.drop 0 (u8s xs))) (Int.toNat (IntKind.wrap IntKind.i64 ((↑n : Int) - 4)) - 0) .any, .sl (u8s xs) (n) .any, (I6 (↑n : Int)), (B6 (decide ((↑n : Int) < 4))), .sl (u8s xs) (n) .any, .sl (u8s xs) (n) .any, (I6 (↑n : Int)), (I6 (IntKind.wrap IntKind.i64 ((↑n : Int) - 4))), .sl (List.take ((Int.toNat (IntKind.wrap IntKind.i64 ((↑n : Int) - 4)) - 0) * 1) (List.drop 0 (u8s xs))) (Int.toNat (IntKind.wrap IntKind.i64 ((↑n : Int) - 4)) - 0) .any] ++ UU 7, []⟩ (by kernel_rfl) ⟨trivial, trivial, trivial, trivial, ⟨⟨(by omega), ⟨(by (rw [IntWalk.i64_in _ (by omega)]; omega)), ⟨(by (rw [IntWalk.i64_in _ (by omega)]; omega)), (by omega)⟩⟩⟩, (by (rw [IntWalk.i64_in _ (by omega)]; simp <;> omega))⟩, trivial, trivial⟩ ?_
    rw [IntWalk.i64_in ((↑n : Int) - 4) (by omega)]
    rw [Nat.mul_one (Int.toNat ((↑n : Int) - 4) - 0)]
    rw [Nat.sub_zero (Int.toNat ((↑n : Int) - 4))]
    rw [List.drop_zero]
    rw [Go.Abs.u8s_take (Int.toNat ((↑n : Int) - 4)) (xs)]
    refine AWP.seq (AWP.seq ?_)
    refine AWP.drawX mixed (fun o => [14].contains (o.dst.getD 0)) (by kernel_rfl) ?_
    refine DerX.quiet (True) (.sl (u8s (List.take (Int.toNat ((↑n : Int) - 4)) xs)) (Int.toNat ((↑n : Int) - 4)) .any) ⟨[.sl (u8s xs) (n) .any, U6, .sl [] 0 .nil, (B6 false), .sl (u8s (List.take (Int.toNat ((↑n : Int) - 4)) xs)) (Int.toNat ((↑n : Int) - 4)) .any, .sl (u8s xs) (n) .any, (I6 (↑n : Int)), (B6 (decide ((↑n : Int) < 4))), .sl (u8s xs) (n) .any, .sl (u8s xs) (n) .any, (I6 (↑n : Int)), (I6 ((↑n : Int) - 4)), .sl (u8s (List.take (Int.toNat ((↑n : Int) - 4)) xs)) (Int.toNat ((↑n : Int) - 4)) .any, .sl (u8s (List.take (Int.toNat ((↑n : Int) - 4)) xs)) (Int.toNat ((↑n : Int) - 4)) .any] ++ UU 6, []⟩ (by intro ext; kernel_rfl) ⟨by kernel_rfl, by kernel_rfl⟩ trivial ?_
    refine DerX.callD (r_seal (List.take (Int.toNat ((↑n : Int) - 4)) xs) (Int.toNat ((↑n : Int) - 4)) (by (simp only [List.length_append, List.length_take, List.length_drop, u8s_length]; omega)) (by (simp only [List.length_append, List.length_take, List.length_drop, u8s_length]; omega))) ⟨[.sl (u8s xs) (n) .any, U6, .sl [] 0 .nil, (B6 false), .sl (u8s (List.take (Int.toNat ((↑n : Int) - 4)) xs)) (Int.toNat ((↑n : Int) - 4)) .any, .sl (u8s xs) (n) .any, (I6 (↑n : Int)), (B6 (decide ((↑n : Int) < 4))), .sl (u8s xs) (n) .any, .sl (u8s xs) (n) .any, (I6 (↑n : Int)), (I6 ((↑n : Int) - 4)), .sl (u8s (List.take (Int.toNat ((↑n : Int) - 4)) xs)) (Int.toNat ((↑n : Int) - 4)) .any, .sl (u8s (List.take (Int.toNat ((↑n : Int) - 4)) xs)) (Int.toNat ((↑n : Int) - 4)) .any, .sl (u8s (List.take (Int.toNat ((↑n : Int) - 4)) xs ++ laid (sum (List.take (Int.toNat ((↑n : Int) - 4)) xs)))) (Int.toNat ((↑n : Int) - 4) + 4) .any] ++ UU 5, []⟩ ⟨by kernel_rfl, by kernel_rfl, by kernel_rfl⟩ ?_
    refine DerX.quiet ((Int.toNat ((↑n : Int) - 4) + 4 = List.length (u8s (List.take (Int.toNat ((↑n : Int) - 4)) xs ++ laid (sum (List.take (Int.toNat ((↑n : Int) - 4)) xs))))) ∧ (∀ (i : Nat), i < List.length (u8s (List.take (Int.toNat ((↑n : Int) - 4)) xs ++ laid (sum (List.take (Int.toNat ((↑n : Int) - 4)) xs)))) → isByteA (List.getD (u8s (List.take (Int.toNat ((↑n : Int) - 4)) xs ++ laid (sum (List.take (Int.toNat ((↑n : Int) - 4)) xs)))) i AVal.undef) = true)) (S6 (strOf (u8s (List.take (Int.toNat ((↑n : Int) - 4)) xs ++ laid (sum (List.take (Int.toNat ((↑n : Int) - 4)) xs)))))) ⟨[.sl (u8s xs) (n) .any, U6, .sl [] 0 .nil, (B6 false), .sl (u8s (List.take (Int.toNat ((↑n : Int) - 4)) xs)) (Int.toNat ((↑n : Int) - 4)) .any, .sl (u8s xs) (n) .any, (I6 (↑n : Int)), (B6 (decide ((↑n : Int) < 4))), .sl (u8s xs) (n) .any, .sl (u8s xs) (n) .any, (I6 (↑n : Int)), (I6 ((↑n : Int) - 4)), .sl (u8s (List.take (Int.toNat ((↑n : Int) - 4)) xs)) (Int.toNat ((↑n : Int) - 4)) .any, .sl (u8s (List.take (Int.toNat ((↑n : Int) - 4)) xs)) (Int.toNat ((↑n : Int) - 4)) .any, .sl (u8s (List.take (Int.toNat ((↑n : Int) - 4)) xs ++ laid (sum (List.take (Int.toNat ((↑n : Int) - 4)) xs)))) (Int.toNat ((↑n : Int) - 4) + 4) .any, (S6 (strOf (u8s (List.take (Int.toNat ((↑n : Int) - 4)) xs ++ laid (sum (List.take (Int.toNat ((↑n : Int) - 4)) xs)))))), U6, U6, U6, .undef], []⟩ (by intro ext; kernel_rfl) ⟨by kernel_rfl, by kernel_rfl⟩ ⟨(by (simp <;> omega)), (by exact u8s_isByte _)⟩ ?_
    refine DerX.quiet (True) (.sl (u8s xs) (n) .any) ⟨[.sl (u8s xs) (n) .any, U6, .sl [] 0 .nil, (B6 false), .sl (u8s (List.take (Int.toNat ((↑n : Int) - 4)) xs)) (Int.toNat ((↑n : Int) - 4)) .any, .sl (u8s xs) (n) .any, (I6 (↑n : Int)), (B6 (decide ((↑n : Int) < 4))), .sl (u8s xs) (n) .any, .sl (u8s xs) (n) .any, (I6 (↑n : Int)), (I6 ((↑n : Int) - 4)), .sl (u8s (List.take (Int.toNat ((↑n : Int) - 4)) xs)) (Int.toNat ((↑n : Int) - 4)) .any, .sl (u8s (List.take (Int.toNat ((↑n : Int) - 4)) xs)) (Int.toNat ((↑n : Int) - 4)) .any, .sl (u8s (List.take (Int.toNat ((↑n : Int) - 4)) xs ++ laid (sum (List.take (Int.toNat ((↑n : Int) - 4)) xs)))) (Int.toNat ((↑n : Int) - 4) + 4) .any, (S6 (strOf (u8s (List.take (Int.toNat ((↑n : Int) - 4)) xs ++ laid (sum (List.take (Int.toNat ((↑n : Int) - 4)) xs)))))), .sl (u8s xs) (n) .any, U6, U6, .undef], []⟩ (by intro ext; kernel_rfl) ⟨by kernel_rfl, by kernel_rfl⟩ trivial ?_
    refine DerX.quiet ((n = List.length (u8s xs)) ∧ (∀ (i : Nat), i < List.length (u8s xs) → isByteA (List.getD (u8s xs) i AVal.undef) = true)) (S6 (strOf (u8s xs))) ⟨[.sl (u8s xs) (n) .any, U6, .sl [] 0 .nil, (B6 false), .sl (u8s (List.take (Int.toNat ((↑n : Int) - 4)) xs)) (Int.toNat ((↑n : Int) - 4)) .any, .sl (u8s xs) (n) .any, (I6 (↑n : Int)), (B6 (decide ((↑n : Int) < 4))), .sl (u8s xs) (n) .any, .sl (u8s xs) (n) .any, (I6 (↑n : Int)), (I6 ((↑n : Int) - 4)), .sl (u8s (List.take (Int.toNat ((↑n : Int) - 4)) xs)) (Int.toNat ((↑n : Int) - 4)) .any, .sl (u8s (List.take (Int.toNat ((↑n : Int) - 4)) xs)) (Int.toNat ((↑n : Int) - 4)) .any, .sl (u8s (List.take (Int.toNat ((↑n : Int) - 4)) xs ++ laid (sum (List.take (Int.toNat ((↑n : Int) - 4)) xs)))) (Int.toNat ((↑n : Int) - 4) + 4) .any, (S6 (strOf (u8s (List.take (Int.toNat ((↑n : Int) - 4)) xs ++ laid (sum (List.take (Int.toNat ((↑n : Int) - 4)) xs)))))), .sl (u8s xs) (n) .any, (S6 (strOf (u8s xs))), U6, .undef], []⟩ (by intro ext; kernel_rfl) ⟨by kernel_rfl, by kernel_rfl⟩ ⟨(by (simp only [List.length_append, List.length_take, List.length_drop, u8s_length]; omega)), (by exact u8s_isByte _)⟩ ?_
    refine DerX.quiet (True) (B6 (!ByteArray.toList (strOf (u8s (List.take (Int.toNat ((↑n : Int) - 4)) xs ++ laid (sum (List.take (Int.toNat ((↑n : Int) - 4)) xs))))) == ByteArray.toList (strOf (u8s xs)))) ⟨[.sl (u8s xs) (n) .any, U6, .sl [] 0 .nil, (B6 false), .sl (u8s (List.take (Int.toNat ((↑n : Int) - 4)) xs)) (Int.toNat ((↑n : Int) - 4)) .any, .sl (u8s xs) (n) .any, (I6 (↑n : Int)), (B6 (decide ((↑n : Int) < 4))), .sl (u8s xs) (n) .any, .sl (u8s xs) (n) .any, (I6 (↑n : Int)), (I6 ((↑n : Int) - 4)), .sl (u8s (List.take (Int.toNat ((↑n : Int) - 4)) xs)) (Int.toNat ((↑n : Int) - 4)) .any, .sl (u8s (List.take (Int.toNat ((↑n : Int) - 4)) xs)) (Int.toNat ((↑n : Int) - 4)) .any, .sl (u8s (List.take (Int.toNat ((↑n : Int) - 4)) xs ++ laid (sum (List.take (Int.toNat ((↑n : Int) - 4)) xs)))) (Int.toNat ((↑n : Int) - 4) + 4) .any, (S6 (strOf (u8s (List.take (Int.toNat ((↑n : Int) - 4)) xs ++ laid (sum (List.take (Int.toNat ((↑n : Int) - 4)) xs)))))), .sl (u8s xs) (n) .any, (S6 (strOf (u8s xs))), (B6 (!ByteArray.toList (strOf (u8s (List.take (Int.toNat ((↑n : Int) - 4)) xs ++ laid (sum (List.take (Int.toNat ((↑n : Int) - 4)) xs))))) == ByteArray.toList (strOf (u8s xs)))), .undef], []⟩ (by intro ext; kernel_rfl) ⟨by kernel_rfl, by kernel_rfl⟩ trivial ?_
    refine DerX.nil ?_
    refine CN (!ByteArray.toList (strOf (u8s (List.take (Int.toNat ((↑n : Int) - 4)) xs ++ laid (sum (List.take (Int.toNat ((↑n : Int) - 4)) xs))))) == ByteArray.toList (strOf (u8s xs))) (fun h2 => ?_) (fun h2 => ?_)
    · refine SQ ?_
      refine DerQ.run (TT 2) ⟨[.sl (u8s xs) (n) .any, U6, .sl [] 0 .nil, (B6 false), .sl (u8s (List.take (Int.toNat ((↑n : Int) - 4)) xs)) (Int.toNat ((↑n : Int) - 4)) .any, .sl (u8s xs) (n) .any, (I6 (↑n : Int)), (B6 (decide ((↑n : Int) < 4))), .sl (u8s xs) (n) .any, .sl (u8s xs) (n) .any, (I6 (↑n : Int)), (I6 ((↑n : Int) - 4)), .sl (u8s (List.take (Int.toNat ((↑n : Int) - 4)) xs)) (Int.toNat ((↑n : Int) - 4)) .any, .sl (u8s (List.take (Int.toNat ((↑n : Int) - 4)) xs)) (Int.toNat ((↑n : Int) - 4)) .any, .sl (u8s (List.take (Int.toNat ((↑n : Int) - 4)) xs ++ laid (sum (List.take (Int.toNat ((↑n : Int) - 4)) xs)))) (Int.toNat ((↑n : Int) - 4) + 4) .any, (S6 (strOf (u8s (List.take (Int.toNat ((↑n : Int) - 4)) xs ++ laid (sum (List.take (Int.toNat ((↑n : Int) - 4)) xs)))))), .sl (u8s xs) (n) .any, (S6 (strOf (u8s xs))), (B6 (!ByteArray.toList (strOf (u8s (List.take (Int.toNat ((↑n : Int) - 4)) xs ++ laid (sum (List.take (Int.toNat ((↑n : Int) - 4)) xs))))) == ByteArray.toList (strOf (u8s xs)))), .undef], []⟩ (by kernel_rfl) (tt 2) ?_
      refine AWP.ret ?_
      refine FI (.tup [.sl [] 0 .nil, (B6 false)]) ?_
      have q : Int.toNat ((n : Int) - 4) = xs.length - 4 := by omega
      rw [q, strOf_beq _ _ ((hb.take _).append (laid_bts _)) hb] at h2
      have h3 : laid (sum (xs.take (xs.length - 4))) ≠ xs.drop (xs.length - 4) := fun e => by rw [(opn_iff xs (by omega)).2 e] at h2; simp at h2
      have e : opn xs = none := by unfold opn; rw [if_neg (by omega), if_neg h3]
      rw [e]
      exact Shrink.dataK [] (True) (.tup [.sl [] 0 .nil, .sc (.bool false)]) (by kernel_rfl) trivial rfl rfl
    · refine AWP.skip (SQ ?_)
      refine DerQ.run (TT 3) ⟨[.sl (u8s xs) (n) .any, U6, .sl (u8s (List.take (Int.toNat ((↑n : Int) - 4)) xs)) (Int.toNat ((↑n : Int) - 4)) .any, (B6 true), .sl (u8s (List.take (Int.toNat ((↑n : Int) - 4)) xs)) (Int.toNat ((↑n : Int) - 4)) .any, .sl (u8s xs) (n) .any, (I6 (↑n : Int)), (B6 (decide ((↑n : Int) < 4))), .sl (u8s xs) (n) .any, .sl (u8s xs) (n) .any, (I6 (↑n : Int)), (I6 ((↑n : Int) - 4)), .sl (u8s (List.take (Int.toNat ((↑n : Int) - 4)) xs)) (Int.toNat ((↑n : Int) - 4)) .any, .sl (u8s (List.take (Int.toNat ((↑n : Int) - 4)) xs)) (Int.toNat ((↑n : Int) - 4)) .any, .sl (u8s (List.take (Int.toNat ((↑n : Int) - 4)) xs ++ laid (sum (List.take (Int.toNat ((↑n : Int) - 4)) xs)))) (Int.toNat ((↑n : Int) - 4) + 4) .any, (S6 (strOf (u8s (List.take (Int.toNat ((↑n : Int) - 4)) xs ++ laid (sum (List.take (Int.toNat ((↑n : Int) - 4)) xs)))))), .sl (u8s xs) (n) .any, (S6 (strOf (u8s xs))), (B6 (!ByteArray.toList (strOf (u8s (List.take (Int.toNat ((↑n : Int) - 4)) xs ++ laid (sum (List.take (Int.toNat ((↑n : Int) - 4)) xs))))) == ByteArray.toList (strOf (u8s xs)))), .sl (u8s (List.take (Int.toNat ((↑n : Int) - 4)) xs)) (Int.toNat ((↑n : Int) - 4)) .any], []⟩ (by kernel_rfl) (tt 3) ?_
      refine AWP.ret ?_
      refine FI (.tup [.sl (u8s (List.take (Int.toNat ((↑n : Int) - 4)) xs)) (Int.toNat ((↑n : Int) - 4)) .any, (B6 true)]) ?_
      have q : Int.toNat ((n : Int) - 4) = xs.length - 4 := by omega
      rw [q, strOf_beq _ _ ((hb.take _).append (laid_bts _)) hb] at h2
      have h3 : laid (sum (xs.take (xs.length - 4))) = xs.drop (xs.length - 4) := (opn_iff xs (by omega)).1 (by simpa using h2)
      have e : opn xs = some (xs.take (xs.length - 4)) := by unfold opn; rw [if_neg (by omega), if_pos h3]
      rw [e, q]
      refine Shrink.dataK [] True (.tup [.sl (u8s (List.take (xs.length - 4) xs)) (xs.length - 4) .any, (B6 true)]) (by kernel_rfl) trivial ?_ rfl
      simp [resO, AVal.anyA, anyAll]
end Go.Crc
