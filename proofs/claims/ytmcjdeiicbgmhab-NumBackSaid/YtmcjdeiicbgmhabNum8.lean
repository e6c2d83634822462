/- Walks and laws, part Num8. -/
import Derived.Test.YtmcjdeiicbgmhabNum7
import Derived.Test.YtmcjdeiicbgmhabAbs34
set_option maxRecDepth 100000
set_option maxHeartbeats 0
set_option linter.unusedSimpArgs false
set_option linter.unusedVariables false
namespace Go.Num
open Go Go.Abs Go.Proofs
def bd : Nat → Int
  | 0 => 9223372036854775809
  | i + 1 => bd i / 10 + 1
theorem bd_succ (i : Nat) (u : Int) (h : u < bd i) : u / 10 < bd (i + 1) := by simp only [bd]; omega
theorem bd_last (u : Int) (h : u < bd 19) : u < 10 := by
  have : bd 19 = 2 := by decide
  omega
theorem d_dig (u : Int) (h0 : 0 ≤ u) (h1 : u ≤ 9223372036854775808) : IntKind.wrap IntKind.u8 (IntKind.wrap IntKind.u64 (48 + Int.tmod u 10)) = 48 + u % 10 := by
  rw [Int.tmod_eq_emod_of_nonneg h0, IntKind.wrap_u64, IntKind.wrap_u8]; omega
theorem d_dig2 (u : Int) (h0 : 0 ≤ u) (h1 : u < 10) : IntKind.wrap IntKind.u8 (IntKind.wrap IntKind.u64 (48 + u)) = 48 + u % 10 := by
  rw [IntKind.wrap_u64, IntKind.wrap_u8]; omega
theorem r_digits (v : Int) (h0 : 0 ≤ v) (h1 : v ≤ 9223372036854775808) : EvD Try.prog 48 [.sc (.int .u64 v)] (.sc (.string (strOf (u8s (dig 20 v))))) := by
  refine EvD.body Try.func48 rfl rfl rfl ?_
  refine AWP.seq ?_
  refine AWP.reg ?_
  refine DerQ.run ((True) ∧ (True)) ⟨[.sc (.int .u64 (v)), .undef, .sc (.string ({ data := #[] })), .undef, .undef, .undef, .undef, .undef, .undef, .undef, .undef, .undef, .undef, .undef, .undef, .undef, .undef, .undef, .undef, .undef, .undef, .undef, .undef], []⟩ (by kernel_rfl) ⟨trivial, trivial⟩ ?_
  refine AWP.seq ?_
  refine AWP.reg ?_
  refine DerQ.run ((True) ∧ (True)) ⟨[.sc (.int .u64 (v)), .undef, .sc (.string ({ data := #[] })), .sc (.string ({ data := #[] })), .undef, .undef, .undef, .undef, .undef, .undef, .undef, .undef, .undef, .undef, .undef, .undef, .undef, .undef, .undef, .undef, .undef, .undef, .undef], []⟩ (by kernel_rfl) ⟨trivial, trivial⟩ ?_
  refine AWP.seq ?_
  refine AWP.block ?_
  refine AWP.loopM [true, false, true, true, false, false, false, false, false, false, false, false, false, false, false, false, false, false, false, false, false, false, false] (fun kk st => ∃ (i : Nat) (u : Int) (T : List Int), kk = 19 - i ∧ i ≤ 19 ∧ T.length = i ∧ 0 ≤ u ∧ u < bd i ∧ u ≤ 9223372036854775808 ∧ dig 20 v = dig (20 - i) u ++ T ∧ st = ⟨[.sc (.int .u64 (u)), .undef, .sc (.string ({ data := #[] })), .sc (.string (strOf (u8s T))), .undef, .undef, .undef, .undef, .undef, .undef, .undef, .undef, .undef, .undef, .undef, .undef, .undef, .undef, .undef, .undef, .undef, .undef, .undef], []⟩) _ ⟨0, v, [], rfl, by omega, rfl, h0, by simp [bd]; omega, h1, by simp, by kernel_rfl⟩ ?_
  rintro kk s ⟨i, u, T, rfl, hi, hT, hu0, hu1, hu2, hD, rfl⟩
  refine AWP.seq ?_
  refine AWP.seq ?_
  refine AWP.reg ?_
  refine DerQ.run ((True) ∧ ((True) ∧ (True))) ⟨[.sc (.int .u64 (u)), .undef, .sc (.string ({ data := #[] })), .sc (.string (strOf (u8s T))), .sc (.int .u64 (u)), .sc (.bool (decide (u ≥ 10))), .undef, .undef, .undef, .undef, .undef, .undef, .undef, .undef, .undef, .undef, .undef, .undef, .undef, .undef, .undef, .undef, .undef], []⟩ (by kernel_rfl) ⟨trivial, ⟨trivial, trivial⟩⟩ ?_
  refine AWP.cond (b := decide (u ≥ 10)) (by kernel_rfl) (fun h2 => ?_) (fun h2 => ?_)
  · have h2' := of_decide_eq_true h2
    refine AWP.skip ?_
    refine AWP.block ?_
    refine AWP.seq ?_
    refine AWP.reg ?_
    refine DerQ.run ((True) ∧ (((10 : Int) ≠ (0 : Int)) ∧ ((True) ∧ ((True) ∧ ((True) ∧ (((1 = List.length (u8s [IntKind.wrap IntKind.u8 (IntKind.wrap IntKind.u64 (48 + Int.tmod u 10))])) ∧ (∀ (i : Nat), i < List.length (u8s [IntKind.wrap IntKind.u8 (IntKind.wrap IntKind.u64 (48 + Int.tmod u 10))]) → isByteA (List.getD (u8s [IntKind.wrap IntKind.u8 (IntKind.wrap IntKind.u64 (48 + Int.tmod u 10))]) i AVal.undef) = true)) ∧ ((True) ∧ ((ByteArray.size (strOf (u8s [IntKind.wrap IntKind.u8 (IntKind.wrap IntKind.u64 (48 + Int.tmod u 10))])) + ByteArray.size (strOf (u8s T)) ≤ 9223372036854775807) ∧ ((True) ∧ (True)))))))))) ⟨[.sc (.int .u64 (u)), .undef, .sc (.string ({ data := #[] })), .sc (.string (strOf [AVal.sc (Value.int IntKind.u8 (IntKind.wrap IntKind.u8 (IntKind.wrap IntKind.u64 (48 + Int.tmod u 10))))] ++ strOf (u8s T))), .sc (.int .u64 (u)), .sc (.bool (decide (u ≥ 10))), .sc (.int .u64 (u)), .sc (.int .u64 (Int.tmod u 10)), .sc (.int .u64 (IntKind.wrap IntKind.u64 (48 + Int.tmod u 10))), .sc (.int .u8 (IntKind.wrap IntKind.u8 (IntKind.wrap IntKind.u64 (48 + Int.tmod u 10)))), .sl [.sc (.int .u8 (IntKind.wrap IntKind.u8 (IntKind.wrap IntKind.u64 (48 + Int.tmod u 10))))] 1 .nn, .sc (.string (strOf [AVal.sc (Value.int IntKind.u8 (IntKind.wrap IntKind.u8 (IntKind.wrap IntKind.u64 (48 + Int.tmod u 10))))])), .sc (.string (strOf (u8s T))), .sc (.string (strOf [AVal.sc (Value.int IntKind.u8 (IntKind.wrap IntKind.u8 (IntKind.wrap IntKind.u64 (48 + Int.tmod u 10))))] ++ strOf (u8s T))), .undef, .undef, .undef, .undef, .undef, .undef, .undef, .undef, .undef], []⟩ (by kernel_rfl) ⟨trivial, ⟨(by omega), ⟨trivial, ⟨trivial, ⟨trivial, ⟨⟨(by rfl), (by exact u8s_isByte _)⟩, ⟨trivial, ⟨?_, ⟨trivial, trivial⟩⟩⟩⟩⟩⟩⟩⟩⟩ ?_
    · rw [Go.Abs.strOf_len, Go.Abs.strOf_len]; simp; omega
    rw [Go.Num.d_dig (u) (by omega) (by omega)]
    refine AWP.reg ?_
    refine DerQ.run ((True) ∧ (((10 : Int) ≠ (0 : Int)) ∧ ((True) ∧ (True)))) ⟨[.sc (.int .u64 (IntKind.wrap IntKind.u64 (Int.tdiv u 10))), .undef, .sc (.string ({ data := #[] })), .sc (.string (strOf [AVal.sc (Value.int IntKind.u8 (48 + u % 10))] ++ strOf (u8s T))), .sc (.int .u64 (u)), .sc (.bool (decide (u ≥ 10))), .sc (.int .u64 (u)), .sc (.int .u64 (Int.tmod u 10)), .sc (.int .u64 (IntKind.wrap IntKind.u64 (48 + Int.tmod u 10))), .sc (.int .u8 (48 + u % 10)), .sl [.sc (.int .u8 (48 + u % 10))] 1 .nn, .sc (.string (strOf [AVal.sc (Value.int IntKind.u8 (48 + u % 10))])), .sc (.string (strOf (u8s T))), .sc (.string (strOf [AVal.sc (Value.int IntKind.u8 (48 + u % 10))] ++ strOf (u8s T))), .sc (.int .u64 (u)), .sc (.int .u64 (IntKind.wrap IntKind.u64 (Int.tdiv u 10))), .undef, .undef, .undef, .undef, .undef, .undef, .undef], []⟩ (by kernel_rfl) ⟨trivial, ⟨(by omega), ⟨trivial, trivial⟩⟩⟩ ?_
    have hi2 : i ≠ 19 := by
      intro e; subst e; have := bd_last u hu1; omega
    rw [z_div u hu0 hu2, Go.Abs.strOf_app1]
    exact ⟨19 - (i + 1), by omega, i + 1, u / 10, (48 + u % 10) :: T, rfl, by omega, by simp [hT], by omega, bd_succ i u hu1, by omega, by rw [hD, z_next i u (by omega) (by omega), List.append_assoc]; rfl, by kernel_rfl⟩
  · have h2' := of_decide_eq_false h2
    refine AWP.exit ?_
    refine AWP.seq ?_
    refine AWP.reg ?_
    refine DerQ.run ((True) ∧ ((True) ∧ ((True) ∧ ((True) ∧ (((1 = List.length (u8s [IntKind.wrap IntKind.u8 (IntKind.wrap IntKind.u64 (48 + u))])) ∧ (∀ (i : Nat), i < List.length (u8s [IntKind.wrap IntKind.u8 (IntKind.wrap IntKind.u64 (48 + u))]) → isByteA (List.getD (u8s [IntKind.wrap IntKind.u8 (IntKind.wrap IntKind.u64 (48 + u))]) i AVal.undef) = true)) ∧ ((True) ∧ ((ByteArray.size (strOf (u8s [IntKind.wrap IntKind.u8 (IntKind.wrap IntKind.u64 (48 + u))])) + ByteArray.size (strOf (u8s T)) ≤ 9223372036854775807) ∧ ((True) ∧ (True))))))))) ⟨[.sc (.int .u64 (u)), .undef, .sc (.string (strOf [AVal.sc (Value.int IntKind.u8 (IntKind.wrap IntKind.u8 (IntKind.wrap IntKind.u64 (48 + u))))] ++ strOf (u8s T))), .sc (.string (strOf (u8s T))), .sc (.int .u64 (u)), .sc (.bool (decide (u ≥ 10))), .undef, .undef, .undef, .undef, .undef, .undef, .undef, .undef, .undef, .undef, .sc (.int .u64 (u)), .sc (.int .u64 (IntKind.wrap IntKind.u64 (48 + u))), .sc (.int .u8 (IntKind.wrap IntKind.u8 (IntKind.wrap IntKind.u64 (48 + u)))), .sl [.sc (.int .u8 (IntKind.wrap IntKind.u8 (IntKind.wrap IntKind.u64 (48 + u))))] 1 .nn, .sc (.string (strOf [AVal.sc (Value.int IntKind.u8 (IntKind.wrap IntKind.u8 (IntKind.wrap IntKind.u64 (48 + u))))])), .sc (.string (strOf (u8s T))), .sc (.string (strOf [AVal.sc (Value.int IntKind.u8 (IntKind.wrap IntKind.u8 (IntKind.wrap IntKind.u64 (48 + u))))] ++ strOf (u8s T)))], []⟩ (by kernel_rfl) ⟨trivial, ⟨trivial, ⟨trivial, ⟨trivial, ⟨⟨(by rfl), (by exact u8s_isByte _)⟩, ⟨trivial, ⟨?_, ⟨trivial, trivial⟩⟩⟩⟩⟩⟩⟩⟩ ?_
    · rw [Go.Abs.strOf_len, Go.Abs.strOf_len]; simp; omega
    rw [IntWalk.u64_in (48 + u) (by omega)]
    refine AWP.ret ?_
    refine EvF.fin (.sc (.string (strOf [AVal.sc (Value.int IntKind.u8 (IntKind.wrap IntKind.u8 (48 + u)))] ++ strOf (u8s T)))) _ (by simp) (by kernel_rfl) ?_
    refine Shrink.all ?_ rfl
    rw [Go.Abs.strOf_app1, hD, z_last i u (by omega) (by omega), IntKind.wrap_u8, show (48 + u) % 256 = 48 + u % 10 by omega]; rfl
theorem dig_len : ∀ (k : Nat) (u : Int), (dig k u).length ≤ k
  | 0, u => by simp [dig]
  | k + 1, u => by
    have := dig_len k (u / 10)
    simp only [dig]; split <;> simp <;> omega
theorem d_neg (n : Int) (h0 : -9223372036854775808 ≤ n) (h1 : n < 0) : IntKind.wrap IntKind.u64 (IntKind.wrap IntKind.u64 (-1 - n) + 1) = -n := by
  rw [IntKind.wrap_u64, IntKind.wrap_u64]; omega
theorem r_dec (n : Int) (h0 : -9223372036854775808 ≤ n) (h1 : n ≤ 9223372036854775807) : EvD Try.prog 34 [.sc (.int .i64 n)] (.sc (.string (decS n))) := by
  refine EvD.body Try.func34 rfl rfl rfl ?_
  refine AWP.seq ?_
  refine AWP.reg ?_
  refine DerQ.run ((True) ∧ (True)) ⟨[.sc (.int .i64 (n)), .undef, .sc (.string ({ data := #[] })), .undef, .undef, .undef, .undef, .undef, .undef, .undef, .undef, .undef, .undef, .undef, .undef, .undef], []⟩ (by kernel_rfl) ⟨trivial, trivial⟩ ?_
  refine AWP.seq ?_
  refine AWP.seq ?_
  refine AWP.reg ?_
  refine DerQ.run ((True) ∧ ((True) ∧ (True))) ⟨[.sc (.int .i64 (n)), .undef, .sc (.string ({ data := #[] })), .undef, .sc (.int .i64 (n)), .sc (.bool (decide (n < 0))), .undef, .undef, .undef, .undef, .undef, .undef, .undef, .undef, .undef, .undef], []⟩ (by kernel_rfl) ⟨trivial, ⟨trivial, trivial⟩⟩ ?_
  refine AWP.cond (b := decide (n < 0)) (by kernel_rfl) (fun h2 => ?_) (fun h2 => ?_)
  · have h2' := of_decide_eq_true h2
    refine AWP.seq ?_
    refine AWP.reg ?_
    refine DerQ.run ((True) ∧ ((True) ∧ ((True) ∧ ((True) ∧ ((True) ∧ (True)))))) ⟨[.sc (.int .i64 (n)), .undef, .sc (.string ({ data := #[] })), .sc (.int .u64 (IntKind.wrap IntKind.u64 (IntKind.wrap IntKind.u64 (IntKind.wrap IntKind.i64 (-1 - n)) + 1))), .sc (.int .i64 (n)), .sc (.bool (decide (n < 0))), .sc (.int .i64 (n)), .sc (.int .i64 (IntKind.wrap IntKind.i64 (-1 - n))), .sc (.int .u64 (IntKind.wrap IntKind.u64 (IntKind.wrap IntKind.i64 (-1 - n)))), .sc (.int .u64 (IntKind.wrap IntKind.u64 (IntKind.wrap IntKind.u64 (IntKind.wrap IntKind.i64 (-1 - n)) + 1))), .undef, .undef, .undef, .undef, .undef, .undef], []⟩ (by kernel_rfl) ⟨trivial, ⟨trivial, ⟨trivial, ⟨trivial, ⟨trivial, trivial⟩⟩⟩⟩⟩ ?_
    rw [IntWalk.i64_in (-1 - n) (by omega)]
    rw [Go.Num.d_neg (n) (by omega) (by omega)]
    refine AWP.seq ?_
    refine AWP.reg ?_
    refine DerQ.pre 1 ((True) ∧ (True)) ⟨[.sc (.int .i64 (n)), .undef, .sc (.string ({ data := #[] })), .sc (.int .u64 (-n)), .sc (.int .i64 (n)), .sc (.bool (decide (n < 0))), .sc (.int .i64 (n)), .sc (.int .i64 (-1 - n)), .sc (.int .u64 (IntKind.wrap IntKind.u64 (-1 - n))), .sc (.int .u64 (-n)), .sc (.int .u64 (-n)), .undef, .undef, .undef, .undef, .undef], []⟩ (by kernel_rfl) ⟨trivial, trivial⟩ ?_
    rw [IntWalk.u64_in (-1 - n) (by omega)]
    refine DerQ.callD (r_digits (-n) (by omega) (by omega)) ⟨[.sc (.int .i64 (n)), .undef, .sc (.string ({ data := #[] })), .sc (.int .u64 (-n)), .sc (.int .i64 (n)), .sc (.bool (decide (n < 0))), .sc (.int .i64 (n)), .sc (.int .i64 (-1 - n)), .sc (.int .u64 (-1 - n)), .sc (.int .u64 (-n)), .sc (.int .u64 (-n)), .sc (.string (strOf (u8s (dig 20 (-n))))), .undef, .undef, .undef, .undef], []⟩ ⟨by kernel_rfl, by kernel_rfl, by kernel_rfl⟩ ?_
    refine DerQ.run ((1 + ByteArray.size (strOf (u8s (dig 20 (-n)))) ≤ 9223372036854775807) ∧ ((True) ∧ (True))) ⟨[.sc (.int .i64 (n)), .undef, .sc (.string ({ data := #[45] } ++ strOf (u8s (dig 20 (-n))))), .sc (.int .u64 (-n)), .sc (.int .i64 (n)), .sc (.bool (decide (n < 0))), .sc (.int .i64 (n)), .sc (.int .i64 (-1 - n)), .sc (.int .u64 (-1 - n)), .sc (.int .u64 (-n)), .sc (.int .u64 (-n)), .sc (.string (strOf (u8s (dig 20 (-n))))), .sc (.string ({ data := #[45] } ++ strOf (u8s (dig 20 (-n))))), .undef, .undef, .undef], []⟩ (by kernel_rfl) ⟨?_, ⟨trivial, trivial⟩⟩ ?_
    · have := dig_len 20 (-n); rw [Go.Abs.strOf_size]; omega
    refine AWP.ret ?_
    refine EvF.fin (.sc (.string ({ data := #[45] } ++ strOf (u8s (dig 20 (-n)))))) _ (by simp) (by kernel_rfl) ?_
    refine Shrink.all ?_ rfl
    rw [decS, if_pos h2', absN, if_pos h2']; rfl
  · have h2' := of_decide_eq_false h2
    refine AWP.skip ?_
    refine AWP.seq ?_
    refine AWP.reg ?_
    refine DerQ.pre 2 ((True) ∧ ((True) ∧ (True))) ⟨[.sc (.int .i64 (n)), .undef, .sc (.string ({ data := #[] })), .undef, .sc (.int .i64 (n)), .sc (.bool (decide (n < 0))), .undef, .undef, .undef, .undef, .undef, .undef, .undef, .sc (.int .i64 (n)), .sc (.int .u64 (IntKind.wrap IntKind.u64 n)), .undef], []⟩ (by kernel_rfl) ⟨trivial, ⟨trivial, trivial⟩⟩ ?_
    rw [IntWalk.u64_in (n) (by omega)]
    refine DerQ.callD (r_digits n (by omega) (by omega)) ⟨[.sc (.int .i64 (n)), .undef, .sc (.string ({ data := #[] })), .undef, .sc (.int .i64 (n)), .sc (.bool (decide (n < 0))), .undef, .undef, .undef, .undef, .undef, .undef, .undef, .sc (.int .i64 (n)), .sc (.int .u64 (n)), .sc (.string (strOf (u8s (dig 20 n))))], []⟩ ⟨by kernel_rfl, by kernel_rfl, by kernel_rfl⟩ ?_
    refine DerQ.run ((True) ∧ (True)) ⟨[.sc (.int .i64 (n)), .undef, .sc (.string (strOf (u8s (dig 20 n)))), .undef, .sc (.int .i64 (n)), .sc (.bool (decide (n < 0))), .undef, .undef, .undef, .undef, .undef, .undef, .undef, .sc (.int .i64 (n)), .sc (.int .u64 (n)), .sc (.string (strOf (u8s (dig 20 n))))], []⟩ (by kernel_rfl) ⟨trivial, trivial⟩ ?_
    refine AWP.ret ?_
    refine EvF.fin (.sc (.string (strOf (u8s (dig 20 n))))) _ (by simp) (by kernel_rfl) ?_
    refine Shrink.all ?_ rfl
    rw [decS, if_neg h2', absN, if_neg h2']
end Go.Num
