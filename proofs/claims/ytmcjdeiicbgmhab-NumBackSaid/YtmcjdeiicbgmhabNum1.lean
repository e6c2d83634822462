/- Walks and laws, part Num1. -/
import Derived.Test.YtmcjdeiicbgmhabAbs30
import Derived.Test.YtmcjdeiicbgmhabNum0
import Derived.Test.YtmcjdeiicbgmhabAbs34
import Derived.Test.YtmcjdeiicbgmhabProg
set_option maxRecDepth 100000
set_option maxHeartbeats 0
set_option linter.unusedSimpArgs false
set_option linter.unusedVariables false
namespace Go.Num
open Go Go.Abs Go.Proofs
theorem mixed : Try.prog.follows .mixedOrders = true := by kernel_rfl
theorem n_folded (n : Int) (h0 : -9223372036854775808 ≤ n) (h1 : n ≤ 9223372036854775807) : EvD Try.prog 45 [.sc (.int .i64 n)] (.sc (.int .u64 (zig n))) := by
  refine EvD.body Try.func45 rfl rfl rfl ?_
  refine AWP.seq ?_
  refine AWP.reg ?_
  refine DerQ.run ((True) ∧ (True)) ⟨[.sc (.int .i64 (n)), .undef, .sc (.int .u64 0), .undef, .undef, .undef, .undef, .undef, .undef, .undef], []⟩ (by kernel_rfl) ⟨trivial, trivial⟩ ?_
  refine AWP.seq ?_
  refine AWP.reg ?_
  refine DerQ.run ((True) ∧ ((True) ∧ (((0 : Int) ≤ (1 : Int)) ∧ ((True) ∧ (((0 : Int) ≤ (63 : Int)) ∧ ((True) ∧ ((True) ∧ ((True) ∧ (True))))))))) ⟨[.sc (.int .i64 (n)), .undef, .sc (.int .u64 (IntKind.wrap IntKind.u64 (↑(BitVec.toNat (BitVec.ofInt 64 (IntKind.wrap IntKind.u64 (IntKind.wrap IntKind.u64 n * 2)) ^^^ BitVec.ofInt 64 (IntKind.wrap IntKind.u64 (Int.fdiv n 9223372036854775808)))) : Int))), .sc (.int .i64 (n)), .sc (.int .u64 (IntKind.wrap IntKind.u64 n)), .sc (.int .u64 (IntKind.wrap IntKind.u64 (IntKind.wrap IntKind.u64 n * 2))), .sc (.int .i64 (n)), .sc (.int .i64 (Int.fdiv n 9223372036854775808)), .sc (.int .u64 (IntKind.wrap IntKind.u64 (Int.fdiv n 9223372036854775808))), .sc (.int .u64 (IntKind.wrap IntKind.u64 (↑(BitVec.toNat (BitVec.ofInt 64 (IntKind.wrap IntKind.u64 (IntKind.wrap IntKind.u64 n * 2)) ^^^ BitVec.ofInt 64 (IntKind.wrap IntKind.u64 (Int.fdiv n 9223372036854775808)))) : Int)))], []⟩ (by kernel_rfl) ⟨trivial, ⟨trivial, ⟨(by omega), ⟨trivial, ⟨(by omega), ⟨trivial, ⟨trivial, ⟨trivial, trivial⟩⟩⟩⟩⟩⟩⟩⟩ ?_
  rw [IntWalk.u64_in ((↑(BitVec.toNat (BitVec.ofInt 64 (IntKind.wrap IntKind.u64 (IntKind.wrap IntKind.u64 n * 2)) ^^^ BitVec.ofInt 64 (IntKind.wrap IntKind.u64 (Int.fdiv n 9223372036854775808)))) : Int)) (by omega)]
  refine AWP.ret ?_
  refine EvF.fin (.sc (.int .u64 ((↑(BitVec.toNat (BitVec.ofInt 64 (IntKind.wrap IntKind.u64 (IntKind.wrap IntKind.u64 n * 2)) ^^^ BitVec.ofInt 64 (IntKind.wrap IntKind.u64 (Int.fdiv n 9223372036854775808)))) : Int)))) _ (by simp) (by kernel_rfl) ?_
  refine Shrink.all ?_ rfl
  rw [folded_eq n h0 h1]
theorem n_unfolded (u : Int) (h0 : 0 ≤ u) (h1 : u < 18446744073709551616) : EvD Try.prog 47 [.sc (.int .u64 u)] (.sc (.int .i64 (zag u))) := by
  refine EvD.body Try.func47 rfl rfl rfl ?_
  refine AWP.seq ?_
  refine AWP.reg ?_
  refine DerQ.run ((True) ∧ (True)) ⟨[.sc (.int .u64 (u)), .undef, .sc (.int .i64 0), .undef, .undef, .undef, .undef, .undef, .undef, .undef, .undef], []⟩ (by kernel_rfl) ⟨trivial, trivial⟩ ?_
  refine AWP.seq ?_
  refine AWP.reg ?_
  refine DerQ.run ((True) ∧ (((0 : Int) ≤ (1 : Int)) ∧ ((True) ∧ ((True) ∧ ((True) ∧ ((True) ∧ ((True) ∧ ((True) ∧ ((True) ∧ (True)))))))))) ⟨[.sc (.int .u64 (u)), .undef, .sc (.int .i64 (IntKind.wrap IntKind.i64 (↑(BitVec.toNat (BitVec.ofInt 64 (IntKind.wrap IntKind.i64 (Int.fdiv u 2)) ^^^ BitVec.ofInt 64 (IntKind.wrap IntKind.i64 (0 - IntKind.wrap IntKind.i64 (IntKind.wrap IntKind.u64 (↑(BitVec.toNat (BitVec.ofInt 64 u &&& BitVec.ofInt 64 1)) : Int)))))) : Int))), .sc (.int .u64 (u)), .sc (.int .u64 (Int.fdiv u 2)), .sc (.int .i64 (IntKind.wrap IntKind.i64 (Int.fdiv u 2))), .sc (.int .u64 (u)), .sc (.int .u64 (IntKind.wrap IntKind.u64 (↑(BitVec.toNat (BitVec.ofInt 64 u &&& BitVec.ofInt 64 1)) : Int))), .sc (.int .i64 (IntKind.wrap IntKind.i64 (IntKind.wrap IntKind.u64 (↑(BitVec.toNat (BitVec.ofInt 64 u &&& BitVec.ofInt 64 1)) : Int)))), .sc (.int .i64 (IntKind.wrap IntKind.i64 (0 - IntKind.wrap IntKind.i64 (IntKind.wrap IntKind.u64 (↑(BitVec.toNat (BitVec.ofInt 64 u &&& BitVec.ofInt 64 1)) : Int))))), .sc (.int .i64 (IntKind.wrap IntKind.i64 (↑(BitVec.toNat (BitVec.ofInt 64 (IntKind.wrap IntKind.i64 (Int.fdiv u 2)) ^^^ BitVec.ofInt 64 (IntKind.wrap IntKind.i64 (0 - IntKind.wrap IntKind.i64 (IntKind.wrap IntKind.u64 (↑(BitVec.toNat (BitVec.ofInt 64 u &&& BitVec.ofInt 64 1)) : Int)))))) : Int)))], []⟩ (by kernel_rfl) ⟨trivial, ⟨(by omega), ⟨trivial, ⟨trivial, ⟨trivial, ⟨trivial, ⟨trivial, ⟨trivial, ⟨trivial, trivial⟩⟩⟩⟩⟩⟩⟩⟩⟩ ?_
  rw [IntWalk.u64_in ((↑(BitVec.toNat (BitVec.ofInt 64 u &&& BitVec.ofInt 64 1)) : Int)) (by omega)]
  refine AWP.ret ?_
  refine EvF.fin (.sc (.int .i64 (IntKind.wrap IntKind.i64 (↑(BitVec.toNat (BitVec.ofInt 64 (IntKind.wrap IntKind.i64 (Int.fdiv u 2)) ^^^ BitVec.ofInt 64 (IntKind.wrap IntKind.i64 (0 - IntKind.wrap IntKind.i64 (↑(BitVec.toNat (BitVec.ofInt 64 u &&& BitVec.ofInt 64 1)) : Int))))) : Int)))) _ (by simp) (by kernel_rfl) ?_
  refine Shrink.all ?_ rfl
  rw [unfolded_eq u h0 h1]
theorem n_clone (xs : List Int) (n : Nat) (hn : n = xs.length) (hx : xs.length ≤ 1000000) : EvA Try.prog 46 [.sl (u8s xs) n .any] (fun k => .row k 0 n) (fun _ => [⟨u8s xs, 1, .fresh⟩]) := by
  refine EvA.split [] (fun h0 h1 => ?_) ?_
  · refine EvA.body Try.func46 rfl rfl (by intro k; simp [AVal.ren]) (by intro k; exact ren_row (dataAll_u8s _) k) ?_
    refine AWP.seq ?_
    refine AWP.reg ?_
    refine DerQ.run ((True) ∧ (True)) ⟨[.sl [] 0 .nil, .undef, .sl [] 0 .nil, .undef, .undef, .undef, .undef, .undef], []⟩ (by kernel_rfl) ⟨trivial, trivial⟩ ?_
    refine AWP.seq ?_
    refine AWP.seq ?_
    refine AWP.reg ?_
    refine DerQ.run ((True) ∧ ((True) ∧ (True))) ⟨[.sl [] 0 .nil, .undef, .sl [] 0 .nil, .sl [] 0 .nil, .sc (.bool true), .undef, .undef, .undef], []⟩ (by kernel_rfl) ⟨trivial, ⟨trivial, trivial⟩⟩ ?_
    refine AWP.cond (b := true) (by kernel_rfl) (fun _ => ?_) (fun h => nomatch h)
    refine AWP.seq ?_
    refine AWP.reg ?_
    refine DerQ.run ((True) ∧ (True)) ⟨[.sl [] 0 .nil, .undef, .sl [] 0 .nil, .sl [] 0 .nil, .sc (.bool true), .undef, .undef, .undef], []⟩ (by kernel_rfl) ⟨trivial, trivial⟩ ?_
    refine AWP.ret ?_
    refine EvF.fin (.sl [] 0 .nil) _ (by simp) (by kernel_rfl) ?_
    subst h1
    have hx0 : xs = [] := List.eq_nil_of_length_eq_zero hn.symm
    subst hx0
    exact Shrink.virt 1 (.inl rfl)
  · refine EvA.body Try.func46 rfl rfl (by intro k; simp [AVal.ren]) (by intro k; exact ren_row (dataAll_u8s _) k) ?_
    refine AWP.seq ?_
    refine AWP.reg ?_
    refine DerQ.run ((True) ∧ (True)) ⟨[.sl (u8s xs) (n) .nn, .undef, .sl [] 0 .nil, .undef, .undef, .undef, .undef, .undef], []⟩ (by kernel_rfl) ⟨trivial, trivial⟩ ?_
    refine AWP.seq ?_
    refine AWP.seq ?_
    refine AWP.reg ?_
    refine DerQ.run ((True) ∧ ((True) ∧ (True))) ⟨[.sl (u8s xs) (n) .nn, .undef, .sl [] 0 .nil, .sl (u8s xs) (n) .nn, .sc (.bool false), .undef, .undef, .undef], []⟩ (by kernel_rfl) ⟨trivial, ⟨trivial, trivial⟩⟩ ?_
    refine AWP.cond (b := false) (by kernel_rfl) (fun h => nomatch h) (fun _ => ?_)
    refine AWP.skip ?_
    refine AWP.seq ?_
    refine AWP.reg ?_
    refine DerQ.run ((True) ∧ ((True) ∧ (((List.length (u8s xs) = n * 1) ∧ (n ≤ 1073741824)) ∧ ((True) ∧ (True))))) ⟨[.sl (u8s xs) (n) .nn, .undef, .row 0 0 (n), .sl (u8s xs) (n) .nn, .sc (.bool false), .sl [] 0 .cap0, .sl (u8s xs) (n) .nn, .row 0 0 (n)], [⟨u8s xs, 1, .fresh⟩]⟩ (by kernel_rfl) ⟨trivial, ⟨trivial, ⟨⟨(by (simp [spliceA_length] <;> omega)), (by omega)⟩, ⟨trivial, trivial⟩⟩⟩⟩ ?_
    refine AWP.ret ?_
    refine EvF.fin (.row 0 0 (n)) _ (by simp) (by kernel_rfl) ?_
    exact Shrink.refl _ _ _
/-- Bytes behind which a number is put. -/
theorem n_put (xs : List Int) (n : Nat) (m : Int) (hn : n = xs.length) (hx : xs.length ≤ 1000000) (h0 : -9223372036854775808 ≤ m) (h1 : m ≤ 9223372036854775807) : EvA Try.prog 28 [.sl (u8s xs) n .any, .sc (.int .i64 m)] (fun k => .row k 0 (n + (enc (zig m)).length)) (fun _ => [⟨u8s (xs ++ enc (zig m)), 1, .grown⟩]) := by
  refine EvA.body Try.func28 rfl rfl (by intro k; simp [AVal.ren]) (by intro k; exact ren_row (dataAll_u8s _) k) ?_
  refine AWP.seq ?_
  refine AWP.reg ?_
  refine DerQ.run ((True) ∧ (True)) ⟨[.sl (u8s xs) (n) .any, .sc (.int .i64 (m)), .undef, .undef, .sl [] 0 .nil, .undef, .undef, .undef, .undef, .undef, .undef, .undef, .undef, .undef, .undef, .undef, .undef, .undef, .undef, .undef, .undef, .undef, .undef, .undef, .undef, .undef], []⟩ (by kernel_rfl) ⟨trivial, trivial⟩ ?_
  refine AWP.seq ?_
  refine AWP.reg ?_
  refine DerQ.pre 1 ((True) ∧ (True)) ⟨[.sl (u8s xs) (n) .any, .sc (.int .i64 (m)), .undef, .undef, .sl [] 0 .nil, .undef, .undef, .sc (.int .i64 (m)), .undef, .undef, .undef, .undef, .undef, .undef, .undef, .undef, .undef, .undef, .undef, .undef, .undef, .undef, .undef, .undef, .undef, .undef], []⟩ (by kernel_rfl) ⟨trivial, trivial⟩ ?_
  refine DerQ.callD (n_folded m (by omega) (by omega)) ⟨[.sl (u8s xs) (n) .any, .sc (.int .i64 (m)), .undef, .undef, .sl [] 0 .nil, .undef, .undef, .sc (.int .i64 (m)), .sc (.int .u64 (zig m)), .undef, .undef, .undef, .undef, .undef, .undef, .undef, .undef, .undef, .undef, .undef, .undef, .undef, .undef, .undef, .undef, .undef], []⟩ ⟨by kernel_rfl, by kernel_rfl, by kernel_rfl⟩ ?_
  refine DerQ.run ((True) ∧ (True)) ⟨[.sl (u8s xs) (n) .any, .sc (.int .i64 (m)), .undef, .undef, .sl [] 0 .nil, .sc (.int .u64 (zig m)), .undef, .sc (.int .i64 (m)), .sc (.int .u64 (zig m)), .undef, .undef, .undef, .undef, .undef, .undef, .undef, .undef, .undef, .undef, .undef, .undef, .undef, .undef, .undef, .undef, .undef], []⟩ (by kernel_rfl) ⟨trivial, trivial⟩ ?_
  refine AWP.seq ?_
  refine AWP.reg ?_
  refine DerQ.pre 1 ((True) ∧ (True)) ⟨[.sl (u8s xs) (n) .any, .sc (.int .i64 (m)), .undef, .undef, .sl [] 0 .nil, .sc (.int .u64 (zig m)), .undef, .sc (.int .i64 (m)), .sc (.int .u64 (zig m)), .sl (u8s xs) (n) .any, .undef, .undef, .undef, .undef, .undef, .undef, .undef, .undef, .undef, .undef, .undef, .undef, .undef, .undef, .undef, .undef], []⟩ (by kernel_rfl) ⟨trivial, trivial⟩ ?_
  refine DerQ.callA (n_clone xs n (by omega) (by omega)) [.sl (u8s xs) (n) .any] ⟨[.sl (u8s xs) (n) .any, .sc (.int .i64 (m)), .undef, .undef, .sl [] 0 .nil, .sc (.int .u64 (zig m)), .undef, .sc (.int .i64 (m)), .sc (.int .u64 (zig m)), .sl (u8s xs) (n) .any, .row 0 0 (n), .undef, .undef, .undef, .undef, .undef, .undef, .undef, .undef, .undef, .undef, .undef, .undef, .undef, .undef, .undef], [⟨u8s xs, 1, .fresh⟩]⟩ ⟨by kernel_rfl, by kernel_rfl, by kernel_rfl, by kernel_rfl⟩ ?_
  refine DerQ.run ((True) ∧ (True)) ⟨[.sl (u8s xs) (n) .any, .sc (.int .i64 (m)), .undef, .undef, .sl [] 0 .nil, .sc (.int .u64 (zig m)), .row 0 0 (n), .sc (.int .i64 (m)), .sc (.int .u64 (zig m)), .sl (u8s xs) (n) .any, .row 0 0 (n), .undef, .undef, .undef, .undef, .undef, .undef, .undef, .undef, .undef, .undef, .undef, .undef, .undef, .undef, .undef], [⟨u8s xs, 1, .fresh⟩]⟩ (by kernel_rfl) ⟨trivial, trivial⟩ ?_
  refine AWP.seq ?_
  refine AWP.block ?_
  refine AWP.grow 0 ⟨u8s xs, 1, .fresh⟩ ⟨[.sl (u8s xs) (n) .any, .sc (.int .i64 (m)), .undef, .undef, .sl [] 0 .nil, .sc (.int .u64 (zig m)), .row 0 0 (n), .sc (.int .i64 (m)), .sc (.int .u64 (zig m)), .sl (u8s xs) (n) .any, .row 0 0 (n), .undef, .undef, .undef, .undef, .undef, .undef, .undef, .undef, .undef, .undef, .undef, .undef, .undef, .undef, .undef], [⟨u8s xs, 1, .grown⟩]⟩ ⟨by kernel_rfl, by kernel_rfl⟩ rfl (dataAll_u8s _) ?_
  have hz := zig_rng m h0 h1
  refine AWP.loopM [true, true, false, false, true, true, true, true, true, true, true, false, false, false, false, false, false, false, false, false, false, false, false, false, false, false] (fun k st => ∃ (i : Nat) (u : Int) (pre : List Int), i ≤ 9 ∧ 0 ≤ u ∧ u < bnd i ∧ pre.length = i ∧ enc (zig m) = pre ++ encF (10 - i) u ∧ k = 9 - i ∧ st = ⟨[.sl (u8s xs) (n) .any, .sc (.int .i64 (m)), .undef, .undef, .sl [] 0 .nil, .sc (.int .u64 u), .row 0 0 (n + i), .sc (.int .i64 (m)), .sc (.int .u64 (zig m)), .sl (u8s xs) (n) .any, .row 0 0 (n), .undef, .undef, .undef, .undef, .undef, .undef, .undef, .undef, .undef, .undef, .undef, .undef, .undef, .undef, .undef], [⟨u8s (xs ++ pre), 1, .grown⟩]⟩) 9 ⟨0, zig m, [], by omega, hz.1, hz.2, rfl, rfl, rfl, by simp [St.only, onlyL]⟩ ?_
  rintro k s ⟨i, u, pre, hi, hu0, hu1, hpl, henc, rfl, rfl⟩
  have hbl := bnd_le i
  refine AWP.seq ?_
  refine AWP.seq ?_
  refine AWP.reg ?_
  refine DerQ.run ((True) ∧ ((True) ∧ (True))) ⟨[.sl (u8s xs) (n) .any, .sc (.int .i64 (m)), .undef, .undef, .sl [] 0 .nil, .sc (.int .u64 (u)), .row 0 0 (n + i), .sc (.int .i64 (m)), .sc (.int .u64 (zig m)), .sl (u8s xs) (n) .any, .row 0 0 (n), .sc (.int .u64 (u)), .sc (.bool (decide (u ≥ 128))), .undef, .undef, .undef, .undef, .undef, .undef, .undef, .undef, .undef, .undef, .undef, .undef, .undef], [⟨u8s (xs ++ pre), 1, .grown⟩]⟩ (by kernel_rfl) ⟨trivial, ⟨trivial, trivial⟩⟩ ?_
  refine AWP.cond (b := decide (u ≥ 128)) (by kernel_rfl) (fun h2 => ?_) (fun h2 => ?_)
  · have h2' := of_decide_eq_true h2
    refine AWP.skip ?_
    refine AWP.block ?_
    refine AWP.seq ?_
    refine AWP.reg ?_
    refine DerQ.run ((True) ∧ ((True) ∧ ((True) ∧ ((True) ∧ ((True) ∧ (((List.length (u8s [IntKind.wrap IntKind.u8 (↑(BitVec.toNat (BitVec.ofInt 8 (IntKind.wrap IntKind.u8 u) ||| BitVec.ofInt 8 128)) : Int)]) = 1) ∧ (((1 : Nat) = (1 : Nat)) ∧ (((n + i) * 1 = List.length (u8s (xs ++ pre))) ∧ ((n + i + 1 ≤ 1073741824) ∧ ((dataAll (u8s (xs ++ pre) ++ u8s [IntKind.wrap IntKind.u8 (↑(BitVec.toNat (BitVec.ofInt 8 (IntKind.wrap IntKind.u8 u) ||| BitVec.ofInt 8 128)) : Int)]) = true) ∧ (∀ (i : Nat), i < List.length (u8s [IntKind.wrap IntKind.u8 (↑(BitVec.toNat (BitVec.ofInt 8 (IntKind.wrap IntKind.u8 u) ||| BitVec.ofInt 8 128)) : Int)]) → AVal.one (List.getD (u8s [IntKind.wrap IntKind.u8 (↑(BitVec.toNat (BitVec.ofInt 8 (IntKind.wrap IntKind.u8 u) ||| BitVec.ofInt 8 128)) : Int)]) i AVal.undef) = true)))))) ∧ ((True) ∧ (True)))))))) ⟨[.sl (u8s xs) (n) .any, .sc (.int .i64 (m)), .undef, .undef, .sl [] 0 .nil, .sc (.int .u64 (u)), .row 0 0 (n + i + 1), .sc (.int .i64 (m)), .sc (.int .u64 (zig m)), .sl (u8s xs) (n) .any, .row 0 0 (n), .sc (.int .u64 (u)), .sc (.bool (decide (u ≥ 128))), .row 0 0 (n + i), .sc (.int .u64 (u)), .sc (.int .u8 (IntKind.wrap IntKind.u8 u)), .sc (.int .u8 (IntKind.wrap IntKind.u8 (↑(BitVec.toNat (BitVec.ofInt 8 (IntKind.wrap IntKind.u8 u) ||| BitVec.ofInt 8 128)) : Int))), .sl [.sc (.int .u8 (IntKind.wrap IntKind.u8 (↑(BitVec.toNat (BitVec.ofInt 8 (IntKind.wrap IntKind.u8 u) ||| BitVec.ofInt 8 128)) : Int)))] 1 .nn, .row 0 0 (n + i + 1), .undef, .undef, .undef, .undef, .undef, .undef, .undef], [⟨u8s (xs ++ pre) ++ u8s [IntKind.wrap IntKind.u8 (↑(BitVec.toNat (BitVec.ofInt 8 (IntKind.wrap IntKind.u8 u) ||| BitVec.ofInt 8 128)) : Int)], 1, .grown⟩]⟩ (by kernel_rfl) ⟨trivial, ⟨trivial, ⟨trivial, ⟨trivial, ⟨trivial, ⟨⟨(by rfl), ⟨(by omega), ⟨(by (simp [spliceA_length] <;> omega)), ⟨(by omega), ⟨(by (simp only [dataAll_append, dataAll_u8s, dataAll, AVal.data, Bool.and_true])), (by exact u8s_one _)⟩⟩⟩⟩⟩, ⟨trivial, trivial⟩⟩⟩⟩⟩⟩⟩ ?_
    rw [IntWalk.u8_in ((↑(BitVec.toNat (BitVec.ofInt 8 (IntKind.wrap IntKind.u8 u) ||| BitVec.ofInt 8 128)) : Int)) (by omega)]
    rw [Go.Abs.u8s_append (xs ++ pre) ([(↑(BitVec.toNat (BitVec.ofInt 8 (IntKind.wrap IntKind.u8 u) ||| BitVec.ofInt 8 128)) : Int)])]
    refine AWP.reg ?_
    refine DerQ.run ((True) ∧ (((0 : Int) ≤ (7 : Int)) ∧ ((True) ∧ (True)))) ⟨[.sl (u8s xs) (n) .any, .sc (.int .i64 (m)), .undef, .undef, .sl [] 0 .nil, .sc (.int .u64 (Int.fdiv u 128)), .row 0 0 (n + i + 1), .sc (.int .i64 (m)), .sc (.int .u64 (zig m)), .sl (u8s xs) (n) .any, .row 0 0 (n), .sc (.int .u64 (u)), .sc (.bool (decide (u ≥ 128))), .row 0 0 (n + i), .sc (.int .u64 (u)), .sc (.int .u8 (IntKind.wrap IntKind.u8 u)), .sc (.int .u8 ((↑(BitVec.toNat (BitVec.ofInt 8 (IntKind.wrap IntKind.u8 u) ||| BitVec.ofInt 8 128)) : Int))), .sl [.sc (.int .u8 ((↑(BitVec.toNat (BitVec.ofInt 8 (IntKind.wrap IntKind.u8 u) ||| BitVec.ofInt 8 128)) : Int)))] 1 .nn, .row 0 0 (n + i + 1), .sc (.int .u64 (u)), .sc (.int .u64 (Int.fdiv u 128)), .undef, .undef, .undef, .undef, .undef], [⟨u8s (xs ++ pre ++ [(↑(BitVec.toNat (BitVec.ofInt 8 (IntKind.wrap IntKind.u8 u) ||| BitVec.ofInt 8 128)) : Int)]), 1, .grown⟩]⟩ (by kernel_rfl) ⟨trivial, ⟨(by omega), ⟨trivial, trivial⟩⟩⟩ ?_
    have hu : ¬ u < 128 := by omega
    have hi8 : i ≤ 8 := by
      rcases Nat.lt_or_ge i 9 with h | h
      · omega
      · have : i = 9 := by omega
        subst this; exact absurd (bnd_nine u hu1) hu
    rw [or128 u hu0, Int.fdiv_eq_ediv_of_nonneg _ (by omega)]
    refine ⟨9 - (i + 1), by omega, i + 1, u / 128, pre ++ [u % 128 + 128], by omega, by omega, bnd_succ i u hu1, by simp [hpl], ?_, rfl, ?_⟩
    · rw [henc, enc_step i u hi hu]; simp
    · simp only [St.only, onlyL, List.append_assoc]; rfl
  · have h2' := of_decide_eq_false h2
    refine AWP.exit ?_
    refine AWP.seq ?_
    refine AWP.reg ?_
    refine DerQ.run ((True) ∧ ((True) ∧ ((True) ∧ ((True) ∧ (((List.length (u8s [IntKind.wrap IntKind.u8 u]) = 1) ∧ (((1 : Nat) = (1 : Nat)) ∧ (((n + i) * 1 = List.length (u8s (xs ++ pre))) ∧ ((n + i + 1 ≤ 1073741824) ∧ ((dataAll (u8s (xs ++ pre) ++ u8s [IntKind.wrap IntKind.u8 u]) = true) ∧ (∀ (i : Nat), i < List.length (u8s [IntKind.wrap IntKind.u8 u]) → AVal.one (List.getD (u8s [IntKind.wrap IntKind.u8 u]) i AVal.undef) = true)))))) ∧ ((True) ∧ (True))))))) ⟨[.sl (u8s xs) (n) .any, .sc (.int .i64 (m)), .undef, .undef, .row 0 0 (n + i + 1), .sc (.int .u64 (u)), .row 0 0 (n + i), .sc (.int .i64 (m)), .sc (.int .u64 (zig m)), .sl (u8s xs) (n) .any, .row 0 0 (n), .sc (.int .u64 (u)), .sc (.bool (decide (u ≥ 128))), .undef, .undef, .undef, .undef, .undef, .undef, .undef, .undef, .row 0 0 (n + i), .sc (.int .u64 (u)), .sc (.int .u8 (IntKind.wrap IntKind.u8 u)), .sl [.sc (.int .u8 (IntKind.wrap IntKind.u8 u))] 1 .nn, .row 0 0 (n + i + 1)], [⟨u8s (xs ++ pre) ++ u8s [IntKind.wrap IntKind.u8 u], 1, .grown⟩]⟩ (by kernel_rfl) ⟨trivial, ⟨trivial, ⟨trivial, ⟨trivial, ⟨⟨(by rfl), ⟨(by omega), ⟨(by (simp [spliceA_length] <;> omega)), ⟨(by omega), ⟨(by (simp only [dataAll_append, dataAll_u8s, dataAll, AVal.data, Bool.and_true])), (by exact u8s_one _)⟩⟩⟩⟩⟩, ⟨trivial, trivial⟩⟩⟩⟩⟩⟩ ?_
    rw [IntWalk.u8_in (u) (by omega)]
    rw [Go.Abs.u8s_append (xs ++ pre) ([u])]
    refine AWP.ret ?_
    refine EvF.fin (.row 0 0 (n + i + 1)) _ (by simp) (by kernel_rfl) ?_
    have hu : u < 128 := by omega
    have e : enc (zig m) = pre ++ [u] := by rw [henc, enc_last i u hi hu]
    have e2 : n + i + 1 = n + (enc (zig m)).length := by rw [e]; simp [hpl]; omega
    rw [e2, List.append_assoc, ← e]
    exact Shrink.refl _ _ _
end Go.Num
