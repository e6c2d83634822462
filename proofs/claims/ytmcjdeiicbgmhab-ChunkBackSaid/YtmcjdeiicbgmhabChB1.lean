/- Walks and laws. -/
import Derived.Test.YtmcjdeiicbgmhabMg0
import Derived.Test.YtmcjdeiicbgmhabProg
import Derived.Test.YtmcjdeiicbgmhabOpB
import Derived.Test.YtmcjdeiicbgmhabTrB
import Derived.Test.YtmcjdeiicbgmhabNum4
import Derived.Test.YtmcjdeiicbgmhabLibB
set_option maxRecDepth 100000
set_option maxHeartbeats 0
set_option linter.unusedSimpArgs false
set_option linter.unusedVariables false
namespace Go.Chu
open Go Go.Abs Go.Proofs
theorem mixed : Try.prog.follows .mixedOrders = true := by kernel_rfl
theorem bcloneA (xs : List Int) (hx : xs.length ≤ 1000000) : EvA Try.prog 39 [.sl (u8s xs) xs.length .any] (fun k => .row k 0 xs.length) (fun _ => [⟨u8s xs, 1, .fresh⟩]) := by
  refine EvA.split [] ?_ ?_
  · intro h h0
    have e : xs = [] := List.eq_nil_of_length_eq_zero h0
    subst e
    refine EvA.body Try.func39 rfl rfl (by intro k; simp [AVal.ren]) (by intro k; exact ren_row (dataAll_u8s _) k) ?_
    refine AWP.seq ?_
    refine TO ⟨[.sl [] 0 .nil] ++ UU 7, []⟩ ?_
    refine AWP.reg (RT 1 ?_)
    refine AWP.seq (AWP.seq ?_)
    refine TO ⟨[.sl [] 0 .nil, U6, .sl [] 0 .nil] ++ UU 5, []⟩ ?_
    refine AWP.reg (RT 2 ?_)
    refine KL [3] ⟨[.sl [] 0 .nil, U6, .sl [] 0 .nil, U6, (B6 true), U6, U6, .undef], []⟩ ?_
    refine CN true (fun _ => ?_) (fun h => nomatch h)
    refine SQ (RT 1 ?_)
    refine AWP.ret ?_
    refine FI (.sl [] 0 .nil) ?_
    (exact Shrink.virt 1 (.inl rfl); done)
  · refine EvA.body Try.func39 rfl rfl (by intro k; simp [AVal.ren]) (by intro k; exact ren_row (dataAll_u8s _) k) ?_
    refine AWP.seq ?_
    refine TO ⟨[.sl (u8s xs) (List.length xs) .nn] ++ UU 7, []⟩ ?_
    refine AWP.reg (RT 1 ?_)
    refine AWP.seq (AWP.seq ?_)
    refine TO ⟨[.sl (u8s xs) (List.length xs) .nn, U6, .sl [] 0 .nil] ++ UU 5, []⟩ ?_
    refine AWP.reg (RT 2 ?_)
    refine KL [3] ⟨[.sl (u8s xs) (List.length xs) .nn, U6, .sl [] 0 .nil, U6, (B6 false), U6, U6, .undef], []⟩ ?_
    refine CN false (fun h => nomatch h) (fun _ => ?_)
    refine AWP.skip (SQ (RI (True ∧ True ∧ ((List.length (u8s xs) = List.length xs * 1) ∧ (List.length xs ≤ 1073741824)) ∧ True ∧ True) ⟨trivial, trivial, ⟨(by simp), (by omega)⟩, trivial, trivial⟩ ?_))
    refine AWP.ret ?_
    refine FI (.row 0 0 (List.length xs)) ?_
    exact Shrink.refl _ _ _
theorem clone (xs : List Int) (n : Nat) (hn : n = xs.length) (hx : xs.length ≤ 1000000) : EvD Try.prog 39 [.sl (u8s xs) n .any] (.sl (u8s xs) n .any) := by subst hn; exact (bcloneA xs hx).toSl (.inl rfl) rfl rfl
theorem split (b : List Int) (hb : b.length ≤ 1000000) : EvD Try.prog 17 [.sl (u8s b) b.length .any] (.sl (bss (pieces b)) (np b) .any) := by
  refine EvD.body Try.func17 rfl rfl rfl ?_
  have hnp := npn_spec b.length
  refine AWP.seq ?_
  refine TO ⟨[.sl (u8s b) (List.length b) .any] ++ UU 38, []⟩ ?_
  refine AWP.reg (RT 1 ?_)
  refine AWP.seq ?_
  refine TO ⟨[.sl (u8s b) (List.length b) .any, U6, .sl [] 0 .nil] ++ UU 36, []⟩ ?_
  refine AWP.reg ?_
  refine DerQ.run (True ∧ True ∧ True ∧ True ∧ ((512 : Int) ≠ (0 : Int)) ∧ True ∧ True ∧ True) ⟨[.sl (u8s b) (List.length b) .any, U6, .sl [] 0 .nil, (I6 (if IntKind.wrap IntKind.i64 (Int.tdiv (IntKind.wrap IntKind.i64 (IntKind.wrap IntKind.i64 ((↑(List.length b) : Int) + 512) - 1)) 512) > 1 then IntKind.wrap IntKind.i64 (Int.tdiv (IntKind.wrap IntKind.i64 (IntKind.wrap IntKind.i64 ((↑(List.length b) : Int) + 512) - 1)) 512) else 1)), U6, U6, U6, U6, .sl (u8s b) (List.length b) .any, (I6 (↑(List.length b) : Int)), (I6 (IntKind.wrap IntKind.i64 ((↑(List.length b) : Int) + 512))), (I6 (IntKind.wrap IntKind.i64 (IntKind.wrap IntKind.i64 ((↑(List.length b) : Int) + 512) - 1))), (I6 (IntKind.wrap IntKind.i64 (Int.tdiv (IntKind.wrap IntKind.i64 (IntKind.wrap IntKind.i64 ((↑(List.length b) : Int) + 512) - 1)) 512))), (I6 (if IntKind.wrap IntKind.i64 (Int.tdiv (IntKind.wrap IntKind.i64 (IntKind.wrap IntKind.i64 ((↑(List.length b) : Int) + 512) - 1)) 512) > 1 then IntKind.wrap IntKind.i64 (Int.tdiv (IntKind.wrap IntKind.i64 (IntKind.wrap IntKind.i64 ((↑(List.length b) : Int) + 512) - 1)) 512) else 1))] ++ UU 25, []⟩ (by kernel_rfl) ⟨trivial, trivial, trivial, trivial, (by omega), trivial, trivial, trivial⟩ ?_
  rw [IntWalk.i64_in ((↑(List.length b) : Int) + 512) (by omega)]
  rw [IntWalk.i64_in ((↑(List.length b) : Int) + 512 - 1) (by omega)]
  rw [Go.Chu.npn_w (List.length b) (by omega)]
  refine AWP.seq (KL (NN 8 6) ⟨[.sl (u8s b) (List.length b) .any, U6, .sl [] 0 .nil, (I6 (↑(npn (List.length b)) : Int))] ++ UU 35, []⟩ ?_)
  refine AWP.reg ?_
  refine DerQ.run (True ∧ (((0 ≤ (↑(npn (List.length b)) : Int)) ∧ ((↑(npn (List.length b)) : Int) ≤ 1073741824)) ∧ ((↑(npn (List.length b)) : Int) = (↑(npn (List.length b)) : Int))) ∧ True ∧ True) ⟨[.sl (u8s b) (List.length b) .any, U6, .sl [] 0 .nil, (I6 (↑(npn (List.length b)) : Int)), .row 0 0 (Int.toNat (↑(npn (List.length b)) : Int))] ++ UU 9 ++ [(I6 (↑(npn (List.length b)) : Int)), .row 0 0 (Int.toNat (↑(npn (List.length b)) : Int))] ++ UU 23, [⟨repA [constA (Value.slice none 0 0)] (Int.toNat (↑(npn (List.length b)) : Int)), 1, .fresh⟩]⟩ (by kernel_rfl) ⟨trivial, ⟨⟨(by omega), (by omega)⟩, (by omega)⟩, trivial, trivial⟩ ?_
  rw [Int.toNat_natCast (npn (List.length b))]
  refine AWP.seq (SQ (RT 2 ?_))
  refine AWP.block (KL [3, 14, 15] ⟨[.sl (u8s b) (List.length b) .any, U6, .sl [] 0 .nil, U6, .row 0 0 (npn (List.length b))] ++ UU 11 ++ [(I6 (↑(npn (List.length b)) : Int)), (I6 0)] ++ UU 21, [⟨repA [constA (Value.slice none 0 0)] (npn (List.length b)), 1, .fresh⟩]⟩ ?_)
  refine AWP.loopM [true, false, true, false, true, false, false, false, false, false, false, false, false, false, false, false, true, true, false, false, false, false, false, false, false, false, false, false, false, false, false, false, false, false, false, false, false, false, false] (fun kk st => ∃ (i : Nat), kk = npn b.length - i ∧ i ≤ npn b.length ∧ st = ⟨[.sl (u8s b) (List.length b) .any, U6, .sl [] 0 .nil, U6, .row 0 0 (npn (List.length b)), U6, U6, U6, U6, U6, U6, U6, U6, U6, U6, U6, (I6 (↑(npn (List.length b)) : Int)), (I6 (i : Int)), U6, U6, U6, U6, U6, U6, U6, U6, U6, U6, U6, U6, U6, U6, U6, U6, U6, U6, U6, U6, .undef], [⟨part b (npn b.length) i, 1, .fresh⟩]⟩) _ ⟨0, rfl, by omega, by rw [← part_zero' b]; kernel_rfl⟩ ?_
  rintro kk s ⟨i, rfl, hi, rfl⟩
  refine SQ (RT 1 ?_)
  refine AWP.seq ?_
  refine TO ⟨[.sl (u8s b) (List.length b) .any, U6, .sl [] 0 .nil, U6, .row 0 0 (npn (List.length b))] ++ UU 11 ++ [(I6 (↑(npn (List.length b)) : Int)), (I6 (↑i : Int)), (B6 (decide ((↑i : Int) < (↑(npn (List.length b)) : Int))))] ++ UU 20, [⟨part b (npn (List.length b)) i, 1, .fresh⟩]⟩ ?_
  refine CN (decide ((↑i : Int) < (↑(npn (List.length b)) : Int))) (fun h1 => ?_) (fun h1 => ?_)
  · have h1' := of_decide_eq_true h1
    refine AWP.skip (AWP.seq (AWP.block (SQ (RT 2 ?_))))
    refine AWP.seq (KL [18, 19] ⟨[.sl (u8s b) (List.length b) .any, U6, .sl [] 0 .nil, U6, .row 0 0 (npn (List.length b)), (I6 (↑i : Int))] ++ UU 10 ++ [(I6 (↑(npn (List.length b)) : Int)), (I6 (↑i : Int))] ++ UU 21, [⟨part b (npn (List.length b)) i, 1, .fresh⟩]⟩ ?_)
    refine AWP.reg ?_
    refine DerQ.run (TT 10) ⟨[.sl (u8s b) (List.length b) .any, U6, .sl [] 0 .nil, U6, .row 0 0 (npn (List.length b)), (I6 (↑i : Int)), (I6 (IntKind.wrap IntKind.i64 ((↑i : Int) * 512))), (I6 (if (↑(List.length b) : Int) < IntKind.wrap IntKind.i64 (IntKind.wrap IntKind.i64 ((↑i : Int) + 1) * 512) then (↑(List.length b) : Int) else IntKind.wrap IntKind.i64 (IntKind.wrap IntKind.i64 ((↑i : Int) + 1) * 512)))] ++ UU 8 ++ [(I6 (↑(npn (List.length b)) : Int)), (I6 (↑i : Int)), U6, U6, (I6 (↑i : Int)), (I6 (IntKind.wrap IntKind.i64 ((↑i : Int) * 512))), (I6 (↑i : Int)), (I6 (IntKind.wrap IntKind.i64 ((↑i : Int) + 1))), (I6 (IntKind.wrap IntKind.i64 (IntKind.wrap IntKind.i64 ((↑i : Int) + 1) * 512))), .sl (u8s b) (List.length b) .any, (I6 (↑(List.length b) : Int)), (I6 (if (↑(List.length b) : Int) < IntKind.wrap IntKind.i64 (IntKind.wrap IntKind.i64 ((↑i : Int) + 1) * 512) then (↑(List.length b) : Int) else IntKind.wrap IntKind.i64 (IntKind.wrap IntKind.i64 ((↑i : Int) + 1) * 512)))] ++ UU 11, [⟨part b (npn (List.length b)) i, 1, .fresh⟩]⟩ (by kernel_rfl) (tt 10) ?_
    rw [IntWalk.i64_in ((↑i : Int) * 512) (by omega)]
    rw [IntWalk.i64_in ((↑i : Int) + 1) (by omega)]
    rw [IntWalk.i64_in (((↑i : Int) + 1) * 512) (by omega)]
    refine KL (NN 20 8) ⟨[.sl (u8s b) (List.length b) .any, U6, .sl [] 0 .nil, U6, .row 0 0 (npn (List.length b)), (I6 (↑i : Int)), (I6 ((↑i : Int) * 512)), (I6 (if (↑(List.length b) : Int) < ((↑i : Int) + 1) * 512 then (↑(List.length b) : Int) else ((↑i : Int) + 1) * 512))] ++ UU 8 ++ [(I6 (↑(npn (List.length b)) : Int)), (I6 (↑i : Int))] ++ UU 21, [⟨part b (npn (List.length b)) i, 1, .fresh⟩]⟩ ?_
    refine AWP.reg ?_
    refine DerQ.pre 7 (True ∧ True ∧ True ∧ True ∧ True ∧ True ∧ (((0 ≤ (↑i : Int) * 512) ∧ (((↑i : Int) * 512 ≤ if (↑(List.length b) : Int) < ((↑i : Int) + 1) * 512 then (↑(List.length b) : Int) else ((↑i : Int) + 1) * 512) ∧ (((if (↑(List.length b) : Int) < ((↑i : Int) + 1) * 512 then (↑(List.length b) : Int) else ((↑i : Int) + 1) * 512) ≤ if (↑(List.length b) : Int) < ((↑i : Int) + 1) * 512 then (↑(List.length b) : Int) else ((↑i : Int) + 1) * 512) ∧ ((if (↑(List.length b) : Int) < ((↑i : Int) + 1) * 512 then (↑(List.length b) : Int) else ((↑i : Int) + 1) * 512) ≤ (↑(List.length b) : Int))))) ∧ (Int.toNat (if (↑(List.length b) : Int) < ((↑i : Int) + 1) * 512 then (↑(List.length b) : Int) else ((↑i : Int) + 1) * 512) * 1 ≤ List.length (u8s b))) ∧ True) ⟨[.sl (u8s b) (List.length b) .any, U6, .sl [] 0 .nil, U6, .row 0 0 (npn (List.length b)), (I6 (↑i : Int)), (I6 ((↑i : Int) * 512)), (I6 (if (↑(List.length b) : Int) < ((↑i : Int) + 1) * 512 then (↑(List.length b) : Int) else ((↑i : Int) + 1) * 512))] ++ UU 8 ++ [(I6 (↑(npn (List.length b)) : Int)), (I6 (↑i : Int))] ++ UU 10 ++ [.row 0 0 (npn (List.length b)), (I6 (↑i : Int)), .sl (u8s b) (List.length b) .any, (I6 ((↑i : Int) * 512)), (I6 (if (↑(List.length b) : Int) < ((↑i : Int) + 1) * 512 then (↑(List.length b) : Int) else ((↑i : Int) + 1) * 512)), (I6 (if (↑(List.length b) : Int) < ((↑i : Int) + 1) * 512 then (↑(List.length b) : Int) else ((↑i : Int) + 1) * 512)), .sl (List.take ((Int.toNat (if (↑(List.length b) : Int) < ((↑i : Int) + 1) * 512 then (↑(List.length b) : Int) else ((↑i : Int) + 1) * 512) - Int.toNat ((↑i : Int) * 512)) * 1) (List.drop (Int.toNat ((↑i : Int) * 512) * 1) (u8s b))) (Int.toNat (if (↑(List.length b) : Int) < ((↑i : Int) + 1) * 512 then (↑(List.length b) : Int) else ((↑i : Int) + 1) * 512) - Int.toNat ((↑i : Int) * 512)) .any, U6, U6, U6, .undef], [⟨part b (npn (List.length b)) i, 1, .fresh⟩]⟩ (by kernel_rfl) ⟨trivial, trivial, trivial, trivial, trivial, trivial, ⟨⟨(by omega), ⟨(by omega), ⟨(by omega), (by omega)⟩⟩⟩, (by (simp [spliceA_length] <;> omega))⟩, trivial⟩ ?_
    rw [Nat.mul_one (Int.toNat (if (↑(List.length b) : Int) < ((↑i : Int) + 1) * 512 then (↑(List.length b) : Int) else ((↑i : Int) + 1) * 512) - Int.toNat ((↑i : Int) * 512))]
    rw [Nat.mul_one (Int.toNat ((↑i : Int) * 512))]
    rw [Go.Abs.u8s_drop (Int.toNat ((↑i : Int) * 512)) (b)]
    rw [Go.Abs.u8s_take (Int.toNat (if (↑(List.length b) : Int) < ((↑i : Int) + 1) * 512 then (↑(List.length b) : Int) else ((↑i : Int) + 1) * 512) - Int.toNat ((↑i : Int) * 512)) (List.drop (Int.toNat ((↑i : Int) * 512)) b)]
    refine DerQ.callD (clone (List.take (Int.toNat (if (↑(List.length b) : Int) < ((↑i : Int) + 1) * 512 then (↑(List.length b) : Int) else ((↑i : Int) + 1) * 512) - Int.toNat ((↑i : Int) * 512)) (List.drop (Int.toNat ((↑i : Int) * 512)) b)) (Int.toNat (if (↑(List.length b) : Int) < ((↑i : Int) + 1) * 512 then (↑(List.length b) : Int) else ((↑i : Int) + 1) * 512) - Int.toNat ((↑i : Int) * 512)) (by (simp [spliceA_length] <;> omega)) (by (simp [spliceA_length] <;> omega))) ⟨[.sl (u8s b) (List.length b) .any, U6, .sl [] 0 .nil, U6, .row 0 0 (npn (List.length b)), (I6 (↑i : Int)), (I6 ((↑i : Int) * 512)), (I6 (if (↑(List.length b) : Int) < ((↑i : Int) + 1) * 512 then (↑(List.length b) : Int) else ((↑i : Int) + 1) * 512))] ++ UU 8 ++ [(I6 (↑(npn (List.length b)) : Int)), (I6 (↑i : Int))] ++ UU 10 ++ [.row 0 0 (npn (List.length b)), (I6 (↑i : Int)), .sl (u8s b) (List.length b) .any, (I6 ((↑i : Int) * 512)), (I6 (if (↑(List.length b) : Int) < ((↑i : Int) + 1) * 512 then (↑(List.length b) : Int) else ((↑i : Int) + 1) * 512)), (I6 (if (↑(List.length b) : Int) < ((↑i : Int) + 1) * 512 then (↑(List.length b) : Int) else ((↑i : Int) + 1) * 512)), .sl (u8s (List.take (Int.toNat (if (↑(List.length b) : Int) < ((↑i : Int) + 1) * 512 then (↑(List.length b) : Int) else ((↑i : Int) + 1) * 512) - Int.toNat ((↑i : Int) * 512)) (List.drop (Int.toNat ((↑i : Int) * 512)) b))) (Int.toNat (if (↑(List.length b) : Int) < ((↑i : Int) + 1) * 512 then (↑(List.length b) : Int) else ((↑i : Int) + 1) * 512) - Int.toNat ((↑i : Int) * 512)) .any, .sl (u8s (List.take (Int.toNat (if (↑(List.length b) : Int) < ((↑i : Int) + 1) * 512 then (↑(List.length b) : Int) else ((↑i : Int) + 1) * 512) - Int.toNat ((↑i : Int) * 512)) (List.drop (Int.toNat ((↑i : Int) * 512)) b))) (Int.toNat (if (↑(List.length b) : Int) < ((↑i : Int) + 1) * 512 then (↑(List.length b) : Int) else ((↑i : Int) + 1) * 512) - Int.toNat ((↑i : Int) * 512)) .any, U6, U6, .undef], [⟨part b (npn (List.length b)) i, 1, .fresh⟩]⟩ ⟨by kernel_rfl, by kernel_rfl, by kernel_rfl⟩ ?_
    refine DerQ.run ((((0 ≤ (↑i : Int)) ∧ ((↑i : Int) < (↑(npn (List.length b)) : Int))) ∧ ((1 : Nat) = (1 : Nat))) ∧ (0 + Int.toNat (↑i : Int) * 1 + 1 ≤ List.length (part b (npn (List.length b)) i)) ∧ True) ⟨[.sl (u8s b) (List.length b) .any, U6, .sl [] 0 .nil, U6, .row 0 0 (npn (List.length b)), (I6 (↑i : Int)), (I6 ((↑i : Int) * 512)), (I6 (if (↑(List.length b) : Int) < ((↑i : Int) + 1) * 512 then (↑(List.length b) : Int) else ((↑i : Int) + 1) * 512))] ++ UU 8 ++ [(I6 (↑(npn (List.length b)) : Int)), (I6 (↑i : Int))] ++ UU 10 ++ [.row 0 0 (npn (List.length b)), (I6 (↑i : Int)), .sl (u8s b) (List.length b) .any, (I6 ((↑i : Int) * 512)), (I6 (if (↑(List.length b) : Int) < ((↑i : Int) + 1) * 512 then (↑(List.length b) : Int) else ((↑i : Int) + 1) * 512)), (I6 (if (↑(List.length b) : Int) < ((↑i : Int) + 1) * 512 then (↑(List.length b) : Int) else ((↑i : Int) + 1) * 512)), .sl (u8s (List.take (Int.toNat (if (↑(List.length b) : Int) < ((↑i : Int) + 1) * 512 then (↑(List.length b) : Int) else ((↑i : Int) + 1) * 512) - Int.toNat ((↑i : Int) * 512)) (List.drop (Int.toNat ((↑i : Int) * 512)) b))) (Int.toNat (if (↑(List.length b) : Int) < ((↑i : Int) + 1) * 512 then (↑(List.length b) : Int) else ((↑i : Int) + 1) * 512) - Int.toNat ((↑i : Int) * 512)) .any, .sl (u8s (List.take (Int.toNat (if (↑(List.length b) : Int) < ((↑i : Int) + 1) * 512 then (↑(List.length b) : Int) else ((↑i : Int) + 1) * 512) - Int.toNat ((↑i : Int) * 512)) (List.drop (Int.toNat ((↑i : Int) * 512)) b))) (Int.toNat (if (↑(List.length b) : Int) < ((↑i : Int) + 1) * 512 then (↑(List.length b) : Int) else ((↑i : Int) + 1) * 512) - Int.toNat ((↑i : Int) * 512)) .any, .ptr 0 (0 + Int.toNat (↑i : Int) * 1), U6, .undef], [⟨spliceA (part b (npn (List.length b)) i) (0 + Int.toNat (↑i : Int) * 1) [AVal.sl (u8s (List.take (Int.toNat (if (↑(List.length b) : Int) < ((↑i : Int) + 1) * 512 then (↑(List.length b) : Int) else ((↑i : Int) + 1) * 512) - Int.toNat ((↑i : Int) * 512)) (List.drop (Int.toNat ((↑i : Int) * 512)) b))) (Int.toNat (if (↑(List.length b) : Int) < ((↑i : Int) + 1) * 512 then (↑(List.length b) : Int) else ((↑i : Int) + 1) * 512) - Int.toNat ((↑i : Int) * 512)) SlK.any], 1, .fresh⟩]⟩ (by kernel_rfl) ⟨⟨⟨(by omega), (by omega)⟩, (by omega)⟩, (by (rw [part_length]; omega)), trivial⟩ ?_
    rw [Int.toNat_natCast (i)]
    rw [Nat.mul_one (i)]
    rw [Nat.zero_add (i)]
    refine KL ([5, 6, 7] ++ NN 28 9) ⟨[.sl (u8s b) (List.length b) .any, U6, .sl [] 0 .nil, U6, .row 0 0 (npn (List.length b))] ++ UU 11 ++ [(I6 (↑(npn (List.length b)) : Int)), (I6 (↑i : Int))] ++ UU 21, [⟨spliceA (part b (npn (List.length b)) i) i [AVal.sl (u8s (List.take (Int.toNat (if (↑(List.length b) : Int) < ((↑i : Int) + 1) * 512 then (↑(List.length b) : Int) else ((↑i : Int) + 1) * 512) - Int.toNat ((↑i : Int) * 512)) (List.drop (Int.toNat ((↑i : Int) * 512)) b))) (Int.toNat (if (↑(List.length b) : Int) < ((↑i : Int) + 1) * 512 then (↑(List.length b) : Int) else ((↑i : Int) + 1) * 512) - Int.toNat ((↑i : Int) * 512)) SlK.any], 1, .fresh⟩]⟩ ?_
    refine AWP.reg ?_
    refine DerQ.run (TT 2) ⟨[.sl (u8s b) (List.length b) .any, U6, .sl [] 0 .nil, U6, .row 0 0 (npn (List.length b))] ++ UU 11 ++ [(I6 (↑(npn (List.length b)) : Int)), (I6 (IntKind.wrap IntKind.i64 ((↑i : Int) + 1)))] ++ UU 19 ++ [(I6 (IntKind.wrap IntKind.i64 ((↑i : Int) + 1))), .undef], [⟨spliceA (part b (npn (List.length b)) i) i [AVal.sl (u8s (List.take (Int.toNat (if (↑(List.length b) : Int) < ((↑i : Int) + 1) * 512 then (↑(List.length b) : Int) else ((↑i : Int) + 1) * 512) - Int.toNat ((↑i : Int) * 512)) (List.drop (Int.toNat ((↑i : Int) * 512)) b))) (Int.toNat (if (↑(List.length b) : Int) < ((↑i : Int) + 1) * 512 then (↑(List.length b) : Int) else ((↑i : Int) + 1) * 512) - Int.toNat ((↑i : Int) * 512)) SlK.any], 1, .fresh⟩]⟩ (by kernel_rfl) (tt 2) ?_
    rw [IntWalk.i64_in ((↑i : Int) + 1) (by omega)]
    (rw [part_round b _ i (by omega) (by omega)]; exact ⟨_, by omega, i + 1, rfl, by omega, by kernel_rfl⟩; done)
  · have h1' := of_decide_eq_false h1
    refine AWP.exit ?_
    refine AWP.seq (KL [0, 16, 17, 18] ⟨[U6, U6, .sl [] 0 .nil, U6, .row 0 0 (npn (List.length b))] ++ UU 34, [⟨part b (npn (List.length b)) i, 1, .fresh⟩]⟩ ?_)
    refine AWP.reg (RT 2 ?_)
    refine AWP.ret ?_
    refine FI (.row 0 0 (npn (List.length b))) ?_
    refine Shrink.dataK [0] ((dataAll (part b (npn (List.length b)) i) = true) ∧ (True)) (.sl (List.take (npn (List.length b) * 1) (List.drop 0 (part b (npn (List.length b)) i))) (npn (List.length b)) .any) (by kernel_rfl) ⟨(by (exact part_data _ _ _)), trivial⟩ ?_ rfl
    ((have hi2 : i = npn b.length := by omega); subst hi2; rw [List.drop_zero, Nat.mul_one, List.take_of_length_le (by rw [part_length]; omega), part_end]; rfl; done)
theorem begins (b : List Int) (hb : b.length ≤ 1000000) (f m : Int) : EvD Try.prog 20 [.sl (u8s b) b.length .any, .sc (.int .i64 f), .sc (.int .i64 m)] (.agg [.sc (.int .i64 f), .sc (.int .i64 m), .sc (.int .i64 (np b : Int)), .sl (bss (pieces b)) (np b) .any]) := by
  have s1 := split b hb
  have hnp := npn_spec b.length
  refine EvD.body Try.func20 rfl rfl rfl ?_
  refine AWP.seq ?_
  refine TO ⟨[.sl (u8s b) (List.length b) .any, (I6 f), (I6 m)] ++ UU 13, []⟩ ?_
  refine AWP.reg (RT 1 ?_)
  refine AWP.seq ?_
  refine TO ⟨[.sl (u8s b) (List.length b) .any, (I6 f), (I6 m), U6, U6, U6, .ptr 0 0] ++ UU 9, [⟨[(I6 0), (I6 0), (I6 0), .sl [] 0 .nil], 4, .fresh⟩]⟩ ?_
  refine AWP.reg (PT 1 1 ?_)
  refine CD (s1) ?_
  refine RT 1 ?_
  refine AWP.seq (KL [0, 8, 9] ⟨[U6, (I6 f), (I6 m), U6, U6, U6, .ptr 0 0, .sl (bss (pieces b)) (np b) .any] ++ UU 8, [⟨[(I6 0), (I6 0), (I6 0), .sl [] 0 .nil], 4, .fresh⟩]⟩ ?_)
  refine AWP.reg (RI (True ∧ True ∧ True ∧ True ∧ True ∧ True ∧ 4 ≤ 4 ∧ True) ⟨trivial, trivial, trivial, trivial, trivial, trivial, (by omega), trivial⟩ ?_)
  refine AWP.ret FA
theorem clone2 (l : List (List Int)) (hl : l.length ≤ 1000000) : EvA Try.prog 40 [.sl (bss l) l.length .any] (fun k => .row k 0 l.length) (fun _ => [⟨bss l, 1, .fresh⟩]) := by
  refine EvA.split [] ?_ ?_
  · intro h h0
    refine EvA.body Try.func40 rfl rfl (by intro k; simp [AVal.ren]) (by intro k; exact ren_row (dataAll_bss _) k) ?_
    refine AWP.seq ?_
    refine TO ⟨[.sl [] 0 .nil] ++ UU 7, []⟩ ?_
    refine AWP.reg (RT 1 ?_)
    refine AWP.seq (AWP.seq ?_)
    refine TO ⟨[.sl [] 0 .nil, U6, .sl [] 0 .nil] ++ UU 5, []⟩ ?_
    refine AWP.reg (RT 2 ?_)
    refine KL [3] ⟨[.sl [] 0 .nil, U6, .sl [] 0 .nil, U6, (B6 true), U6, U6, .undef], []⟩ ?_
    refine CN true (fun _ => ?_) (fun h => nomatch h)
    refine SQ (RT 1 ?_)
    refine AWP.ret ?_
    refine FI (.sl [] 0 .nil) ?_
    (have e : l = [] := List.eq_nil_of_length_eq_zero (by simpa using h0); subst e; exact Shrink.virt 1 (.inl rfl); done)
  · refine EvA.body Try.func40 rfl rfl (by intro k; simp [AVal.ren]) (by intro k; exact ren_row (dataAll_bss _) k) ?_
    refine AWP.seq ?_
    refine TO ⟨[.sl (bss l) (List.length l) .nn] ++ UU 7, []⟩ ?_
    refine AWP.reg (RT 1 ?_)
    refine AWP.seq (AWP.seq ?_)
    refine TO ⟨[.sl (bss l) (List.length l) .nn, U6, .sl [] 0 .nil] ++ UU 5, []⟩ ?_
    refine AWP.reg (RT 2 ?_)
    refine KL [3] ⟨[.sl (bss l) (List.length l) .nn, U6, .sl [] 0 .nil, U6, (B6 false), U6, U6, .undef], []⟩ ?_
    refine CN false (fun h => nomatch h) (fun _ => ?_)
    refine AWP.skip (SQ (RI (True ∧ True ∧ ((List.length (bss l) = List.length l * 1) ∧ (List.length l ≤ 1073741824)) ∧ True ∧ True) ⟨trivial, trivial, ⟨(by simp), (by omega)⟩, trivial, trivial⟩ ?_))
    refine AWP.ret ?_
    refine FI (.row 0 0 (List.length l)) ?_
    exact Shrink.refl _ _ _
theorem grow0 : EvD Try.prog 52 [.sl [] 0 .nil, .sc (.int .i64 0)] (.sl [] 0 .nil) := by
  refine EvD.body Try.func52 rfl rfl rfl ?_
  refine AWP.seq ?_
  refine TO ⟨[.sl [] 0 .nil, (I6 0)] ++ UU 25, []⟩ ?_
  refine AWP.reg (RT 1 ?_)
  refine AWP.seq (AWP.seq ?_)
  refine TO ⟨[.sl [] 0 .nil, (I6 0), U6, U6, .sl [] 0 .nil] ++ UU 22, []⟩ ?_
  refine AWP.reg (RT 2 ?_)
  refine KL [5] ⟨[.sl [] 0 .nil, (I6 0), U6, U6, .sl [] 0 .nil, U6, (B6 false)] ++ UU 20, []⟩ ?_
  refine CN false (fun h => nomatch h) (fun _ => ?_)
  refine AWP.skip (AWP.seq (SQ (RT 8 ?_)))
  refine AWP.seq (KL ([6] ++ NN 8 7) ⟨[.sl [] 0 .nil, (I6 0), U6, U6, .sl [] 0 .nil] ++ UU 22, []⟩ ?_)
  refine AWP.reg (RT 2 ?_)
  refine KL [15] ⟨[.sl [] 0 .nil, (I6 0), U6, U6, .sl [] 0 .nil] ++ UU 11 ++ [(B6 false)] ++ UU 10, []⟩ ?_
  refine CN false (fun h => nomatch h) (fun _ => ?_)
  refine AWP.skip (SQ (RT 2 ?_))
  refine AWP.ret FA
theorem grow1 (n : Nat) (h : 0 < n) (h2 : n ≤ 1000000) : EvA Try.prog 52 [.sl [] 0 .nil, .sc (.int .i64 (n : Int))] (fun k => .row k 0 0) (fun _ => [⟨[], 1, .fresh⟩]) := by
  refine EvA.body Try.func52 rfl rfl (by intro k; simp [AVal.ren]) (by intro k; exact ren_row rfl k) ?_
  refine AWP.seq ?_
  refine TO ⟨[.sl [] 0 .nil, (I6 (↑n : Int))] ++ UU 25, []⟩ ?_
  refine AWP.reg (RT 1 ?_)
  refine AWP.seq (AWP.seq ?_)
  refine TO ⟨[.sl [] 0 .nil, (I6 (↑n : Int)), U6, U6, .sl [] 0 .nil] ++ UU 22, []⟩ ?_
  refine AWP.reg (RT 2 ?_)
  refine KL [5] ⟨[.sl [] 0 .nil, (I6 (↑n : Int)), U6, U6, .sl [] 0 .nil, U6, (B6 false)] ++ UU 20, []⟩ ?_
  refine CN false (fun h => nomatch h) (fun _ => ?_)
  refine AWP.skip (AWP.seq (SQ ?_))
  refine DerQ.run (TT 8) ⟨[.sl [] 0 .nil, (I6 (IntKind.wrap IntKind.i64 ((↑n : Int) - 0))), U6, U6, .sl [] 0 .nil, U6, (B6 false), U6, (I6 (↑n : Int)), .sl [] 0 .nil, (I6 0), .sl [] 0 .nil, (I6 0), (I6 0), (I6 (IntKind.wrap IntKind.i64 ((↑n : Int) - 0)))] ++ UU 12, []⟩ (by kernel_rfl) (tt 8) ?_
  rw [IntWalk.i64_in ((↑n : Int) - 0) (by omega)]
  refine AWP.seq (KL ([6] ++ NN 8 7) ⟨[.sl [] 0 .nil, (I6 ((↑n : Int) - 0)), U6, U6, .sl [] 0 .nil] ++ UU 22, []⟩ ?_)
  refine AWP.reg (RT 2 ?_)
  refine KL [15] ⟨[.sl [] 0 .nil, (I6 ((↑n : Int) - 0)), U6, U6, .sl [] 0 .nil] ++ UU 11 ++ [(B6 (decide ((↑n : Int) - 0 > 0)))] ++ UU 10, []⟩ ?_
  refine CN (decide ((↑n : Int) - 0 > 0)) (fun h1 => ?_) (fun h1 => ?_)
  · have h1' := of_decide_eq_true h1
    refine AWP.reg (RI (True ∧ True ∧ True ∧ (((0 : Int) = (0 : Int)) ∧ ((0 : Int) = (0 : Int))) ∧ True ∧ ((0 < (↑n : Int) - 0) ∧ ((↑n : Int) - 0 ≤ 1073741824)) ∧ True ∧ True ∧ ((((0 : Int) ≤ (0 : Int)) ∧ ((0 < (↑(Int.toNat ((↑n : Int) - 0)) : Int)) ∧ (((0 : Int) ≤ (0 : Int)) ∧ (0 ≤ (↑(Int.toNat ((↑n : Int) - 0)) : Int))))) ∧ ((1 : Nat) = (1 : Nat))) ∧ True ∧ True) ⟨trivial, trivial, trivial, ⟨(by omega), (by omega)⟩, trivial, ⟨(by omega), (by omega)⟩, trivial, trivial, ⟨⟨(by omega), ⟨(by omega), ⟨(by omega), (by omega)⟩⟩⟩, (by omega)⟩, trivial, trivial⟩ ?_)
    refine AWP.seq (KL ([1] ++ NN 16 10) ⟨[.row 0 0 0, U6, U6, U6, .sl [] 0 .nil] ++ UU 22, [⟨repA [constA (Value.int IntKind.u8 0)] (Int.toNat ((↑n : Int) - 0)), 1, .fresh⟩]⟩ ?_)
    refine AWP.reg (RT 2 ?_)
    refine AWP.ret ?_
    refine FI (.row 0 0 0) ?_
    (exact Shrink.room rfl; done)
  · have h1' := of_decide_eq_false h1
    exfalso; omega
theorem done (f m o : Int) (l : List (List Int)) : EvD Try.prog 23 [.agg [.sc (.int .i64 f), .sc (.int .i64 m), .sc (.int .i64 o), .sl (bss l) l.length .any]] (.sc (.bool (decide (0 < o ∧ o = l.length)))) := by
  refine EvD.body Try.func23 rfl rfl rfl ?_
  refine AWP.seq ?_
  refine TO ⟨[.agg [(I6 f), (I6 m), (I6 o), .sl (bss l) (List.length l) .any]] ++ UU 13, []⟩ ?_
  refine AWP.reg (RT 2 ?_)
  refine AWP.seq (KL [0] ⟨[U6, .ptr 0 0, (B6 false)] ++ UU 11, [⟨[(I6 f), (I6 m), (I6 o), .sl (bss l) (List.length l) .any], 4, .fresh⟩]⟩ ?_)
  refine AWP.reg (PI 4 (True ∧ 2 < 4 ∧ True ∧ True ∧ True) ⟨trivial, (by omega), trivial, trivial, trivial⟩ ?_)
  refine DerQ.to ⟨[U6, .ptr 0 0, (B6 false), .ptr 0 2, (I6 o), (B6 (decide (o > 0))), (B6 (decide (o > 0)))] ++ UU 7, [⟨[(I6 f), (I6 m), (I6 o), .sl (bss l) (List.length l) .any], 4, .fresh⟩]⟩ (by kernel_rfl) ?_
  cases h1 : (decide (o > 0))
  · have h1' := of_decide_eq_false h1
    refine RT 2 ?_
    refine AWP.ret ?_
    refine FI (.sc (.bool false)) ?_
    refine Shrink.all ?_ rfl
    (congr 2; grind; done)
  · have h1' := of_decide_eq_true h1
    refine RI (True ∧ 2 < 4 ∧ True ∧ 3 < 4 ∧ True ∧ True ∧ True ∧ True ∧ True) ⟨trivial, (by omega), trivial, (by omega), trivial, trivial, trivial, trivial, trivial⟩ ?_
    refine AWP.ret ?_
    refine FI (.sc (.bool (o == (↑(List.length l) : Int)))) ?_
    refine Shrink.all ?_ rfl
    (congr 2; grind; done)
end Go.Chu
