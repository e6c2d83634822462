/- Walks and laws. -/
import Derived.Test.YtikllaiggklljaaDk6
import Derived.Test.YtikllaiggklljaaMg0
import Derived.Test.YtikllaiggklljaaLibC
set_option maxRecDepth 100000
set_option maxHeartbeats 0
set_option linter.unusedSimpArgs false
set_option linter.unusedVariables false
namespace Go.Chu
open Go Go.Abs Go.Proofs
theorem mixed : Try.prog.follows .mixedOrders = true := by kernel_rfl
theorem grow0 : EvD Try.prog 94 [.sl [] 0 .nil, .sc (.int .i64 0)] (.sl [] 0 .nil) := by
  refine EvD.body Try.func94 rfl rfl rfl ?_
  refine AWP.seq ?_
  refine TO ⟨[.sl [] 0 .nil, (I6 0)] ++ UU 25, []⟩ ?_
  refine AWP.reg (RT 1 ?_)
  refine AWP.seq (AWP.seq ?_)
  refine TO ⟨[.sl [] 0 .nil, (I6 0), U6, U6, .sl [] 0 .nil] ++ UU 22, []⟩ ?_
  refine AWP.reg (RT 2 ?_)
  refine KL [5] ⟨[.sl [] 0 .nil, (I6 0), U6, U6, .sl [] 0 .nil, U6, (B6 false)] ++ UU 20, []⟩ ?_
  refine CN false (fun h => nomatch h) (fun _ => ?_)
  refine AWP.skip (AWP.seq (SQ (RT 8 ?_)))
  refine AWP.seq (KL ([6] ++ NN 8 7) ⟨[.sl [] 0 .nil, (I6 0), U6, U6, .sl [] 0 .nil] ++ UU 22, []⟩ ?_)
  refine AWP.reg (RT 2 ?_)
  refine KL [15] ⟨[.sl [] 0 .nil, (I6 0), U6, U6, .sl [] 0 .nil] ++ UU 11 ++ [(B6 false)] ++ UU 10, []⟩ ?_
  refine CN false (fun h => nomatch h) (fun _ => ?_)
  refine AWP.skip (SQ (RT 2 ?_))
  refine AWP.ret FA
theorem grow1 (n : Nat) (h : 0 < n) (h2 : n ≤ 2000000) : EvA Try.prog 94 [.sl [] 0 .nil, .sc (.int .i64 (n : Int))] (fun k => .row k 0 0) (fun _ => [⟨[], 1, .fresh⟩]) := by
  refine EvA.body Try.func94 rfl rfl (by intro k; simp [AVal.ren]) (by intro k; exact ren_row rfl k) ?_
  refine AWP.seq ?_
  refine TO ⟨[.sl [] 0 .nil, (I6 (↑n : Int))] ++ UU 25, []⟩ ?_
  refine AWP.reg (RT 1 ?_)
  refine AWP.seq (AWP.seq ?_)
  refine TO ⟨[.sl [] 0 .nil, (I6 (↑n : Int)), U6, U6, .sl [] 0 .nil] ++ UU 22, []⟩ ?_
  refine AWP.reg (RT 2 ?_)
  refine KL [5] ⟨[.sl [] 0 .nil, (I6 (↑n : Int)), U6, U6, .sl [] 0 .nil, U6, (B6 false)] ++ UU 20, []⟩ ?_
  refine CN false (fun h => nomatch h) (fun _ => ?_)
  refine AWP.skip (AWP.seq (SQ ?_))
  refine DerQ.run (TT 8) ⟨[.sl [] 0 .nil, (I6 (IntKind.wrap IntKind.i64 ((↑n : Int) - 0))), U6, U6, .sl [] 0 .nil, U6, (B6 false), U6, (I6 (↑n : Int)), .sl [] 0 .nil, (I6 0), .sl [] 0 .nil, (I6 0), (I6 0), (I6 (IntKind.wrap IntKind.i64 ((↑n : Int) - 0)))] ++ UU 12, []⟩ (by kernel_rfl) (tt 8) ?_
  rw [IntWalk.i64_in ((↑n : Int) - 0) (by omega)]
  refine AWP.seq (KL ([6] ++ NN 8 7) ⟨[.sl [] 0 .nil, (I6 ((↑n : Int) - 0)), U6, U6, .sl [] 0 .nil] ++ UU 22, []⟩ ?_)
  refine AWP.reg (RT 2 ?_)
  refine KL [15] ⟨[.sl [] 0 .nil, (I6 ((↑n : Int) - 0)), U6, U6, .sl [] 0 .nil] ++ UU 11 ++ [(B6 (decide ((↑n : Int) - 0 > 0)))] ++ UU 10, []⟩ ?_
  refine CN (decide ((↑n : Int) - 0 > 0)) (fun h1 => ?_) (fun h1 => ?_)
  · have h1' := of_decide_eq_true h1
    refine AWP.reg (RI (True ∧ True ∧ True ∧ (((0 : Int) = (0 : Int)) ∧ ((0 : Int) = (0 : Int))) ∧ True ∧ ((0 < (↑n : Int) - 0) ∧ ((↑n : Int) - 0 ≤ 1073741824)) ∧ True ∧ True ∧ ((((0 : Int) ≤ (0 : Int)) ∧ ((0 < (↑(Int.toNat ((↑n : Int) - 0)) : Int)) ∧ (((0 : Int) ≤ (0 : Int)) ∧ (0 ≤ (↑(Int.toNat ((↑n : Int) - 0)) : Int))))) ∧ ((1 : Nat) = (1 : Nat))) ∧ True ∧ True) ⟨trivial, trivial, trivial, ⟨(by omega), (by omega)⟩, trivial, ⟨(by omega), (by omega)⟩, trivial, trivial, ⟨⟨(by omega), ⟨(by omega), ⟨(by omega), (by omega)⟩⟩⟩, (by omega)⟩, trivial, trivial⟩ ?_)
    refine AWP.seq (KL ([1] ++ NN 16 10) ⟨[.row 0 0 0, U6, U6, U6, .sl [] 0 .nil] ++ UU 22, [⟨repA [constA (Value.int IntKind.u8 0)] (Int.toNat ((↑n : Int) - 0)), 1, .fresh⟩]⟩ ?_)
    refine AWP.reg (RT 2 ?_)
    refine AWP.ret ?_
    refine FI (.row 0 0 0) ?_
    (exact Shrink.room rfl; done)
  · have h1' := of_decide_eq_false h1
    exfalso; omega
theorem grow00 (n : Nat) (h : n = 0) : EvD Try.prog 94 [.sl [] 0 .nil, .sc (.int .i64 (n : Int))] (.sl [] 0 .nil) := by subst h; exact grow0
theorem concat (l : List (List Int)) (hl : l.length ≤ 1000) (hs : l.flatten.length ≤ 2000000) : EvD Try.prog 79 [.sl (bss l) l.length .any] (.sl (u8s l.flatten) l.flatten.length .any) := by
  by_cases h0 : l.flatten.length = 0
  · refine EvD.body Try.func79 rfl rfl rfl ?_
    refine AWP.seq ?_
    refine TO ⟨[.sl (bss l) (List.length l) .any] ++ UU 35, []⟩ ?_
    refine AWP.reg (RT 1 ?_)
    refine AWP.seq ?_
    refine TO ⟨[.sl (bss l) (List.length l) .any, U6, .sl [] 0 .nil] ++ UU 33, []⟩ ?_
    refine AWP.reg (RT 1 ?_)
    refine AWP.seq (AWP.seq ?_)
    refine TO ⟨[.sl (bss l) (List.length l) .any, U6, .sl [] 0 .nil, (I6 0)] ++ UU 32, []⟩ ?_
    refine AWP.reg (RT 3 ?_)
    refine AWP.block ?_
    refine TO ⟨[.sl (bss l) (List.length l) .any, U6, .sl [] 0 .nil, (I6 0)] ++ UU 5 ++ [.sl (bss l) (List.length l) .any, (I6 (↑(List.length l) : Int)), (I6 0)] ++ UU 24, []⟩ ?_
    refine AWP.loopM [true, false, true, true, false, false, false, false, false, true, true, true, false, false, false, false, false, false, false, false, false, false, false, false, false, false, false, false, false, false, false, false, false, false, false, false] (fun kk st => ∃ (i : Nat), kk = l.length - i ∧ i ≤ l.length ∧ st = ⟨[.sl (bss l) (List.length l) .any, U6, .sl [] 0 .nil, (I6 (flt l i : Int)), U6, U6, U6, U6, U6, .sl (bss l) (List.length l) .any, (I6 (↑(List.length l) : Int)), (I6 (i : Int)), U6, U6, U6, U6, U6, U6, U6, U6, U6, U6, U6, U6, U6, U6, U6, U6, U6, U6, U6, U6, U6, U6, U6, .undef], []⟩) _ ⟨0, rfl, by omega, by kernel_rfl⟩ ?_
    rintro kk s ⟨i, rfl, hi, rfl⟩
    have hle := flt_le l i
    have hit := item_le l i
    refine SQ (RT 1 ?_)
    refine AWP.seq ?_
    refine TO ⟨[.sl (bss l) (List.length l) .any, U6, .sl [] 0 .nil, (I6 (↑(flt l i) : Int))] ++ UU 5 ++ [.sl (bss l) (List.length l) .any, (I6 (↑(List.length l) : Int)), (I6 (↑i : Int)), (B6 (decide ((↑i : Int) < (↑(List.length l) : Int))))] ++ UU 23, []⟩ ?_
    refine CN (decide ((↑i : Int) < (↑(List.length l) : Int))) (fun h1 => ?_) (fun h1 => ?_)
    · have h1' := of_decide_eq_true h1
      refine AWP.skip (AWP.seq (AWP.block (SQ ?_)))
      refine DerQ.run ((((0 ≤ (↑i : Int)) ∧ ((↑i : Int) < (↑(List.length l) : Int))) ∧ (Int.toNat (↑i : Int) * 1 + 1 ≤ List.length (bss l))) ∧ 0 < 1 ∧ True ∧ True) ⟨[.sl (bss l) (List.length l) .any, U6, .sl [] 0 .nil, (I6 (↑(flt l i) : Int)), U6, ev [AVal.sl (bss l) (List.length l) SlK.any, U6, AVal.sl [] 0 SlK.nil, (I6 (↑(flt l i) : Int)), U6, U6, U6, U6, U6, AVal.sl (bss l) (List.length l) SlK.any, (I6 (↑(List.length l) : Int)), (I6 (↑i : Int)), (B6 (decide ((↑i : Int) < (↑(List.length l) : Int)))), AVal.dptr [List.getD (bss l) (Int.toNat (↑i : Int) * 1 + 0) AVal.undef], List.getD [List.getD (bss l) (Int.toNat (↑i : Int) * 1 + 0) AVal.undef] 0 U6, U6, U6, U6, U6, U6, U6, U6, U6, U6, U6, U6, U6, U6, U6, U6, U6, U6, U6, U6, U6, AVal.undef] (Operand.tmp 14), U6, U6, U6, .sl (bss l) (List.length l) .any, (I6 (↑(List.length l) : Int)), (I6 (↑i : Int)), (B6 (decide ((↑i : Int) < (↑(List.length l) : Int)))), .dptr [List.getD (bss l) (Int.toNat (↑i : Int) * 1 + 0) AVal.undef], List.getD (bss l) (Int.toNat (↑i : Int) * 1 + 0) AVal.undef] ++ UU 21, []⟩ (by kernel_rfl) ⟨⟨⟨(by omega), (by omega)⟩, (by (simp [spliceA_length] <;> omega))⟩, (by omega), trivial, trivial⟩ ?_
      rw [Int.toNat_natCast (i)]
      rw [Nat.mul_one (i)]
      rw [Nat.add_zero (i)]
      rw [Go.Chu.bss_getD (l) (i) (by omega)]
      refine SQ ?_
      refine DerQ.run (TT 5) ⟨[.sl (bss l) (List.length l) .any, U6, .sl [] 0 .nil, (I6 (IntKind.wrap IntKind.i64 ((↑(flt l i) : Int) + (↑(List.length (List.getD l i [])) : Int)))), U6, .sl (u8s (List.getD l i [])) (List.length (List.getD l i [])) .any, U6, U6, U6, .sl (bss l) (List.length l) .any, (I6 (↑(List.length l) : Int)), (I6 (↑i : Int)), (B6 (decide ((↑i : Int) < (↑(List.length l) : Int)))), .dptr [.sl (u8s (List.getD l i [])) (List.length (List.getD l i [])) .any], .sl (u8s (List.getD l i [])) (List.length (List.getD l i [])) .any, (I6 (↑(flt l i) : Int)), .sl (u8s (List.getD l i [])) (List.length (List.getD l i [])) .any, (I6 (↑(List.length (List.getD l i [])) : Int)), (I6 (IntKind.wrap IntKind.i64 ((↑(flt l i) : Int) + (↑(List.length (List.getD l i [])) : Int))))] ++ UU 17, []⟩ (by kernel_rfl) (tt 5) ?_
      rw [IntWalk.i64_in ((↑(flt l i) : Int) + (↑(List.length (List.getD l i [])) : Int)) (by omega)]
      rw [Go.Chu.flt_step (l) (i) (by omega)]
      refine AWP.seq (KL ([5] ++ NN 12 7) ⟨[.sl (bss l) (List.length l) .any, U6, .sl [] 0 .nil, (I6 (↑(flt l (i + 1)) : Int))] ++ UU 5 ++ [.sl (bss l) (List.length l) .any, (I6 (↑(List.length l) : Int)), (I6 (↑i : Int))] ++ UU 24, []⟩ ?_)
      refine AWP.reg ?_
      refine DerQ.run (TT 2) ⟨[.sl (bss l) (List.length l) .any, U6, .sl [] 0 .nil, (I6 (↑(flt l (i + 1)) : Int))] ++ UU 5 ++ [.sl (bss l) (List.length l) .any, (I6 (↑(List.length l) : Int)), (I6 (↑i : Int))] ++ UU 7 ++ [(I6 (↑(flt l (i + 1)) : Int)), (B6 false)] ++ UU 15, []⟩ (by kernel_rfl) (tt 2) ?_
      refine CN false (fun h => nomatch h) (fun _ => ?_)
      refine AWP.skip (AWP.reg ?_)
      refine DerQ.run (TT 2) ⟨[.sl (bss l) (List.length l) .any, U6, .sl [] 0 .nil, (I6 (↑(flt l (i + 1)) : Int))] ++ UU 5 ++ [.sl (bss l) (List.length l) .any, (I6 (↑(List.length l) : Int)), (I6 (IntKind.wrap IntKind.i64 ((↑i : Int) + 1)))] ++ UU 7 ++ [(I6 (↑(flt l (i + 1)) : Int)), (B6 false), U6, (I6 (IntKind.wrap IntKind.i64 ((↑i : Int) + 1)))] ++ UU 13, []⟩ (by kernel_rfl) (tt 2) ?_
      rw [IntWalk.i64_in ((↑i : Int) + 1) (by omega)]
      (exact ⟨_, by omega, i + 1, rfl, by omega, by kernel_rfl⟩; done)
    · have h1' := of_decide_eq_false h1
      refine AWP.exit ?_
      refine AWP.seq (KL [9, 10, 11, 12] ⟨[.sl (bss l) (List.length l) .any, U6, .sl [] 0 .nil, (I6 (↑(flt l i) : Int))] ++ UU 32, []⟩ ?_)
      refine AWP.reg (PT 1 1 ?_)
      refine CD (grow00 (flt l i) (by omega)) ?_
      refine RT 1 ?_
      refine AWP.seq (AWP.seq (KL [3, 23, 24] ⟨[.sl (bss l) (List.length l) .any, U6, .sl [] 0 .nil, U6, U6, U6, .sl [] 0 .nil] ++ UU 29, []⟩ ?_))
      refine AWP.reg (RT 3 ?_)
      refine AWP.block (KL [0] ⟨[U6, U6, .sl [] 0 .nil, U6, U6, U6, .sl [] 0 .nil] ++ UU 18 ++ [.sl (bss l) (List.length l) .any, (I6 (↑(List.length l) : Int)), (I6 0)] ++ UU 8, []⟩ ?_)
      refine AWP.virt 6 1 ⟨[U6, U6, .sl [] 0 .nil, U6, U6, U6, .row 0 0 0, U6, U6, U6, U6, U6, U6, U6, U6, U6, U6, U6, U6, U6, U6, U6, U6, U6, U6, .sl (bss l) (List.length l) .any, (I6 (↑(List.length l) : Int)), (I6 0)] ++ UU 8, [⟨[], 1, .fresh⟩]⟩ ⟨by kernel_rfl, by kernel_rfl⟩ ?_
      refine AWP.grow 0 ⟨[], 1, .fresh⟩ ⟨[U6, U6, .sl [] 0 .nil, U6, U6, U6, .row 0 0 0, U6, U6, U6, U6, U6, U6, U6, U6, U6, U6, U6, U6, U6, U6, U6, U6, U6, U6, .sl (bss l) (List.length l) .any, (I6 (↑(List.length l) : Int)), (I6 0), U6, U6, U6, U6, U6, U6, U6, .undef], [⟨[], 1, .grown⟩]⟩ ⟨by kernel_rfl, by kernel_rfl⟩ rfl rfl ?_
      refine AWP.loopM [false, false, true, false, false, false, true, false, false, false, false, false, false, false, false, false, false, false, false, false, false, false, false, false, false, true, true, true, false, false, false, false, false, false, false, false] (fun kk st => ∃ (j : Nat), kk = l.length - j ∧ j ≤ l.length ∧ st = ⟨[U6, U6, .sl [] 0 .nil, U6, U6, U6, .row 0 0 (flt l j), U6, U6, U6, U6, U6, U6, U6, U6, U6, U6, U6, U6, U6, U6, U6, U6, U6, U6, .sl (bss l) (List.length l) .any, (I6 (↑(List.length l) : Int)), (I6 (j : Int)), U6, U6, U6, U6, U6, U6, U6, .undef], [⟨u8s ((l.take j).flatten), 1, .grown⟩]⟩) _ ⟨0, rfl, by omega, by kernel_rfl⟩ ?_
      rintro kk s ⟨j, rfl, hj, rfl⟩
      have hle := flt_le l j
      have hit := item_le l j
      refine SQ (RT 1 ?_)
      refine AWP.seq ?_
      refine TO ⟨[U6, U6, .sl [] 0 .nil, U6, U6, U6, .row 0 0 (flt l j)] ++ UU 18 ++ [.sl (bss l) (List.length l) .any, (I6 (↑(List.length l) : Int)), (I6 (↑j : Int)), (B6 (decide ((↑j : Int) < (↑(List.length l) : Int))))] ++ UU 7, [⟨u8s (List.flatten (List.take j l)), 1, .grown⟩]⟩ ?_
      refine CN (decide ((↑j : Int) < (↑(List.length l) : Int))) (fun h2 => ?_) (fun h2 => ?_)
      · have h2' := of_decide_eq_true h2
        refine AWP.skip (AWP.seq (AWP.block (SQ ?_)))
        refine DerQ.run ((((0 ≤ (↑j : Int)) ∧ ((↑j : Int) < (↑(List.length l) : Int))) ∧ (Int.toNat (↑j : Int) * 1 + 1 ≤ List.length (bss l))) ∧ 0 < 1 ∧ True ∧ True) ⟨[U6, U6, .sl [] 0 .nil, U6, U6, U6, .row 0 0 (flt l j), U6, ev [U6, U6, AVal.sl [] 0 SlK.nil, U6, U6, U6, AVal.row 0 0 (flt l j), U6, U6, U6, U6, U6, U6, U6, U6, U6, U6, U6, U6, U6, U6, U6, U6, U6, U6, AVal.sl (bss l) (List.length l) SlK.any, (I6 (↑(List.length l) : Int)), (I6 (↑j : Int)), (B6 (decide ((↑j : Int) < (↑(List.length l) : Int)))), AVal.dptr [List.getD (bss l) (Int.toNat (↑j : Int) * 1 + 0) AVal.undef], List.getD [List.getD (bss l) (Int.toNat (↑j : Int) * 1 + 0) AVal.undef] 0 U6, U6, U6, U6, U6, AVal.undef] (Operand.tmp 30)] ++ UU 16 ++ [.sl (bss l) (List.length l) .any, (I6 (↑(List.length l) : Int)), (I6 (↑j : Int)), (B6 (decide ((↑j : Int) < (↑(List.length l) : Int)))), .dptr [List.getD (bss l) (Int.toNat (↑j : Int) * 1 + 0) AVal.undef], List.getD (bss l) (Int.toNat (↑j : Int) * 1 + 0) AVal.undef] ++ UU 5, [⟨u8s (List.flatten (List.take j l)), 1, .grown⟩]⟩ (by kernel_rfl) ⟨⟨⟨(by omega), (by omega)⟩, (by (simp [spliceA_length] <;> omega))⟩, (by omega), trivial, trivial⟩ ?_
        rw [Int.toNat_natCast (j)]
        rw [Nat.mul_one (j)]
        rw [Nat.add_zero (j)]
        rw [Go.Chu.bss_getD (l) (j) (by omega)]
        refine AWP.reg ?_
        refine DerQ.run (True ∧ True ∧ ((List.length (u8s (List.getD l j [])) = List.length (List.getD l j []) * 1) ∧ (((1 : Nat) = (1 : Nat)) ∧ ((flt l j * 1 = List.length (u8s (List.flatten (List.take j l)))) ∧ ((flt l j + List.length (List.getD l j []) ≤ 1073741824) ∧ ((dataAll (u8s (List.flatten (List.take j l)) ++ u8s (List.getD l j [])) = true) ∧ (∀ (i : Nat), i < List.length (u8s (List.getD l j [])) → AVal.one (List.getD (u8s (List.getD l j [])) i AVal.undef) = true)))))) ∧ True ∧ True) ⟨[U6, U6, .sl [] 0 .nil, U6, U6, U6, .row 0 0 (flt l j + List.length (List.getD l j [])), U6, .sl (u8s (List.getD l j [])) (List.length (List.getD l j [])) .any] ++ UU 16 ++ [.sl (bss l) (List.length l) .any, (I6 (↑(List.length l) : Int)), (I6 (↑j : Int)), (B6 (decide ((↑j : Int) < (↑(List.length l) : Int)))), .dptr [.sl (u8s (List.getD l j [])) (List.length (List.getD l j [])) .any], .sl (u8s (List.getD l j [])) (List.length (List.getD l j [])) .any, .row 0 0 (flt l j), .sl (u8s (List.getD l j [])) (List.length (List.getD l j [])) .any, .row 0 0 (flt l j + List.length (List.getD l j [])), U6, .undef], [⟨u8s (List.flatten (List.take j l)) ++ u8s (List.getD l j []), 1, .grown⟩]⟩ (by kernel_rfl) ⟨trivial, trivial, ⟨(by simp), ⟨(by omega), ⟨(by (rw [u8s_length, Nat.mul_one]; rfl)), ⟨(by omega), ⟨(by (simp only [byteV_map, dataAll_append, dataAll_u8s, Bool.and_self])), (by exact u8s_one _)⟩⟩⟩⟩⟩, trivial, trivial⟩ ?_
        rw [Go.Abs.u8s_append (List.flatten (List.take j l)) (List.getD l j [])]
        rw [Go.Chu.flt_stepN (l) (j) (by omega)]
        rw [Go.Chu.take_flat' (l) (j) (by omega)]
        refine KL ([8] ++ NN 28 6) ⟨[U6, U6, .sl [] 0 .nil, U6, U6, U6, .row 0 0 (flt l (j + 1))] ++ UU 18 ++ [.sl (bss l) (List.length l) .any, (I6 (↑(List.length l) : Int)), (I6 (↑j : Int))] ++ UU 8, [⟨u8s (List.flatten (List.take (j + 1) l)), 1, .grown⟩]⟩ ?_
        refine AWP.reg ?_
        refine DerQ.run (TT 2) ⟨[U6, U6, .sl [] 0 .nil, U6, U6, U6, .row 0 0 (flt l (j + 1))] ++ UU 18 ++ [.sl (bss l) (List.length l) .any, (I6 (↑(List.length l) : Int)), (I6 (IntKind.wrap IntKind.i64 ((↑j : Int) + 1)))] ++ UU 6 ++ [(I6 (IntKind.wrap IntKind.i64 ((↑j : Int) + 1))), .undef], [⟨u8s (List.flatten (List.take (j + 1) l)), 1, .grown⟩]⟩ (by kernel_rfl) (tt 2) ?_
        rw [IntWalk.i64_in ((↑j : Int) + 1) (by omega)]
        (exact ⟨_, by omega, j + 1, rfl, by omega, by kernel_rfl⟩; done)
      · have h2' := of_decide_eq_false h2
        refine AWP.exit ?_
        refine AWP.seq (KL [25, 26, 27, 28] ⟨[U6, U6, .sl [] 0 .nil, U6, U6, U6, .row 0 0 (flt l j)] ++ UU 29, [⟨u8s (List.flatten (List.take j l)), 1, .grown⟩]⟩ ?_)
        refine AWP.reg (RT 2 ?_)
        refine AWP.ret ?_
        refine FI (.row 0 0 (flt l j)) ?_
        refine Shrink.dataK [0] ((dataAll (u8s (List.flatten (List.take j l))) = true) ∧ (True)) (.sl (List.take (flt l j * 1) (List.drop 0 (u8s (List.flatten (List.take j l))))) (flt l j) .any) (by kernel_rfl) ⟨(by exact dataAll_u8s _), trivial⟩ ?_ rfl
        ((have e1 : List.take j l = l := List.take_of_length_le (by omega)); (have e2 : flt l j = l.flatten.length := flt_all l j (by omega)); rw [e1, e2, List.drop_zero, Nat.mul_one, List.take_of_length_le (Nat.le_of_eq (u8s_length _))]; rfl; done)
  · refine EvD.body Try.func79 rfl rfl rfl ?_
    refine AWP.seq ?_
    refine TO ⟨[.sl (bss l) (List.length l) .any] ++ UU 35, []⟩ ?_
    refine AWP.reg (RT 1 ?_)
    refine AWP.seq ?_
    refine TO ⟨[.sl (bss l) (List.length l) .any, U6, .sl [] 0 .nil] ++ UU 33, []⟩ ?_
    refine AWP.reg (RT 1 ?_)
    refine AWP.seq (AWP.seq ?_)
    refine TO ⟨[.sl (bss l) (List.length l) .any, U6, .sl [] 0 .nil, (I6 0)] ++ UU 32, []⟩ ?_
    refine AWP.reg (RT 3 ?_)
    refine AWP.block ?_
    refine TO ⟨[.sl (bss l) (List.length l) .any, U6, .sl [] 0 .nil, (I6 0)] ++ UU 5 ++ [.sl (bss l) (List.length l) .any, (I6 (↑(List.length l) : Int)), (I6 0)] ++ UU 24, []⟩ ?_
    refine AWP.loopM [true, false, true, true, false, false, false, false, false, true, true, true, false, false, false, false, false, false, false, false, false, false, false, false, false, false, false, false, false, false, false, false, false, false, false, false] (fun kk st => ∃ (i : Nat), kk = l.length - i ∧ i ≤ l.length ∧ st = ⟨[.sl (bss l) (List.length l) .any, U6, .sl [] 0 .nil, (I6 (flt l i : Int)), U6, U6, U6, U6, U6, .sl (bss l) (List.length l) .any, (I6 (↑(List.length l) : Int)), (I6 (i : Int)), U6, U6, U6, U6, U6, U6, U6, U6, U6, U6, U6, U6, U6, U6, U6, U6, U6, U6, U6, U6, U6, U6, U6, .undef], []⟩) _ ⟨0, rfl, by omega, by kernel_rfl⟩ ?_
    rintro kk s ⟨i, rfl, hi, rfl⟩
    have hle := flt_le l i
    have hit := item_le l i
    refine SQ (RT 1 ?_)
    refine AWP.seq ?_
    refine TO ⟨[.sl (bss l) (List.length l) .any, U6, .sl [] 0 .nil, (I6 (↑(flt l i) : Int))] ++ UU 5 ++ [.sl (bss l) (List.length l) .any, (I6 (↑(List.length l) : Int)), (I6 (↑i : Int)), (B6 (decide ((↑i : Int) < (↑(List.length l) : Int))))] ++ UU 23, []⟩ ?_
    refine CN (decide ((↑i : Int) < (↑(List.length l) : Int))) (fun h1 => ?_) (fun h1 => ?_)
    · have h1' := of_decide_eq_true h1
      refine AWP.skip (AWP.seq (AWP.block (SQ ?_)))
      refine DerQ.run ((((0 ≤ (↑i : Int)) ∧ ((↑i : Int) < (↑(List.length l) : Int))) ∧ (Int.toNat (↑i : Int) * 1 + 1 ≤ List.length (bss l))) ∧ 0 < 1 ∧ True ∧ True) ⟨[.sl (bss l) (List.length l) .any, U6, .sl [] 0 .nil, (I6 (↑(flt l i) : Int)), U6, ev [AVal.sl (bss l) (List.length l) SlK.any, U6, AVal.sl [] 0 SlK.nil, (I6 (↑(flt l i) : Int)), U6, U6, U6, U6, U6, AVal.sl (bss l) (List.length l) SlK.any, (I6 (↑(List.length l) : Int)), (I6 (↑i : Int)), (B6 (decide ((↑i : Int) < (↑(List.length l) : Int)))), AVal.dptr [List.getD (bss l) (Int.toNat (↑i : Int) * 1 + 0) AVal.undef], List.getD [List.getD (bss l) (Int.toNat (↑i : Int) * 1 + 0) AVal.undef] 0 U6, U6, U6, U6, U6, U6, U6, U6, U6, U6, U6, U6, U6, U6, U6, U6, U6, U6, U6, U6, U6, AVal.undef] (Operand.tmp 14), U6, U6, U6, .sl (bss l) (List.length l) .any, (I6 (↑(List.length l) : Int)), (I6 (↑i : Int)), (B6 (decide ((↑i : Int) < (↑(List.length l) : Int)))), .dptr [List.getD (bss l) (Int.toNat (↑i : Int) * 1 + 0) AVal.undef], List.getD (bss l) (Int.toNat (↑i : Int) * 1 + 0) AVal.undef] ++ UU 21, []⟩ (by kernel_rfl) ⟨⟨⟨(by omega), (by omega)⟩, (by (simp [spliceA_length] <;> omega))⟩, (by omega), trivial, trivial⟩ ?_
      rw [Int.toNat_natCast (i)]
      rw [Nat.mul_one (i)]
      rw [Nat.add_zero (i)]
      rw [Go.Chu.bss_getD (l) (i) (by omega)]
      refine SQ ?_
      refine DerQ.run (TT 5) ⟨[.sl (bss l) (List.length l) .any, U6, .sl [] 0 .nil, (I6 (IntKind.wrap IntKind.i64 ((↑(flt l i) : Int) + (↑(List.length (List.getD l i [])) : Int)))), U6, .sl (u8s (List.getD l i [])) (List.length (List.getD l i [])) .any, U6, U6, U6, .sl (bss l) (List.length l) .any, (I6 (↑(List.length l) : Int)), (I6 (↑i : Int)), (B6 (decide ((↑i : Int) < (↑(List.length l) : Int)))), .dptr [.sl (u8s (List.getD l i [])) (List.length (List.getD l i [])) .any], .sl (u8s (List.getD l i [])) (List.length (List.getD l i [])) .any, (I6 (↑(flt l i) : Int)), .sl (u8s (List.getD l i [])) (List.length (List.getD l i [])) .any, (I6 (↑(List.length (List.getD l i [])) : Int)), (I6 (IntKind.wrap IntKind.i64 ((↑(flt l i) : Int) + (↑(List.length (List.getD l i [])) : Int))))] ++ UU 17, []⟩ (by kernel_rfl) (tt 5) ?_
      rw [IntWalk.i64_in ((↑(flt l i) : Int) + (↑(List.length (List.getD l i [])) : Int)) (by omega)]
      rw [Go.Chu.flt_step (l) (i) (by omega)]
      refine AWP.seq (KL ([5] ++ NN 12 7) ⟨[.sl (bss l) (List.length l) .any, U6, .sl [] 0 .nil, (I6 (↑(flt l (i + 1)) : Int))] ++ UU 5 ++ [.sl (bss l) (List.length l) .any, (I6 (↑(List.length l) : Int)), (I6 (↑i : Int))] ++ UU 24, []⟩ ?_)
      refine AWP.reg ?_
      refine DerQ.run (TT 2) ⟨[.sl (bss l) (List.length l) .any, U6, .sl [] 0 .nil, (I6 (↑(flt l (i + 1)) : Int))] ++ UU 5 ++ [.sl (bss l) (List.length l) .any, (I6 (↑(List.length l) : Int)), (I6 (↑i : Int))] ++ UU 7 ++ [(I6 (↑(flt l (i + 1)) : Int)), (B6 false)] ++ UU 15, []⟩ (by kernel_rfl) (tt 2) ?_
      refine CN false (fun h => nomatch h) (fun _ => ?_)
      refine AWP.skip (AWP.reg ?_)
      refine DerQ.run (TT 2) ⟨[.sl (bss l) (List.length l) .any, U6, .sl [] 0 .nil, (I6 (↑(flt l (i + 1)) : Int))] ++ UU 5 ++ [.sl (bss l) (List.length l) .any, (I6 (↑(List.length l) : Int)), (I6 (IntKind.wrap IntKind.i64 ((↑i : Int) + 1)))] ++ UU 7 ++ [(I6 (↑(flt l (i + 1)) : Int)), (B6 false), U6, (I6 (IntKind.wrap IntKind.i64 ((↑i : Int) + 1)))] ++ UU 13, []⟩ (by kernel_rfl) (tt 2) ?_
      rw [IntWalk.i64_in ((↑i : Int) + 1) (by omega)]
      (exact ⟨_, by omega, i + 1, rfl, by omega, by kernel_rfl⟩; done)
    · have h1' := of_decide_eq_false h1
      refine AWP.exit ?_
      refine AWP.seq (KL [9, 10, 11, 12] ⟨[.sl (bss l) (List.length l) .any, U6, .sl [] 0 .nil, (I6 (↑(flt l i) : Int))] ++ UU 32, []⟩ ?_)
      refine AWP.reg (PT 1 1 ?_)
      refine DerQ.callAX (grow1 (flt l i) (by (rw [flt_all l i (by omega)]; omega)) (by omega)) ⟨[.sl (bss l) (List.length l) .any, U6, .sl [] 0 .nil, (I6 (↑(flt l i) : Int))] ++ UU 19 ++ [(I6 (↑(flt l i) : Int)), .row 0 0 0] ++ UU 11, [⟨[], 1, .fresh⟩]⟩ ⟨by kernel_rfl, by kernel_rfl, by kernel_rfl⟩ ?_
      refine RT 1 ?_
      refine AWP.seq (AWP.seq (KL [3, 23, 24] ⟨[.sl (bss l) (List.length l) .any, U6, .sl [] 0 .nil, U6, U6, U6, .row 0 0 0] ++ UU 29, [⟨[], 1, .fresh⟩]⟩ ?_))
      refine AWP.reg (RT 3 ?_)
      refine AWP.block (KL [0] ⟨[U6, U6, .sl [] 0 .nil, U6, U6, U6, .row 0 0 0] ++ UU 18 ++ [.sl (bss l) (List.length l) .any, (I6 (↑(List.length l) : Int)), (I6 0)] ++ UU 8, [⟨[], 1, .fresh⟩]⟩ ?_)
      refine AWP.grow 0 ⟨[], 1, .fresh⟩ ⟨[U6, U6, .sl [] 0 .nil, U6, U6, U6, .row 0 0 0, U6, U6, U6, U6, U6, U6, U6, U6, U6, U6, U6, U6, U6, U6, U6, U6, U6, U6, .sl (bss l) (List.length l) .any, (I6 (↑(List.length l) : Int)), (I6 0), U6, U6, U6, U6, U6, U6, U6, .undef], [⟨[], 1, .grown⟩]⟩ ⟨by kernel_rfl, by kernel_rfl⟩ rfl (by decide) ?_
      refine AWP.loopM [false, false, true, false, false, false, true, false, false, false, false, false, false, false, false, false, false, false, false, false, false, false, false, false, false, true, true, true, false, false, false, false, false, false, false, false] (fun kk st => ∃ (j : Nat), kk = l.length - j ∧ j ≤ l.length ∧ st = ⟨[U6, U6, .sl [] 0 .nil, U6, U6, U6, .row 0 0 (flt l j), U6, U6, U6, U6, U6, U6, U6, U6, U6, U6, U6, U6, U6, U6, U6, U6, U6, U6, .sl (bss l) (List.length l) .any, (I6 (↑(List.length l) : Int)), (I6 (j : Int)), U6, U6, U6, U6, U6, U6, U6, .undef], [⟨u8s ((l.take j).flatten), 1, .grown⟩]⟩) _ ⟨0, rfl, by omega, by kernel_rfl⟩ ?_
      rintro kk s ⟨j, rfl, hj, rfl⟩
      have hle := flt_le l j
      have hit := item_le l j
      refine SQ (RT 1 ?_)
      refine AWP.seq ?_
      refine TO ⟨[U6, U6, .sl [] 0 .nil, U6, U6, U6, .row 0 0 (flt l j)] ++ UU 18 ++ [.sl (bss l) (List.length l) .any, (I6 (↑(List.length l) : Int)), (I6 (↑j : Int)), (B6 (decide ((↑j : Int) < (↑(List.length l) : Int))))] ++ UU 7, [⟨u8s (List.flatten (List.take j l)), 1, .grown⟩]⟩ ?_
      refine CN (decide ((↑j : Int) < (↑(List.length l) : Int))) (fun h2 => ?_) (fun h2 => ?_)
      · have h2' := of_decide_eq_true h2
        refine AWP.skip (AWP.seq (AWP.block (SQ ?_)))
        refine DerQ.run ((((0 ≤ (↑j : Int)) ∧ ((↑j : Int) < (↑(List.length l) : Int))) ∧ (Int.toNat (↑j : Int) * 1 + 1 ≤ List.length (bss l))) ∧ 0 < 1 ∧ True ∧ True) ⟨[U6, U6, .sl [] 0 .nil, U6, U6, U6, .row 0 0 (flt l j), U6, ev [U6, U6, AVal.sl [] 0 SlK.nil, U6, U6, U6, AVal.row 0 0 (flt l j), U6, U6, U6, U6, U6, U6, U6, U6, U6, U6, U6, U6, U6, U6, U6, U6, U6, U6, AVal.sl (bss l) (List.length l) SlK.any, (I6 (↑(List.length l) : Int)), (I6 (↑j : Int)), (B6 (decide ((↑j : Int) < (↑(List.length l) : Int)))), AVal.dptr [List.getD (bss l) (Int.toNat (↑j : Int) * 1 + 0) AVal.undef], List.getD [List.getD (bss l) (Int.toNat (↑j : Int) * 1 + 0) AVal.undef] 0 U6, U6, U6, U6, U6, AVal.undef] (Operand.tmp 30)] ++ UU 16 ++ [.sl (bss l) (List.length l) .any, (I6 (↑(List.length l) : Int)), (I6 (↑j : Int)), (B6 (decide ((↑j : Int) < (↑(List.length l) : Int)))), .dptr [List.getD (bss l) (Int.toNat (↑j : Int) * 1 + 0) AVal.undef], List.getD (bss l) (Int.toNat (↑j : Int) * 1 + 0) AVal.undef] ++ UU 5, [⟨u8s (List.flatten (List.take j l)), 1, .grown⟩]⟩ (by kernel_rfl) ⟨⟨⟨(by omega), (by omega)⟩, (by (simp [spliceA_length] <;> omega))⟩, (by omega), trivial, trivial⟩ ?_
        rw [Int.toNat_natCast (j)]
        rw [Nat.mul_one (j)]
        rw [Nat.add_zero (j)]
        rw [Go.Chu.bss_getD (l) (j) (by omega)]
        refine AWP.reg ?_
        refine DerQ.run (True ∧ True ∧ ((List.length (u8s (List.getD l j [])) = List.length (List.getD l j []) * 1) ∧ (((1 : Nat) = (1 : Nat)) ∧ ((flt l j * 1 = List.length (u8s (List.flatten (List.take j l)))) ∧ ((flt l j + List.length (List.getD l j []) ≤ 1073741824) ∧ ((dataAll (u8s (List.flatten (List.take j l)) ++ u8s (List.getD l j [])) = true) ∧ (∀ (i : Nat), i < List.length (u8s (List.getD l j [])) → AVal.one (List.getD (u8s (List.getD l j [])) i AVal.undef) = true)))))) ∧ True ∧ True) ⟨[U6, U6, .sl [] 0 .nil, U6, U6, U6, .row 0 0 (flt l j + List.length (List.getD l j [])), U6, .sl (u8s (List.getD l j [])) (List.length (List.getD l j [])) .any] ++ UU 16 ++ [.sl (bss l) (List.length l) .any, (I6 (↑(List.length l) : Int)), (I6 (↑j : Int)), (B6 (decide ((↑j : Int) < (↑(List.length l) : Int)))), .dptr [.sl (u8s (List.getD l j [])) (List.length (List.getD l j [])) .any], .sl (u8s (List.getD l j [])) (List.length (List.getD l j [])) .any, .row 0 0 (flt l j), .sl (u8s (List.getD l j [])) (List.length (List.getD l j [])) .any, .row 0 0 (flt l j + List.length (List.getD l j [])), U6, .undef], [⟨u8s (List.flatten (List.take j l)) ++ u8s (List.getD l j []), 1, .grown⟩]⟩ (by kernel_rfl) ⟨trivial, trivial, ⟨(by simp), ⟨(by omega), ⟨(by (rw [u8s_length, Nat.mul_one]; rfl)), ⟨(by omega), ⟨(by (simp only [byteV_map, dataAll_append, dataAll_u8s, Bool.and_self])), (by exact u8s_one _)⟩⟩⟩⟩⟩, trivial, trivial⟩ ?_
        rw [Go.Abs.u8s_append (List.flatten (List.take j l)) (List.getD l j [])]
        rw [Go.Chu.flt_stepN (l) (j) (by omega)]
        rw [Go.Chu.take_flat' (l) (j) (by omega)]
        refine KL ([8] ++ NN 28 6) ⟨[U6, U6, .sl [] 0 .nil, U6, U6, U6, .row 0 0 (flt l (j + 1))] ++ UU 18 ++ [.sl (bss l) (List.length l) .any, (I6 (↑(List.length l) : Int)), (I6 (↑j : Int))] ++ UU 8, [⟨u8s (List.flatten (List.take (j + 1) l)), 1, .grown⟩]⟩ ?_
        refine AWP.reg ?_
        refine DerQ.run (TT 2) ⟨[U6, U6, .sl [] 0 .nil, U6, U6, U6, .row 0 0 (flt l (j + 1))] ++ UU 18 ++ [.sl (bss l) (List.length l) .any, (I6 (↑(List.length l) : Int)), (I6 (IntKind.wrap IntKind.i64 ((↑j : Int) + 1)))] ++ UU 6 ++ [(I6 (IntKind.wrap IntKind.i64 ((↑j : Int) + 1))), .undef], [⟨u8s (List.flatten (List.take (j + 1) l)), 1, .grown⟩]⟩ (by kernel_rfl) (tt 2) ?_
        rw [IntWalk.i64_in ((↑j : Int) + 1) (by omega)]
        (exact ⟨_, by omega, j + 1, rfl, by omega, by kernel_rfl⟩; done)
      · have h2' := of_decide_eq_false h2
        refine AWP.exit ?_
        refine AWP.seq (KL [25, 26, 27, 28] ⟨[U6, U6, .sl [] 0 .nil, U6, U6, U6, .row 0 0 (flt l j)] ++ UU 29, [⟨u8s (List.flatten (List.take j l)), 1, .grown⟩]⟩ ?_)
        refine AWP.reg (RT 2 ?_)
        refine AWP.ret ?_
        refine FI (.row 0 0 (flt l j)) ?_
        refine Shrink.dataK [0] ((dataAll (u8s (List.flatten (List.take j l))) = true) ∧ (True)) (.sl (List.take (flt l j * 1) (List.drop 0 (u8s (List.flatten (List.take j l))))) (flt l j) .any) (by kernel_rfl) ⟨(by exact dataAll_u8s _), trivial⟩ ?_ rfl
        ((have e1 : List.take j l = l := List.take_of_length_le (by omega)); (have e2 : flt l j = l.flatten.length := flt_all l j (by omega)); rw [e1, e2, List.drop_zero, Nat.mul_one, List.take_of_length_le (Nat.le_of_eq (u8s_length _))]; rfl; done)
theorem concat2 (a b : List Int) (n : Nat) (hn : n = a.length + b.length) (hs : n ≤ 2000000) : EvD Try.prog 79 [.sl [.sl (u8s a) a.length .any, .sl (u8s b) b.length .any] 2 .any] (.sl (u8s (a ++ b)) n .any) := by
  have h := concat [a, b] (by simp) (by simp; omega)
  have e : ([a, b] : List (List Int)).flatten = a ++ b := by simp
  rw [e, List.length_append, ← hn] at h
  exact h
end Go.Chu
