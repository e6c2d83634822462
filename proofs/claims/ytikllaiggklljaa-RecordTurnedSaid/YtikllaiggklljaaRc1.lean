/- Walks and laws. -/
import Derived.Test.YtikllaiggklljaaRc0
import Derived.Test.YtikllaiggklljaaLibB
set_option maxRecDepth 100000
set_option maxHeartbeats 0
set_option linter.unusedSimpArgs false
set_option linter.unusedVariables false
namespace Go.Rec
open Go Go.Abs Go.Proofs Go.Crc Go.Chu
theorem c_body (b : List Int) (hx : b.length ≤ 100000) (hb : Bts b) : EvD Try.prog 75 [.sl (u8s b) b.length .any] (resO (bodyP b)) := by
  refine EvD.body Try.func75 rfl rfl (resO_data _) ?_
  have b4 := be_bnd 4 b hb (by omega)
  cases ho : opn ((b.drop 4).take ((be (b.take 4)).toNat + 4)) with
  | none =>
    have oN := fun (xs : List Int) (n : Nat) (h : opn xs = none) (hn : n = xs.length) (hx : xs.length ≤ 1000000) (hb : Bts xs) => c_open_none h n hn hx hb
    refine AWP.seq ?_
    refine TO ⟨[.sl (u8s b) (List.length b) .any] ++ UU 40, []⟩ ?_
    refine AWP.reg (RT 2 ?_)
    refine AWP.seq (AWP.seq ?_)
    refine TO ⟨[.sl (u8s b) (List.length b) .any, U6, .sl [] 0 .nil, (B6 false)] ++ UU 37, []⟩ ?_
    refine AWP.reg (RT 3 ?_)
    refine KL [7, 8] ⟨[.sl (u8s b) (List.length b) .any, U6, .sl [] 0 .nil, (B6 false)] ++ UU 5 ++ [(B6 (decide ((↑(List.length b) : Int) < 8)))] ++ UU 31, []⟩ ?_
    refine CN (decide ((↑(List.length b) : Int) < 8)) (fun h1 => ?_) (fun h1 => ?_)
    · have h1' := of_decide_eq_true h1
      refine SQ (RT 2 ?_)
      refine AWP.ret ?_
      refine FI (.tup [.sl [] 0 .nil, (B6 false)]) ?_
      (rw [bodyP_short b (by omega)]; exact Shrink.dataK [] (True) (.tup [.sl [] 0 .nil, .sc (.bool false)]) (by kernel_rfl) trivial rfl rfl; done)
    · have h1' := of_decide_eq_false h1
      refine AWP.skip (SQ (RT 1 ?_))
      refine AWP.seq (AWP.seq (KL [9] ⟨[.sl (u8s b) (List.length b) .any, U6, .sl [] 0 .nil, (B6 false), (I6 0)] ++ UU 36, []⟩ ?_))
      refine AWP.reg ?_
      refine DerQ.run (True ∧ ((((0 : Int) ≤ (0 : Int)) ∧ (((0 : Int) ≤ (4 : Int)) ∧ ((4 ≤ (↑(List.length b) : Int)) ∧ ((↑(List.length b) : Int) ≤ (↑(List.length b) : Int))))) ∧ (4 ≤ List.length (u8s b))) ∧ True ∧ True ∧ True) ⟨[.sl (u8s b) (List.length b) .any, U6, .sl [] 0 .nil, (B6 false), (I6 0)] ++ UU 5 ++ [.sl (u8s b) (List.length b) .any, .sl (List.take 4 (List.drop 0 (u8s b))) 4 .any, (I6 4), (I6 0)] ++ UU 27, []⟩ (by kernel_rfl) ⟨trivial, ⟨⟨(by omega), ⟨(by omega), ⟨(by omega), (by omega)⟩⟩⟩, (by (simp [spliceA_length] <;> omega))⟩, trivial, trivial, trivial⟩ ?_
      rw [List.drop_zero]
      rw [Go.Abs.u8s_take ((4 : Nat)) (b)]
      refine AWP.block ?_
      refine AWP.loopM [true, false, true, true, true, false, false, false, false, false, true, true, true, true, false, false, false, false, false, false, false, false, false, false, false, false, false, false, false, false, false, false, false, false, false, false, false, false, false, false, false] (fun kk st => ∃ (i : Nat), kk = 4 - i ∧ i ≤ 4 ∧ st = ⟨[.sl (u8s b) (List.length b) .any, U6, .sl [] 0 .nil, (B6 false), (I6 (be (List.take i b))), U6, U6, U6, U6, U6, .sl (u8s b) (List.length b) .any, .sl (u8s (List.take 4 b)) 4 .any, (I6 4), (I6 (i : Int)), U6, U6, U6, U6, U6, U6, U6, U6, U6, U6, U6, U6, U6, U6, U6, U6, U6, U6, U6, U6, U6, U6, U6, U6, U6, U6, .undef], []⟩) _ ⟨0, rfl, by omega, by kernel_rfl⟩ ?_
      rintro kk s ⟨i, rfl, hi, rfl⟩
      have b3 := be_small i b hb (by omega)
      have c3 := (hb.take 4).get i
      refine SQ (RT 1 ?_)
      refine AWP.seq ?_
      refine TO ⟨[.sl (u8s b) (List.length b) .any, U6, .sl [] 0 .nil, (B6 false), (I6 (be (List.take i b)))] ++ UU 5 ++ [.sl (u8s b) (List.length b) .any, .sl (u8s (List.take 4 b)) 4 .any, (I6 4), (I6 (↑i : Int)), (B6 (decide ((↑i : Int) < 4)))] ++ UU 26, []⟩ ?_
      refine CN (decide ((↑i : Int) < 4)) (fun h2 => ?_) (fun h2 => ?_)
      · have h2' := of_decide_eq_true h2
        refine AWP.skip (AWP.seq (AWP.block (SQ ?_)))
        refine DerQ.run ((((0 ≤ (↑i : Int)) ∧ ((↑i : Int) < 4)) ∧ (Int.toNat (↑i : Int) * 1 + 1 ≤ List.length (u8s (List.take 4 b)))) ∧ 0 < 1 ∧ True ∧ True) ⟨[.sl (u8s b) (List.length b) .any, U6, .sl [] 0 .nil, (B6 false), (I6 (be (List.take i b))), U6, ev [AVal.sl (u8s b) (List.length b) SlK.any, U6, AVal.sl [] 0 SlK.nil, (B6 false), (I6 (be (List.take i b))), U6, U6, U6, U6, U6, AVal.sl (u8s b) (List.length b) SlK.any, AVal.sl (u8s (List.take 4 b)) 4 SlK.any, (I6 4), (I6 (↑i : Int)), (B6 (decide ((↑i : Int) < 4))), AVal.dptr [List.getD (u8s (List.take 4 b)) (Int.toNat (↑i : Int) * 1 + 0) AVal.undef], List.getD [List.getD (u8s (List.take 4 b)) (Int.toNat (↑i : Int) * 1 + 0) AVal.undef] 0 U6, U6, U6, U6, U6, U6, U6, U6, U6, U6, U6, U6, U6, U6, U6, U6, U6, U6, U6, U6, U6, U6, U6, U6, AVal.undef] (Operand.tmp 16), U6, U6, U6, .sl (u8s b) (List.length b) .any, .sl (u8s (List.take 4 b)) 4 .any, (I6 4), (I6 (↑i : Int)), (B6 (decide ((↑i : Int) < 4))), .dptr [List.getD (u8s (List.take 4 b)) (Int.toNat (↑i : Int) * 1 + 0) AVal.undef], List.getD (u8s (List.take 4 b)) (Int.toNat (↑i : Int) * 1 + 0) AVal.undef] ++ UU 24, []⟩ (by kernel_rfl) ⟨⟨⟨(by omega), (by omega)⟩, (by (simp [spliceA_length] <;> omega))⟩, (by omega), trivial, trivial⟩ ?_
        rw [Int.toNat_natCast (i)]
        rw [Nat.mul_one (i)]
        rw [Nat.add_zero (i)]
        rw [Go.Abs.u8s_getD (List.take 4 b) (i) (by (simp [spliceA_length] <;> omega))]
        refine AWP.reg ?_
        refine DerQ.run (True ∧ ((0 : Int) ≤ (8 : Int)) ∧ True ∧ True ∧ True ∧ True ∧ True) ⟨[.sl (u8s b) (List.length b) .any, U6, .sl [] 0 .nil, (B6 false), (I6 (IntKind.wrap IntKind.i64 (↑(BitVec.toNat (BitVec.ofInt 64 (IntKind.wrap IntKind.i64 (be (List.take i b) * 256)) ||| BitVec.ofInt 64 (IntKind.wrap IntKind.i64 (List.getD (List.take 4 b) i 0)))) : Int))), U6, .sc (.int .u8 (List.getD (List.take 4 b) i 0)), U6, U6, U6, .sl (u8s b) (List.length b) .any, .sl (u8s (List.take 4 b)) 4 .any, (I6 4), (I6 (↑i : Int)), (B6 (decide ((↑i : Int) < 4))), .dptr [.sc (.int .u8 (List.getD (List.take 4 b) i 0))], .sc (.int .u8 (List.getD (List.take 4 b) i 0)), (I6 (be (List.take i b))), (I6 (IntKind.wrap IntKind.i64 (be (List.take i b) * 256))), .sc (.int .u8 (List.getD (List.take 4 b) i 0)), (I6 (IntKind.wrap IntKind.i64 (List.getD (List.take 4 b) i 0))), (I6 (IntKind.wrap IntKind.i64 (↑(BitVec.toNat (BitVec.ofInt 64 (IntKind.wrap IntKind.i64 (be (List.take i b) * 256)) ||| BitVec.ofInt 64 (IntKind.wrap IntKind.i64 (List.getD (List.take 4 b) i 0)))) : Int)))] ++ UU 19, []⟩ (by kernel_rfl) ⟨trivial, (by omega), trivial, trivial, trivial, trivial, trivial⟩ ?_
        rw [IntWalk.i64_in (be (List.take i b) * 256) (by omega)]
        rw [IntWalk.i64_in (List.getD (List.take 4 b) i 0) (by omega)]
        rw [Go.Rec.orb (be (List.take i b)) (List.getD (List.take 4 b) i 0) (by omega) (by omega) (by omega) (by omega)]
        refine KL ([6] ++ NN 14 8) ⟨[.sl (u8s b) (List.length b) .any, U6, .sl [] 0 .nil, (B6 false), (I6 (IntKind.wrap IntKind.i64 (256 * be (List.take i b) + List.getD (List.take 4 b) i 0)))] ++ UU 5 ++ [.sl (u8s b) (List.length b) .any, .sl (u8s (List.take 4 b)) 4 .any, (I6 4), (I6 (↑i : Int))] ++ UU 27, []⟩ ?_
        refine AWP.reg ?_
        refine DerQ.run (TT 2) ⟨[.sl (u8s b) (List.length b) .any, U6, .sl [] 0 .nil, (B6 false), (I6 (IntKind.wrap IntKind.i64 (256 * be (List.take i b) + List.getD (List.take 4 b) i 0)))] ++ UU 5 ++ [.sl (u8s b) (List.length b) .any, .sl (u8s (List.take 4 b)) 4 .any, (I6 4), (I6 (IntKind.wrap IntKind.i64 ((↑i : Int) + 1)))] ++ UU 8 ++ [(I6 (IntKind.wrap IntKind.i64 ((↑i : Int) + 1)))] ++ UU 18, []⟩ (by kernel_rfl) (tt 2) ?_
        rw [IntWalk.i64_in (256 * be (List.take i b) + List.getD (List.take 4 b) i 0) (by omega)]
        rw [IntWalk.i64_in ((↑i : Int) + 1) (by omega)]
        (rw [be_round b i (by omega) (by omega)]; exact ⟨_, by omega, i + 1, rfl, by omega, by kernel_rfl⟩; done)
      · have h2' := of_decide_eq_false h2
        refine AWP.exit ?_
        refine AWP.seq (AWP.seq (KL (NN 10 5) ⟨[.sl (u8s b) (List.length b) .any, U6, .sl [] 0 .nil, (B6 false), (I6 (be (List.take i b)))] ++ UU 36, []⟩ ?_))
        refine AWP.reg (PT 3 3 ?_)
        refine DerQ.to ⟨[.sl (u8s b) (List.length b) .any, U6, .sl [] 0 .nil, (B6 false), (I6 (be (List.take i b)))] ++ UU 18 ++ [(I6 (be (List.take i b))), (B6 (decide (be (List.take i b) > 60000))), (B6 (decide (be (List.take i b) > 60000)))] ++ UU 15, []⟩ (by kernel_rfl) ?_
        cases h3 : (decide (be (List.take i b) > 60000))
        · have h3' := of_decide_eq_false h3
          refine DerQ.run (TT 6) ⟨[.sl (u8s b) (List.length b) .any, U6, .sl [] 0 .nil, (B6 false), (I6 (be (List.take i b)))] ++ UU 18 ++ [(I6 (be (List.take i b))), (B6 false), (B6 false), (I6 (be (List.take i b))), .sl (u8s b) (List.length b) .any, (I6 (↑(List.length b) : Int)), (I6 (IntKind.wrap IntKind.i64 ((↑(List.length b) : Int) - 8))), (B6 (decide (be (List.take i b) > IntKind.wrap IntKind.i64 ((↑(List.length b) : Int) - 8)))), (B6 (decide (be (List.take i b) > IntKind.wrap IntKind.i64 ((↑(List.length b) : Int) - 8))))] ++ UU 9, []⟩ (by kernel_rfl) (tt 6) ?_
          rw [IntWalk.i64_in ((↑(List.length b) : Int) - 8) (by omega)]
          refine KL (NN 23 8) ⟨[.sl (u8s b) (List.length b) .any, U6, .sl [] 0 .nil, (B6 false), (I6 (be (List.take i b)))] ++ UU 26 ++ [(B6 (decide (be (List.take i b) > (↑(List.length b) : Int) - 8)))] ++ UU 9, []⟩ ?_
          refine CN (decide (be (List.take i b) > (↑(List.length b) : Int) - 8)) (fun h4 => ?_) (fun h4 => ?_)
          · have h4' := of_decide_eq_true h4
            refine SQ (RT 2 ?_)
            refine AWP.ret ?_
            refine FI (.tup [.sl [] 0 .nil, (B6 false)]) ?_
            ((have hi2 : i = 4 := by omega); subst hi2; rw [bodyP_big b (by omega) (by omega)]; exact Shrink.dataK [] (True) (.tup [.sl [] 0 .nil, .sc (.bool false)]) (by kernel_rfl) trivial rfl rfl; done)
          · have h4' := of_decide_eq_false h4
            refine AWP.skip (SQ ?_)
            refine DerQ.pre 6 (True ∧ True ∧ True ∧ True ∧ True ∧ ((((0 : Int) ≤ (4 : Int)) ∧ ((4 ≤ IntKind.wrap IntKind.i64 (8 + be (List.take i b))) ∧ ((IntKind.wrap IntKind.i64 (8 + be (List.take i b)) ≤ IntKind.wrap IntKind.i64 (8 + be (List.take i b))) ∧ (IntKind.wrap IntKind.i64 (8 + be (List.take i b)) ≤ (↑(List.length b) : Int))))) ∧ (Int.toNat (IntKind.wrap IntKind.i64 (8 + be (List.take i b))) * 1 ≤ List.length (u8s b))) ∧ True) ⟨[.sl (u8s b) (List.length b) .any, U6, .sl [] 0 .nil, (B6 false), (I6 (be (List.take i b)))] ++ UU 26 ++ [(B6 (decide (be (List.take i b) > (↑(List.length b) : Int) - 8))), .sl (u8s b) (List.length b) .any, (I6 (be (List.take i b))), (I6 (IntKind.wrap IntKind.i64 (8 + be (List.take i b)))), (I6 (be (List.take i b))), (I6 (IntKind.wrap IntKind.i64 (8 + be (List.take i b)))), .sl (List.take ((Int.toNat (IntKind.wrap IntKind.i64 (8 + be (List.take i b))) - 4) * 1) (List.drop 4 (u8s b))) (Int.toNat (IntKind.wrap IntKind.i64 (8 + be (List.take i b))) - 4) .any, U6, U6, .undef], []⟩ (by kernel_rfl) ⟨trivial, trivial, trivial, trivial, trivial, ⟨⟨(by omega), ⟨(by (rw [IntWalk.i64_in _ (by omega)]; omega)), ⟨(by omega), (by (rw [IntWalk.i64_in _ (by omega)]; omega))⟩⟩⟩, (by (rw [IntWalk.i64_in _ (by omega)]; simp <;> omega))⟩, trivial⟩ ?_
            rw [IntWalk.i64_in (8 + be (List.take i b)) (by omega)]
            rw [Nat.mul_one (Int.toNat (8 + be (List.take i b)) - 4)]
            rw [Go.Abs.u8s_drop ((4 : Nat)) (b)]
            rw [Go.Abs.u8s_take (Int.toNat (8 + be (List.take i b)) - 4) (List.drop 4 b)]
            refine DerQ.callD (oN (List.take (Int.toNat (8 + be (List.take i b)) - 4) (List.drop 4 b)) (Int.toNat (8 + be (List.take i b)) - 4) (by ((have hi2 : i = 4 := by omega); subst hi2; rw [show Int.toNat (8 + be (List.take 4 b)) - 4 = (be (List.take 4 b)).toNat + 4 by omega]; assumption)) (by (simp [spliceA_length] <;> omega)) (by (simp [spliceA_length] <;> omega)) (by (repeat (first | assumption | apply Bts.take | apply Bts.drop | apply Bts.append)))) ⟨[.sl (u8s b) (List.length b) .any, U6, .sl [] 0 .nil, (B6 false), (I6 (be (List.take i b)))] ++ UU 26 ++ [(B6 (decide (be (List.take i b) > (↑(List.length b) : Int) - 8))), .sl (u8s b) (List.length b) .any, (I6 (be (List.take i b))), (I6 (8 + be (List.take i b))), (I6 (be (List.take i b))), (I6 (8 + be (List.take i b))), .sl (u8s (List.take (Int.toNat (8 + be (List.take i b)) - 4) (List.drop 4 b))) (Int.toNat (8 + be (List.take i b)) - 4) .any, .tup [.sl [] 0 .any, (B6 false)], U6, .undef], []⟩ ⟨by kernel_rfl, by kernel_rfl, by kernel_rfl⟩ ?_
            refine DerQ.run (TT 4) ⟨[.sl (u8s b) (List.length b) .any, U6, .sl [] 0 .any, (B6 false), (I6 (be (List.take i b)))] ++ UU 26 ++ [(B6 (decide (be (List.take i b) > (↑(List.length b) : Int) - 8))), .sl (u8s b) (List.length b) .any, (I6 (be (List.take i b))), (I6 (8 + be (List.take i b))), (I6 (be (List.take i b))), (I6 (8 + be (List.take i b))), .sl (u8s (List.take (Int.toNat (8 + be (List.take i b)) - 4) (List.drop 4 b))) (Int.toNat (8 + be (List.take i b)) - 4) .any, .tup [.sl [] 0 .any, (B6 false)], .sl [] 0 .any, (B6 false)], []⟩ (by kernel_rfl) (tt 4) ?_
            refine KL ([0, 4] ++ NN 31 10) ⟨[U6, U6, .sl [] 0 .any, (B6 false)] ++ UU 37, []⟩ ?_
            refine AWP.ret ?_
            refine FI (.tup [.sl [] 0 .any, (B6 false)]) ?_
            ((have hi2 : i = 4 := by omega); subst hi2; rw [bodyP_open b (by omega) (by omega) (by omega), ho]; exact Shrink.refl _ _ _; done)
        · have h3' := of_decide_eq_true h3
          refine RT 1 ?_
          refine KL (NN 23 8) ⟨[.sl (u8s b) (List.length b) .any, U6, .sl [] 0 .nil, (B6 false), (I6 (be (List.take i b)))] ++ UU 26 ++ [(B6 true)] ++ UU 9, []⟩ ?_
          refine CN true (fun _ => ?_) (fun h => nomatch h)
          refine SQ (RT 2 ?_)
          refine AWP.ret ?_
          refine FI (.tup [.sl [] 0 .nil, (B6 false)]) ?_
          ((have hi2 : i = 4 := by omega); subst hi2; rw [bodyP_big b (by omega) (by omega)]; exact Shrink.dataK [] (True) (.tup [.sl [] 0 .nil, .sc (.bool false)]) (by kernel_rfl) trivial rfl rfl; done)
  | some a =>
    have oS := fun (xs : List Int) (n : Nat) (h : opn xs = some a) (hn : n = xs.length) (hx : xs.length ≤ 1000000) (hb : Bts xs) => c_open_some h n hn hx hb
    refine AWP.seq ?_
    refine TO ⟨[.sl (u8s b) (List.length b) .any] ++ UU 40, []⟩ ?_
    refine AWP.reg (RT 2 ?_)
    refine AWP.seq (AWP.seq ?_)
    refine TO ⟨[.sl (u8s b) (List.length b) .any, U6, .sl [] 0 .nil, (B6 false)] ++ UU 37, []⟩ ?_
    refine AWP.reg (RT 3 ?_)
    refine KL [7, 8] ⟨[.sl (u8s b) (List.length b) .any, U6, .sl [] 0 .nil, (B6 false)] ++ UU 5 ++ [(B6 (decide ((↑(List.length b) : Int) < 8)))] ++ UU 31, []⟩ ?_
    refine CN (decide ((↑(List.length b) : Int) < 8)) (fun h1 => ?_) (fun h1 => ?_)
    · have h1' := of_decide_eq_true h1
      refine SQ (RT 2 ?_)
      refine AWP.ret ?_
      refine FI (.tup [.sl [] 0 .nil, (B6 false)]) ?_
      (rw [bodyP_short b (by omega)]; exact Shrink.dataK [] (True) (.tup [.sl [] 0 .nil, .sc (.bool false)]) (by kernel_rfl) trivial rfl rfl; done)
    · have h1' := of_decide_eq_false h1
      refine AWP.skip (SQ (RT 1 ?_))
      refine AWP.seq (AWP.seq (KL [9] ⟨[.sl (u8s b) (List.length b) .any, U6, .sl [] 0 .nil, (B6 false), (I6 0)] ++ UU 36, []⟩ ?_))
      refine AWP.reg ?_
      refine DerQ.run (True ∧ ((((0 : Int) ≤ (0 : Int)) ∧ (((0 : Int) ≤ (4 : Int)) ∧ ((4 ≤ (↑(List.length b) : Int)) ∧ ((↑(List.length b) : Int) ≤ (↑(List.length b) : Int))))) ∧ (4 ≤ List.length (u8s b))) ∧ True ∧ True ∧ True) ⟨[.sl (u8s b) (List.length b) .any, U6, .sl [] 0 .nil, (B6 false), (I6 0)] ++ UU 5 ++ [.sl (u8s b) (List.length b) .any, .sl (List.take 4 (List.drop 0 (u8s b))) 4 .any, (I6 4), (I6 0)] ++ UU 27, []⟩ (by kernel_rfl) ⟨trivial, ⟨⟨(by omega), ⟨(by omega), ⟨(by omega), (by omega)⟩⟩⟩, (by (simp [spliceA_length] <;> omega))⟩, trivial, trivial, trivial⟩ ?_
      rw [List.drop_zero]
      rw [Go.Abs.u8s_take ((4 : Nat)) (b)]
      refine AWP.block ?_
      refine AWP.loopM [true, false, true, true, true, false, false, false, false, false, true, true, true, true, false, false, false, false, false, false, false, false, false, false, false, false, false, false, false, false, false, false, false, false, false, false, false, false, false, false, false] (fun kk st => ∃ (i : Nat), kk = 4 - i ∧ i ≤ 4 ∧ st = ⟨[.sl (u8s b) (List.length b) .any, U6, .sl [] 0 .nil, (B6 false), (I6 (be (List.take i b))), U6, U6, U6, U6, U6, .sl (u8s b) (List.length b) .any, .sl (u8s (List.take 4 b)) 4 .any, (I6 4), (I6 (i : Int)), U6, U6, U6, U6, U6, U6, U6, U6, U6, U6, U6, U6, U6, U6, U6, U6, U6, U6, U6, U6, U6, U6, U6, U6, U6, U6, .undef], []⟩) _ ⟨0, rfl, by omega, by kernel_rfl⟩ ?_
      rintro kk s ⟨i, rfl, hi, rfl⟩
      have b3 := be_small i b hb (by omega)
      have c3 := (hb.take 4).get i
      refine SQ (RT 1 ?_)
      refine AWP.seq ?_
      refine TO ⟨[.sl (u8s b) (List.length b) .any, U6, .sl [] 0 .nil, (B6 false), (I6 (be (List.take i b)))] ++ UU 5 ++ [.sl (u8s b) (List.length b) .any, .sl (u8s (List.take 4 b)) 4 .any, (I6 4), (I6 (↑i : Int)), (B6 (decide ((↑i : Int) < 4)))] ++ UU 26, []⟩ ?_
      refine CN (decide ((↑i : Int) < 4)) (fun h2 => ?_) (fun h2 => ?_)
      · have h2' := of_decide_eq_true h2
        refine AWP.skip (AWP.seq (AWP.block (SQ ?_)))
        refine DerQ.run ((((0 ≤ (↑i : Int)) ∧ ((↑i : Int) < 4)) ∧ (Int.toNat (↑i : Int) * 1 + 1 ≤ List.length (u8s (List.take 4 b)))) ∧ 0 < 1 ∧ True ∧ True) ⟨[.sl (u8s b) (List.length b) .any, U6, .sl [] 0 .nil, (B6 false), (I6 (be (List.take i b))), U6, ev [AVal.sl (u8s b) (List.length b) SlK.any, U6, AVal.sl [] 0 SlK.nil, (B6 false), (I6 (be (List.take i b))), U6, U6, U6, U6, U6, AVal.sl (u8s b) (List.length b) SlK.any, AVal.sl (u8s (List.take 4 b)) 4 SlK.any, (I6 4), (I6 (↑i : Int)), (B6 (decide ((↑i : Int) < 4))), AVal.dptr [List.getD (u8s (List.take 4 b)) (Int.toNat (↑i : Int) * 1 + 0) AVal.undef], List.getD [List.getD (u8s (List.take 4 b)) (Int.toNat (↑i : Int) * 1 + 0) AVal.undef] 0 U6, U6, U6, U6, U6, U6, U6, U6, U6, U6, U6, U6, U6, U6, U6, U6, U6, U6, U6, U6, U6, U6, U6, U6, AVal.undef] (Operand.tmp 16), U6, U6, U6, .sl (u8s b) (List.length b) .any, .sl (u8s (List.take 4 b)) 4 .any, (I6 4), (I6 (↑i : Int)), (B6 (decide ((↑i : Int) < 4))), .dptr [List.getD (u8s (List.take 4 b)) (Int.toNat (↑i : Int) * 1 + 0) AVal.undef], List.getD (u8s (List.take 4 b)) (Int.toNat (↑i : Int) * 1 + 0) AVal.undef] ++ UU 24, []⟩ (by kernel_rfl) ⟨⟨⟨(by omega), (by omega)⟩, (by (simp [spliceA_length] <;> omega))⟩, (by omega), trivial, trivial⟩ ?_
        rw [Int.toNat_natCast (i)]
        rw [Nat.mul_one (i)]
        rw [Nat.add_zero (i)]
        rw [Go.Abs.u8s_getD (List.take 4 b) (i) (by (simp [spliceA_length] <;> omega))]
        refine AWP.reg ?_
        refine DerQ.run (True ∧ ((0 : Int) ≤ (8 : Int)) ∧ True ∧ True ∧ True ∧ True ∧ True) ⟨[.sl (u8s b) (List.length b) .any, U6, .sl [] 0 .nil, (B6 false), (I6 (IntKind.wrap IntKind.i64 (↑(BitVec.toNat (BitVec.ofInt 64 (IntKind.wrap IntKind.i64 (be (List.take i b) * 256)) ||| BitVec.ofInt 64 (IntKind.wrap IntKind.i64 (List.getD (List.take 4 b) i 0)))) : Int))), U6, .sc (.int .u8 (List.getD (List.take 4 b) i 0)), U6, U6, U6, .sl (u8s b) (List.length b) .any, .sl (u8s (List.take 4 b)) 4 .any, (I6 4), (I6 (↑i : Int)), (B6 (decide ((↑i : Int) < 4))), .dptr [.sc (.int .u8 (List.getD (List.take 4 b) i 0))], .sc (.int .u8 (List.getD (List.take 4 b) i 0)), (I6 (be (List.take i b))), (I6 (IntKind.wrap IntKind.i64 (be (List.take i b) * 256))), .sc (.int .u8 (List.getD (List.take 4 b) i 0)), (I6 (IntKind.wrap IntKind.i64 (List.getD (List.take 4 b) i 0))), (I6 (IntKind.wrap IntKind.i64 (↑(BitVec.toNat (BitVec.ofInt 64 (IntKind.wrap IntKind.i64 (be (List.take i b) * 256)) ||| BitVec.ofInt 64 (IntKind.wrap IntKind.i64 (List.getD (List.take 4 b) i 0)))) : Int)))] ++ UU 19, []⟩ (by kernel_rfl) ⟨trivial, (by omega), trivial, trivial, trivial, trivial, trivial⟩ ?_
        rw [IntWalk.i64_in (be (List.take i b) * 256) (by omega)]
        rw [IntWalk.i64_in (List.getD (List.take 4 b) i 0) (by omega)]
        rw [Go.Rec.orb (be (List.take i b)) (List.getD (List.take 4 b) i 0) (by omega) (by omega) (by omega) (by omega)]
        refine KL ([6] ++ NN 14 8) ⟨[.sl (u8s b) (List.length b) .any, U6, .sl [] 0 .nil, (B6 false), (I6 (IntKind.wrap IntKind.i64 (256 * be (List.take i b) + List.getD (List.take 4 b) i 0)))] ++ UU 5 ++ [.sl (u8s b) (List.length b) .any, .sl (u8s (List.take 4 b)) 4 .any, (I6 4), (I6 (↑i : Int))] ++ UU 27, []⟩ ?_
        refine AWP.reg ?_
        refine DerQ.run (TT 2) ⟨[.sl (u8s b) (List.length b) .any, U6, .sl [] 0 .nil, (B6 false), (I6 (IntKind.wrap IntKind.i64 (256 * be (List.take i b) + List.getD (List.take 4 b) i 0)))] ++ UU 5 ++ [.sl (u8s b) (List.length b) .any, .sl (u8s (List.take 4 b)) 4 .any, (I6 4), (I6 (IntKind.wrap IntKind.i64 ((↑i : Int) + 1)))] ++ UU 8 ++ [(I6 (IntKind.wrap IntKind.i64 ((↑i : Int) + 1)))] ++ UU 18, []⟩ (by kernel_rfl) (tt 2) ?_
        rw [IntWalk.i64_in (256 * be (List.take i b) + List.getD (List.take 4 b) i 0) (by omega)]
        rw [IntWalk.i64_in ((↑i : Int) + 1) (by omega)]
        (rw [be_round b i (by omega) (by omega)]; exact ⟨_, by omega, i + 1, rfl, by omega, by kernel_rfl⟩; done)
      · have h2' := of_decide_eq_false h2
        refine AWP.exit ?_
        refine AWP.seq (AWP.seq (KL (NN 10 5) ⟨[.sl (u8s b) (List.length b) .any, U6, .sl [] 0 .nil, (B6 false), (I6 (be (List.take i b)))] ++ UU 36, []⟩ ?_))
        refine AWP.reg (PT 3 3 ?_)
        refine DerQ.to ⟨[.sl (u8s b) (List.length b) .any, U6, .sl [] 0 .nil, (B6 false), (I6 (be (List.take i b)))] ++ UU 18 ++ [(I6 (be (List.take i b))), (B6 (decide (be (List.take i b) > 60000))), (B6 (decide (be (List.take i b) > 60000)))] ++ UU 15, []⟩ (by kernel_rfl) ?_
        cases h3 : (decide (be (List.take i b) > 60000))
        · have h3' := of_decide_eq_false h3
          refine DerQ.run (TT 6) ⟨[.sl (u8s b) (List.length b) .any, U6, .sl [] 0 .nil, (B6 false), (I6 (be (List.take i b)))] ++ UU 18 ++ [(I6 (be (List.take i b))), (B6 false), (B6 false), (I6 (be (List.take i b))), .sl (u8s b) (List.length b) .any, (I6 (↑(List.length b) : Int)), (I6 (IntKind.wrap IntKind.i64 ((↑(List.length b) : Int) - 8))), (B6 (decide (be (List.take i b) > IntKind.wrap IntKind.i64 ((↑(List.length b) : Int) - 8)))), (B6 (decide (be (List.take i b) > IntKind.wrap IntKind.i64 ((↑(List.length b) : Int) - 8))))] ++ UU 9, []⟩ (by kernel_rfl) (tt 6) ?_
          rw [IntWalk.i64_in ((↑(List.length b) : Int) - 8) (by omega)]
          refine KL (NN 23 8) ⟨[.sl (u8s b) (List.length b) .any, U6, .sl [] 0 .nil, (B6 false), (I6 (be (List.take i b)))] ++ UU 26 ++ [(B6 (decide (be (List.take i b) > (↑(List.length b) : Int) - 8)))] ++ UU 9, []⟩ ?_
          refine CN (decide (be (List.take i b) > (↑(List.length b) : Int) - 8)) (fun h4 => ?_) (fun h4 => ?_)
          · have h4' := of_decide_eq_true h4
            refine SQ (RT 2 ?_)
            refine AWP.ret ?_
            refine FI (.tup [.sl [] 0 .nil, (B6 false)]) ?_
            ((have hi2 : i = 4 := by omega); subst hi2; rw [bodyP_big b (by omega) (by omega)]; exact Shrink.dataK [] (True) (.tup [.sl [] 0 .nil, .sc (.bool false)]) (by kernel_rfl) trivial rfl rfl; done)
          · have h4' := of_decide_eq_false h4
            refine AWP.skip (SQ ?_)
            refine DerQ.pre 6 (True ∧ True ∧ True ∧ True ∧ True ∧ ((((0 : Int) ≤ (4 : Int)) ∧ ((4 ≤ IntKind.wrap IntKind.i64 (8 + be (List.take i b))) ∧ ((IntKind.wrap IntKind.i64 (8 + be (List.take i b)) ≤ IntKind.wrap IntKind.i64 (8 + be (List.take i b))) ∧ (IntKind.wrap IntKind.i64 (8 + be (List.take i b)) ≤ (↑(List.length b) : Int))))) ∧ (Int.toNat (IntKind.wrap IntKind.i64 (8 + be (List.take i b))) * 1 ≤ List.length (u8s b))) ∧ True) ⟨[.sl (u8s b) (List.length b) .any, U6, .sl [] 0 .nil, (B6 false), (I6 (be (List.take i b)))] ++ UU 26 ++ [(B6 (decide (be (List.take i b) > (↑(List.length b) : Int) - 8))), .sl (u8s b) (List.length b) .any, (I6 (be (List.take i b))), (I6 (IntKind.wrap IntKind.i64 (8 + be (List.take i b)))), (I6 (be (List.take i b))), (I6 (IntKind.wrap IntKind.i64 (8 + be (List.take i b)))), .sl (List.take ((Int.toNat (IntKind.wrap IntKind.i64 (8 + be (List.take i b))) - 4) * 1) (List.drop 4 (u8s b))) (Int.toNat (IntKind.wrap IntKind.i64 (8 + be (List.take i b))) - 4) .any, U6, U6, .undef], []⟩ (by kernel_rfl) ⟨trivial, trivial, trivial, trivial, trivial, ⟨⟨(by omega), ⟨(by (rw [IntWalk.i64_in _ (by omega)]; omega)), ⟨(by omega), (by (rw [IntWalk.i64_in _ (by omega)]; omega))⟩⟩⟩, (by (rw [IntWalk.i64_in _ (by omega)]; simp <;> omega))⟩, trivial⟩ ?_
            rw [IntWalk.i64_in (8 + be (List.take i b)) (by omega)]
            rw [Nat.mul_one (Int.toNat (8 + be (List.take i b)) - 4)]
            rw [Go.Abs.u8s_drop ((4 : Nat)) (b)]
            rw [Go.Abs.u8s_take (Int.toNat (8 + be (List.take i b)) - 4) (List.drop 4 b)]
            refine DerQ.callD (oS (List.take (Int.toNat (8 + be (List.take i b)) - 4) (List.drop 4 b)) (Int.toNat (8 + be (List.take i b)) - 4) (by ((have hi2 : i = 4 := by omega); subst hi2; rw [show Int.toNat (8 + be (List.take 4 b)) - 4 = (be (List.take 4 b)).toNat + 4 by omega]; assumption)) (by (simp [spliceA_length] <;> omega)) (by (simp [spliceA_length] <;> omega)) (by (repeat (first | assumption | apply Bts.take | apply Bts.drop | apply Bts.append)))) ⟨[.sl (u8s b) (List.length b) .any, U6, .sl [] 0 .nil, (B6 false), (I6 (be (List.take i b)))] ++ UU 26 ++ [(B6 (decide (be (List.take i b) > (↑(List.length b) : Int) - 8))), .sl (u8s b) (List.length b) .any, (I6 (be (List.take i b))), (I6 (8 + be (List.take i b))), (I6 (be (List.take i b))), (I6 (8 + be (List.take i b))), .sl (u8s (List.take (Int.toNat (8 + be (List.take i b)) - 4) (List.drop 4 b))) (Int.toNat (8 + be (List.take i b)) - 4) .any, .tup [.sl (u8s a) (List.length a) .any, (B6 true)], U6, .undef], []⟩ ⟨by kernel_rfl, by kernel_rfl, by kernel_rfl⟩ ?_
            refine DerQ.run (TT 4) ⟨[.sl (u8s b) (List.length b) .any, U6, .sl (u8s a) (List.length a) .any, (B6 true), (I6 (be (List.take i b)))] ++ UU 26 ++ [(B6 (decide (be (List.take i b) > (↑(List.length b) : Int) - 8))), .sl (u8s b) (List.length b) .any, (I6 (be (List.take i b))), (I6 (8 + be (List.take i b))), (I6 (be (List.take i b))), (I6 (8 + be (List.take i b))), .sl (u8s (List.take (Int.toNat (8 + be (List.take i b)) - 4) (List.drop 4 b))) (Int.toNat (8 + be (List.take i b)) - 4) .any, .tup [.sl (u8s a) (List.length a) .any, (B6 true)], .sl (u8s a) (List.length a) .any, (B6 true)], []⟩ (by kernel_rfl) (tt 4) ?_
            refine KL ([0, 4] ++ NN 31 10) ⟨[U6, U6, .sl (u8s a) (List.length a) .any, (B6 true)] ++ UU 37, []⟩ ?_
            refine AWP.ret ?_
            refine FI (.tup [.sl (u8s a) (List.length a) .any, (B6 true)]) ?_
            ((have hi2 : i = 4 := by omega); subst hi2; rw [bodyP_open b (by omega) (by omega) (by omega), ho]; exact Shrink.refl _ _ _; done)
        · have h3' := of_decide_eq_true h3
          refine RT 1 ?_
          refine KL (NN 23 8) ⟨[.sl (u8s b) (List.length b) .any, U6, .sl [] 0 .nil, (B6 false), (I6 (be (List.take i b)))] ++ UU 26 ++ [(B6 true)] ++ UU 9, []⟩ ?_
          refine CN true (fun _ => ?_) (fun h => nomatch h)
          refine SQ (RT 2 ?_)
          refine AWP.ret ?_
          refine FI (.tup [.sl [] 0 .nil, (B6 false)]) ?_
          ((have hi2 : i = 4 := by omega); subst hi2; rw [bodyP_big b (by omega) (by omega)]; exact Shrink.dataK [] (True) (.tup [.sl [] 0 .nil, .sc (.bool false)]) (by kernel_rfl) trivial rfl rfl; done)
end Go.Rec
