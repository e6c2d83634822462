/- Walks and laws. -/
import Derived.Test.YtikllaiggklljaaRc1
set_option maxRecDepth 100000
set_option maxHeartbeats 0
set_option linter.unusedSimpArgs false
set_option linter.unusedVariables false
namespace Go.Rec
open Go Go.Abs Go.Proofs Go.Crc Go.Chu
theorem c_records (b : List Int) : EvD Try.prog 49 [.sl (u8s b) b.length .any] (.fn 74 [.dptr [.sl (u8s b) b.length .any]]) := by
  refine EvD.body Try.func49 rfl rfl rfl ?_
  refine AWP.seq ?_
  refine TO ⟨[.sl (u8s b) (List.length b) .any, U6, U6, .undef], []⟩ ?_
  refine AWP.reg (RT 2 ?_)
  refine AWP.seq (KL [0] ⟨[U6, .ptr 0 0, .sc .nilFunc, .undef], [⟨[.sl (u8s b) (List.length b) .any], 1, .fresh⟩]⟩ ?_)
  refine AWP.reg (RT 2 ?_)
  refine AWP.ret ?_
  refine FI (.fn 74 [.ptr 0 0]) ?_
  refine Shrink.dataK [0] ((dataAll [AVal.sl (u8s b) (List.length b) SlK.any] = true) ∧ (True)) (.fn 74 [.dptr [.sl (u8s b) (List.length b) .any]]) (by kernel_rfl) ⟨(by rfl), trivial⟩ ?_ rfl
  kernel_rfl
theorem c_body_none {b : List Int} (h : bodyP b = none) (n : Nat) (hn : n = b.length) (hx : b.length ≤ 100000) (hb : Bts b) : EvD Try.prog 75 [.sl (u8s b) n .any] (.tup [.sl [] 0 .any, .sc (.bool false)]) := by
  have := c_body b hx hb; rw [h] at this; subst hn; exact this
theorem c_body_some {b x : List Int} (h : bodyP b = some x) (n : Nat) (hn : n = b.length) (hx : b.length ≤ 100000) (hb : Bts b) : EvD Try.prog 75 [.sl (u8s b) n .any] (.tup [.sl (u8s x) x.length .any, .sc (.bool true)]) := by
  have := c_body b hx hb; rw [h] at this; subst hn; exact this
theorem it_records (b : List Int) (hx : b.length ≤ 100000) (hb : Bts b) : IterD Try.prog 74 [.dptr [.sl (u8s b) b.length .any]] (scanF (b.length + 1) b 0) encR := by
  refine IterD.body Try.func74 rfl ?_
  intro l
  refine AWJ.to ⟨[.sc (.func (.yield l) #[] #[]), .dptr [.sl (u8s b) b.length .any], .undef, .undef, .undef, .undef, .undef, .undef, .undef, .undef, .undef, .undef, .undef, .undef, .undef, .undef, .undef, .undef, .undef, .undef, .undef, .undef, .undef, .undef, .undef], []⟩ (by kernel_rfl) ?_
  refine AWJ.seq (AWJ.mono (AWJ.of (Q := fun e p s => e = .normal ∧ p = [] ∧ s = ⟨[.sc (.func (.yield l) #[] #[]), .dptr [.sl (u8s b) b.length .any], .undef, .sc (.int .i64 0), .undef, .undef, .undef, .undef, .undef, .undef, .undef, .undef, .undef, .undef, .undef, .undef, .undef, .undef, .undef, .undef, .undef, .undef, .undef, .undef, .undef], []⟩) ?_) ?_)
  · refine AWP.reg (RT 1 ?_)
    (exact ⟨⟨rfl, rfl, rfl⟩, rfl⟩; done)
  rintro _ _ _ ⟨rfl, rfl, rfl⟩
  refine AWJ.block (AWJ.loop (fun k p s => ∃ at_ : Nat, scanF (b.length + 1) b 0 = p ++ scanF k b at_ ∧ at_ ≤ b.length ∧ b.length < at_ + k ∧ (⟨killL [2, 4, 5, 6, 7, 8, 9, 10, 11, 12, 13, 14, 15, 16, 17, 18, 19, 20, 21, 22, 23, 24] s.regs, s.rows⟩ : St) = ⟨[.sc (.func (.yield l) #[] #[]), .dptr [.sl (u8s b) b.length .any], .undef, .sc (.int .i64 (at_ : Int)), .undef, .undef, .undef, .undef, .undef, .undef, .undef, .undef, .undef, .undef, .undef, .undef, .undef, .undef, .undef, .undef, .undef, .undef, .undef, .undef, .undef], []⟩) (b.length + 1) ⟨0, rfl, by omega, by omega, by kernel_rfl⟩ ?_)
  rintro k p s ⟨at_, h1, h2, h3, hs⟩
  refine AWJ.kill [2, 4, 5, 6, 7, 8, 9, 10, 11, 12, 13, 14, 15, 16, 17, 18, 19, 20, 21, 22, 23, 24] _ hs rfl ?_
  obtain ⟨k, rfl⟩ : ∃ j, k = j + 1 := ⟨k - 1, by omega⟩
  cases hbo : bodyP (b.drop at_) with
  | none =>
    have bN := fun (xs : List Int) (n : Nat) (h : bodyP xs = none) (hn : n = xs.length) (hx : xs.length ≤ 100000) (hb : Bts xs) => c_body_none h n hn hx hb
    refine AWJ.of ?_
    refine AWP.block (SQ ?_)
    refine DerQ.pre 3 (0 < 1 ∧ True ∧ (((0 ≤ (↑at_ : Int)) ∧ (((↑at_ : Int) ≤ (↑(List.length b) : Int)) ∧ (((↑(List.length b) : Int) ≤ (↑(List.length b) : Int)) ∧ ((↑(List.length b) : Int) ≤ (↑(List.length b) : Int))))) ∧ (Int.toNat (↑(List.length b) : Int) * 1 ≤ List.length (u8s b))) ∧ True) ⟨[.sc (Value.func (Fn.yield l) #[] #[]), .dptr [.sl (u8s b) (List.length b) .any], U6, (I6 (↑at_ : Int)), U6, U6, U6, .sl (u8s b) (List.length b) .any, (I6 (↑at_ : Int)), .sl (List.take ((Int.toNat (↑(List.length b) : Int) - Int.toNat (↑at_ : Int)) * 1) (List.drop (Int.toNat (↑at_ : Int) * 1) (u8s b))) (Int.toNat (↑(List.length b) : Int) - Int.toNat (↑at_ : Int)) .any] ++ UU 15, []⟩ (by kernel_rfl) ⟨(by omega), trivial, ⟨⟨(by omega), ⟨(by omega), ⟨(by omega), (by omega)⟩⟩⟩, (by simp)⟩, trivial⟩ ?_
    rw [Int.toNat_natCast (List.length b)]
    rw [Int.toNat_natCast (at_)]
    rw [Nat.mul_one (List.length b - at_)]
    rw [Nat.mul_one (at_)]
    rw [Go.Abs.u8s_drop (at_) (b)]
    rw [Go.Abs.u8s_take (List.length b - at_) (List.drop at_ b)]
    rw [Go.Rec.take_rest (b) (at_)]
    refine DerQ.callD (bN (List.drop at_ b) (List.length b - at_) (by omega) (by simp) (by (simp [spliceA_length] <;> omega)) (by (repeat (first | assumption | apply Bts.take | apply Bts.drop | apply Bts.append)))) ⟨[.sc (Value.func (Fn.yield l) #[] #[]), .dptr [.sl (u8s b) (List.length b) .any], U6, (I6 (↑at_ : Int)), U6, U6, U6, .sl (u8s b) (List.length b) .any, (I6 (↑at_ : Int)), .sl (u8s (List.drop at_ b)) (List.length b - at_) .any, .tup [.sl [] 0 .any, (B6 false)]] ++ UU 14, []⟩ ⟨by kernel_rfl, by kernel_rfl, by kernel_rfl⟩ ?_
    refine DerQ.run (TT 5) ⟨[.sc (Value.func (Fn.yield l) #[] #[]), .dptr [.sl (u8s b) (List.length b) .any], U6, (I6 (↑at_ : Int)), .sl [] 0 .any, (B6 false), .tup [.sl [] 0 .any, (B6 false)], .sl (u8s b) (List.length b) .any, (I6 (↑at_ : Int)), .sl (u8s (List.drop at_ b)) (List.length b - at_) .any, .tup [.sl [] 0 .any, (B6 false)], .sl [] 0 .any, (B6 false)] ++ UU 12, []⟩ (by kernel_rfl) (tt 5) ?_
    refine AWP.seq (AWP.seq (KL ([1] ++ NN 6 7) ⟨[.sc (Value.func (Fn.yield l) #[] #[]), U6, U6, (I6 (↑at_ : Int)), .sl [] 0 .any, (B6 false)] ++ UU 19, []⟩ ?_))
    refine AWP.reg (RT 2 ?_)
    refine KL [5, 13] ⟨[.sc (Value.func (Fn.yield l) #[] #[]), U6, U6, (I6 (↑at_ : Int)), .sl [] 0 .any] ++ UU 9 ++ [(B6 true)] ++ UU 10, []⟩ ?_
    refine CN true (fun _ => ?_) (fun h => nomatch h)
    refine AWP.ret ?_
    (exact ⟨⟨.inr rfl, by rw [h1, scanF_none hbo, List.append_nil], _, rfl⟩, rfl⟩; done)
  | some x =>
    have bS := fun (xs : List Int) (n : Nat) (h : bodyP xs = some x) (hn : n = xs.length) (hx : xs.length ≤ 100000) (hb : Bts xs) => c_body_some h n hn hx hb
    have hl := bodyP_len hbo
    rw [List.length_drop] at hl
    refine AWJ.block ?_
    refine AWJ.seq (AWJ.mono (AWJ.of (Q := fun e p' s => e = .normal ∧ p' = p ∧ s = ⟨[.sc (.func (.yield l) #[] #[]), .dptr [.sl (u8s b) b.length .any], .undef, .sc (.int .i64 (at_ : Int)), .sl (u8s x) x.length .any, .sc (.bool true), .tup [.sl (u8s x) x.length .any, .sc (.bool true)], .sl (u8s b) b.length .any, .sc (.int .i64 (at_ : Int)), .sl (u8s (b.drop at_)) (b.length - at_) .any, .tup [.sl (u8s x) x.length .any, .sc (.bool true)], .sl (u8s x) x.length .any, .sc (.bool true), .undef, .undef, .undef, .undef, .undef, .undef, .undef, .undef, .undef, .undef, .undef, .undef], []⟩) ?_) ?_)
    · refine AWP.reg ?_
      refine DerQ.pre 3 (0 < 1 ∧ True ∧ (((0 ≤ (↑at_ : Int)) ∧ (((↑at_ : Int) ≤ (↑(List.length b) : Int)) ∧ (((↑(List.length b) : Int) ≤ (↑(List.length b) : Int)) ∧ ((↑(List.length b) : Int) ≤ (↑(List.length b) : Int))))) ∧ (Int.toNat (↑(List.length b) : Int) * 1 ≤ List.length (u8s b))) ∧ True) ⟨[.sc (Value.func (Fn.yield l) #[] #[]), .dptr [.sl (u8s b) (List.length b) .any], U6, (I6 (↑at_ : Int)), U6, U6, U6, .sl (u8s b) (List.length b) .any, (I6 (↑at_ : Int)), .sl (List.take ((Int.toNat (↑(List.length b) : Int) - Int.toNat (↑at_ : Int)) * 1) (List.drop (Int.toNat (↑at_ : Int) * 1) (u8s b))) (Int.toNat (↑(List.length b) : Int) - Int.toNat (↑at_ : Int)) .any] ++ UU 15, []⟩ (by kernel_rfl) ⟨(by omega), trivial, ⟨⟨(by omega), ⟨(by omega), ⟨(by omega), (by omega)⟩⟩⟩, (by simp)⟩, trivial⟩ ?_
      rw [Int.toNat_natCast (List.length b)]
      rw [Int.toNat_natCast (at_)]
      rw [Nat.mul_one (List.length b - at_)]
      rw [Nat.mul_one (at_)]
      rw [Go.Abs.u8s_drop (at_) (b)]
      rw [Go.Abs.u8s_take (List.length b - at_) (List.drop at_ b)]
      rw [Go.Rec.take_rest (b) (at_)]
      refine DerQ.callD (bS (List.drop at_ b) (List.length b - at_) (by omega) (by simp) (by (simp [spliceA_length] <;> omega)) (by (repeat (first | assumption | apply Bts.take | apply Bts.drop | apply Bts.append)))) ⟨[.sc (Value.func (Fn.yield l) #[] #[]), .dptr [.sl (u8s b) (List.length b) .any], U6, (I6 (↑at_ : Int)), U6, U6, U6, .sl (u8s b) (List.length b) .any, (I6 (↑at_ : Int)), .sl (u8s (List.drop at_ b)) (List.length b - at_) .any, .tup [.sl (u8s x) (List.length x) .any, (B6 true)]] ++ UU 14, []⟩ ⟨by kernel_rfl, by kernel_rfl, by kernel_rfl⟩ ?_
      refine DerQ.run (TT 5) ⟨[.sc (Value.func (Fn.yield l) #[] #[]), .dptr [.sl (u8s b) (List.length b) .any], U6, (I6 (↑at_ : Int)), .sl (u8s x) (List.length x) .any, (B6 true), .tup [.sl (u8s x) (List.length x) .any, (B6 true)], .sl (u8s b) (List.length b) .any, (I6 (↑at_ : Int)), .sl (u8s (List.drop at_ b)) (List.length b - at_) .any, .tup [.sl (u8s x) (List.length x) .any, (B6 true)], .sl (u8s x) (List.length x) .any, (B6 true)] ++ UU 12, []⟩ (by kernel_rfl) (tt 5) ?_
      (exact ⟨⟨rfl, rfl, rfl⟩, rfl⟩; done)
    rintro _ p _ ⟨rfl, rfl, rfl⟩
    refine AWJ.kill [6, 7, 8, 9, 10, 11, 12] ⟨[.sc (.func (.yield l) #[] #[]), .dptr [.sl (u8s b) b.length .any], .undef, .sc (.int .i64 (at_ : Int)), .sl (u8s x) x.length .any, .sc (.bool true), .undef, .undef, .undef, .undef, .undef, .undef, .undef, .undef, .undef, .undef, .undef, .undef, .undef, .undef, .undef, .undef, .undef, .undef, .undef], []⟩ (by kernel_rfl) rfl ?_
    refine AWJ.seq (AWJ.mono (AWJ.of (Q := fun e p' s => e = .normal ∧ p' = p ∧ s = ⟨[.sc (.func (.yield l) #[] #[]), .dptr [.sl (u8s b) b.length .any], .undef, .sc (.int .i64 (at_ : Int)), .sl (u8s x) x.length .any, .sc (.bool true), .undef, .undef, .undef, .undef, .undef, .undef, .undef, .sc (.bool true), .sc (.bool false), .undef, .undef, .undef, .undef, .undef, .undef, .undef, .undef, .undef, .undef], []⟩) ?_) ?_)
    · refine SQ ?_
      refine DerQ.run (True ∧ True ∧ True) ⟨[.sc (.func (.yield l) #[] #[]), .dptr [.sl (u8s b) b.length .any], U6, (I6 (at_ : Int)), .sl (u8s x) x.length .any, (B6 true)] ++ UU 7 ++ [(B6 true), (B6 false)] ++ UU 10, []⟩ (by kernel_rfl) ⟨trivial, trivial, trivial⟩ ?_
      exact AWP.cond (b := false) (by kernel_rfl) (fun h => nomatch h) (fun _ => AWP.skip ⟨⟨rfl, rfl, rfl⟩, rfl⟩)
    rintro _ p _ ⟨rfl, rfl, rfl⟩
    refine AWJ.kill [5, 13, 14] ⟨[.sc (.func (.yield l) #[] #[]), .dptr [.sl (u8s b) b.length .any], .undef, .sc (.int .i64 (at_ : Int)), .sl (u8s x) x.length .any, .undef, .undef, .undef, .undef, .undef, .undef, .undef, .undef, .undef, .undef, .undef, .undef, .undef, .undef, .undef, .undef, .undef, .undef, .undef, .undef], []⟩ (by kernel_rfl) rfl ?_
    refine AWJ.seq (AWJ.mono (AWJ.of (Q := fun e_ p' s => e_ = .normal ∧ p' = p ∧ s = ⟨[.sc (.func (.yield l) #[] #[]), .dptr [.sl (u8s b) b.length .any], .undef, .sc (.int .i64 ((at_ : Int) + (8 + (x.length : Int)))), .sl (u8s x) x.length .any, .undef, .undef, .undef, .undef, .undef, .undef, .undef, .undef, .undef, .undef, .sc (.int .i64 (at_ : Int)), .sl (u8s x) x.length .any, .sc (.int .i64 (x.length : Int)), .sc (.int .i64 (8 + (x.length : Int))), .sc (.int .i64 ((at_ : Int) + (8 + (x.length : Int)))), .undef, .undef, .undef, .undef, .undef], []⟩) ?_) ?_)
    · refine AWP.reg ?_
      refine DerQ.run (TT 6) ⟨[.sc (Value.func (Fn.yield l) #[] #[]), .dptr [.sl (u8s b) (List.length b) .any], U6, (I6 (IntKind.wrap IntKind.i64 ((↑at_ : Int) + IntKind.wrap IntKind.i64 (8 + (↑(List.length x) : Int))))), .sl (u8s x) (List.length x) .any] ++ UU 10 ++ [(I6 (↑at_ : Int)), .sl (u8s x) (List.length x) .any, (I6 (↑(List.length x) : Int)), (I6 (IntKind.wrap IntKind.i64 (8 + (↑(List.length x) : Int)))), (I6 (IntKind.wrap IntKind.i64 ((↑at_ : Int) + IntKind.wrap IntKind.i64 (8 + (↑(List.length x) : Int)))))] ++ UU 5, []⟩ (by kernel_rfl) (tt 6) ?_
      rw [IntWalk.i64_in (8 + (↑(List.length x) : Int)) (by omega)]
      (rw [IntWalk.i64_in ((at_ : Int) + (8 + (x.length : Int))) (by omega)]; exact ⟨⟨rfl, rfl, rfl⟩, rfl⟩; done)
    rintro _ p _ ⟨rfl, rfl, rfl⟩
    rw [at_next]
    refine AWJ.kill [15, 16, 17, 18, 19] ⟨[.sc (.func (.yield l) #[] #[]), .dptr [.sl (u8s b) b.length .any], .undef, .sc (.int .i64 ((at_ + 8 + x.length : Nat) : Int)), .sl (u8s x) x.length .any, .undef, .undef, .undef, .undef, .undef, .undef, .undef, .undef, .undef, .undef, .undef, .undef, .undef, .undef, .undef, .undef, .undef, .undef, .undef, .undef], []⟩ (by kernel_rfl) rfl ?_
    have e1 : scanF (b.length + 1) b 0 = (p ++ [(at_ + 8 + x.length, x)]) ++ scanF k b (at_ + 8 + x.length) := by rw [h1, scanF_some hbo, List.append_assoc]; rfl
    refine AWJ.seq (AWJ.mono (AWJ.yieldReg (Q := fun e_ p' s => e_ = .normal ∧ p' = p ++ [(at_ + 8 + x.length, x)] ∧ s = ⟨[.sc (.func (.yield l) #[] #[]), .dptr [.sl (u8s b) b.length .any], .undef, .sc (.int .i64 ((at_ + 8 + x.length : Nat) : Int)), .sl (u8s x) x.length .any, .undef, .undef, .undef, .undef, .undef, .undef, .undef, .undef, .undef, .undef, .undef, .undef, .undef, .undef, .undef, .sc (.func (.yield l) #[] #[]), .sc (.int .i64 ((at_ + 8 + x.length : Nat) : Int)), .sl (u8s x) x.length .any, .sc (.bool true), .sc (.bool false)], []⟩) [_, _, _] _ [_] ⟨[.sc (.func (.yield l) #[] #[]), .dptr [.sl (u8s b) b.length .any], .undef, .sc (.int .i64 ((at_ + 8 + x.length : Nat) : Int)), .sl (u8s x) x.length .any, .undef, .undef, .undef, .undef, .undef, .undef, .undef, .undef, .undef, .undef, .undef, .undef, .undef, .undef, .undef, .sc (.func (.yield l) #[] #[]), .sc (.int .i64 ((at_ + 8 + x.length : Nat) : Int)), .sl (u8s x) x.length .any, .undef, .undef], []⟩ (at_ + 8 + x.length, x) (scanF k b (at_ + 8 + x.length)) (runL_spec (c := True ∧ True ∧ True ∧ True) (by kernel_rfl) ⟨trivial, trivial, trivial, trivial⟩) rfl (by kernel_rfl) (by kernel_rfl) (by rw [h1, scanF_some hbo]) (DerQ.run (True ∧ True) ⟨[.sc (.func (.yield l) #[] #[]), .dptr [.sl (u8s b) b.length .any], .undef, .sc (.int .i64 ((at_ + 8 + x.length : Nat) : Int)), .sl (u8s x) x.length .any, .undef, .undef, .undef, .undef, .undef, .undef, .undef, .undef, .undef, .undef, .undef, .undef, .undef, .undef, .undef, .sc (.func (.yield l) #[] #[]), .sc (.int .i64 ((at_ + 8 + x.length : Nat) : Int)), .sl (u8s x) x.length .any, .sc (.bool true), .sc (.bool false)], []⟩ (by kernel_rfl) ⟨trivial, trivial⟩ ⟨rfl, rfl, rfl, rfl⟩)) ?_)
    rintro _ p' _ ⟨rfl, rfl, rfl⟩
    refine AWJ.mono (AWJ.of (Q := fun e_ p' s => e_ = .normal ∧ p' = p ++ [(at_ + 8 + x.length, x)] ∧ s = ⟨[.sc (.func (.yield l) #[] #[]), .dptr [.sl (u8s b) b.length .any], .undef, .sc (.int .i64 ((at_ + 8 + x.length : Nat) : Int)), .sl (u8s x) x.length .any, .undef, .undef, .undef, .undef, .undef, .undef, .undef, .undef, .undef, .undef, .undef, .undef, .undef, .undef, .undef, .sc (.func (.yield l) #[] #[]), .sc (.int .i64 ((at_ + 8 + x.length : Nat) : Int)), .sl (u8s x) x.length .any, .sc (.bool true), .sc (.bool false)], []⟩) ?_) ?_
    · exact AWP.cond (b := false) (by kernel_rfl) (fun h => nomatch h) (fun _ => AWP.skip ⟨⟨rfl, rfl, rfl⟩, rfl⟩)
    rintro _ p' _ ⟨rfl, rfl, rfl⟩
    exact ⟨k, by omega, at_ + 8 + x.length, e1, by omega, by omega, by kernel_rfl⟩
end Go.Rec
