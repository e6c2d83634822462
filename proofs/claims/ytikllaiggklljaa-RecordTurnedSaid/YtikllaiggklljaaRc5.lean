/- Walks and laws. -/
import Derived.Test.YtikllaiggklljaaRc4
set_option maxRecDepth 100000
set_option maxHeartbeats 0
set_option linter.unusedSimpArgs false
set_option linter.unusedVariables false
namespace Go.Rec
open Go Go.Abs Go.Proofs Go.Crc Go.Chu
theorem r_few (l : List (List Int)) : EvD Try.prog 12 [.sl (bss l) l.length .any] (.sc (.bool (decide (fewP l)))) := by
  refine EvD.body Try.func12 rfl rfl rfl ?_
  refine AWP.seq ?_
  refine TO ⟨[.sl (bss l) (List.length l) .any] ++ UU 33, []⟩ ?_
  refine AWP.reg (RT 1 ?_)
  refine AWP.seq ?_
  refine TO ⟨[.sl (bss l) (List.length l) .any, U6, (B6 false)] ++ UU 31, []⟩ ?_
  refine AWP.reg (RT 1 ?_)
  refine AWP.seq (AWP.seq ?_)
  refine TO ⟨[.sl (bss l) (List.length l) .any, U6, (B6 false), (I6 0)] ++ UU 30, []⟩ ?_
  refine AWP.reg (RT 1 ?_)
  refine AWP.block ?_
  refine TO ⟨[.sl (bss l) (List.length l) .any, U6, (B6 false), (I6 0), (I6 0)] ++ UU 29, []⟩ ?_
  refine AWP.loopM [true, false, true, true, true, false, false, false, false, false, false, false, false, false, false, false, false, false, false, false, false, false, false, false, false, false, false, false, false, false, false, false, false, false] (fun kk st => ∃ (i : Nat), kk = l.length - i ∧ i ≤ l.length ∧ flt l i ≤ 6000 ∧ st = ⟨[.sl (bss l) (List.length l) .any, U6, (B6 false), (I6 (flt l i : Int)), (I6 (i : Int)), U6, U6, U6, U6, U6, U6, U6, U6, U6, U6, U6, U6, U6, U6, U6, U6, U6, U6, U6, U6, U6, U6, U6, U6, U6, U6, U6, U6, .undef], []⟩) _ ⟨0, rfl, by omega, by rw [flt_zero]; omega, by kernel_rfl⟩ ?_
  rintro kk s ⟨i, rfl, hi, hf, rfl⟩
  refine AWP.seq (SQ (PT 5 5 ?_))
  refine DerQ.to ⟨[.sl (bss l) (List.length l) .any, U6, (B6 false), (I6 (↑(flt l i) : Int)), (I6 (↑i : Int)), (I6 (↑i : Int)), .sl (bss l) (List.length l) .any, (I6 (↑(List.length l) : Int)), (B6 (decide ((↑i : Int) < (↑(List.length l) : Int)))), (B6 (decide ((↑i : Int) < (↑(List.length l) : Int))))] ++ UU 24, []⟩ (by kernel_rfl) ?_
  cases h1 : (decide ((↑i : Int) < (↑(List.length l) : Int)))
  · have h1' := of_decide_eq_false h1
    refine RT 1 ?_
    refine KL (NN 5 8) ⟨[.sl (bss l) (List.length l) .any, U6, (B6 false), (I6 (↑(flt l i) : Int)), (I6 (↑i : Int))] ++ UU 8 ++ [(B6 false)] ++ UU 20, []⟩ ?_
    refine CN false (fun h => nomatch h) (fun _ => ?_)
    refine AWP.exit ?_
    refine SQ (RT 4 ?_)
    refine AWP.ret ?_
    refine FI (B6 (decide ((↑(List.length l) : Int) ≤ 40))) ?_
    refine Shrink.all ?_ rfl
    exact congrArg (fun z => AVal.sc (Value.bool z)) (decide_eq_decide.2 ⟨fun h1 => ⟨by omega, by rw [← flt_all l i (by omega)]; omega⟩, fun h1 => by have := h1.1; omega⟩)
  · have h1' := of_decide_eq_true h1
    refine RT 4 ?_
    refine KL (NN 5 8) ⟨[.sl (bss l) (List.length l) .any, U6, (B6 false), (I6 (↑(flt l i) : Int)), (I6 (↑i : Int))] ++ UU 8 ++ [(B6 (decide ((↑(List.length l) : Int) ≤ 40)))] ++ UU 20, []⟩ ?_
    refine CN (decide ((↑(List.length l) : Int) ≤ 40)) (fun h2 => ?_) (fun h2 => ?_)
    · have h2' := of_decide_eq_true h2
      refine AWP.skip (AWP.seq (AWP.block (AWP.seq (SQ ?_))))
      refine DerQ.pre 4 (True ∧ True ∧ (((0 ≤ (↑i : Int)) ∧ ((↑i : Int) < (↑(List.length l) : Int))) ∧ (Int.toNat (↑i : Int) * 1 + 1 ≤ List.length (bss l))) ∧ 0 < 1 ∧ True) ⟨[.sl (bss l) (List.length l) .any, U6, (B6 false), (I6 (↑(flt l i) : Int)), (I6 (↑i : Int))] ++ UU 8 ++ [(B6 (decide ((↑(List.length l) : Int) ≤ 40))), U6, U6, .sl (bss l) (List.length l) .any, (I6 (↑i : Int)), .dptr [List.getD (bss l) (Int.toNat (↑i : Int) * 1 + 0) AVal.undef], List.getD [List.getD (bss l) (Int.toNat (↑i : Int) * 1 + 0) AVal.undef] 0 AVal.undef] ++ UU 14, []⟩ (by kernel_rfl) ⟨trivial, trivial, ⟨⟨(by omega), (by omega)⟩, (by (simp [spliceA_length] <;> omega))⟩, (by omega), trivial⟩ ?_
      rw [Int.toNat_natCast (i)]
      rw [Nat.mul_one (i)]
      rw [Nat.add_zero (i)]
      rw [Go.Chu.bss_getD (l) (i) (by omega)]
      refine DerQ.run (TT 4) ⟨[.sl (bss l) (List.length l) .any, U6, (B6 false), (I6 (↑(flt l i) : Int)), (I6 (↑i : Int))] ++ UU 8 ++ [(B6 (decide ((↑(List.length l) : Int) ≤ 40))), U6, U6, .sl (bss l) (List.length l) .any, (I6 (↑i : Int)), .dptr [.sl (u8s (List.getD l i [])) (List.length (List.getD l i [])) .any], .sl (u8s (List.getD l i [])) (List.length (List.getD l i [])) .any, (I6 (↑(List.length (List.getD l i [])) : Int)), (I6 (↑(flt l i) : Int)), (I6 (IntKind.wrap IntKind.i64 (6000 - (↑(flt l i) : Int)))), (B6 (decide ((↑(List.length (List.getD l i [])) : Int) > IntKind.wrap IntKind.i64 (6000 - (↑(flt l i) : Int)))))] ++ UU 10, []⟩ (by kernel_rfl) (tt 4) ?_
      rw [IntWalk.i64_in (6000 - (↑(flt l i) : Int)) (by omega)]
      refine KL ([13] ++ NN 16 7) ⟨[.sl (bss l) (List.length l) .any, U6, (B6 false), (I6 (↑(flt l i) : Int)), (I6 (↑i : Int))] ++ UU 18 ++ [(B6 (decide ((↑(List.length (List.getD l i [])) : Int) > 6000 - (↑(flt l i) : Int))))] ++ UU 10, []⟩ ?_
      refine CN (decide ((↑(List.length (List.getD l i [])) : Int) > 6000 - (↑(flt l i) : Int))) (fun h3 => ?_) (fun h3 => ?_)
      · have h3' := of_decide_eq_true h3
        refine SQ (RT 1 ?_)
        refine AWP.ret ?_
        refine FI (B6 false) ?_
        refine Shrink.all ?_ rfl
        (exact dec_no (fun h => by have := item_le l i (by omega); have := h.2; omega); done)
      · have h3' := of_decide_eq_false h3
        refine AWP.skip (AWP.reg ?_)
        refine DerQ.pre 5 (True ∧ True ∧ True ∧ (((0 ≤ (↑i : Int)) ∧ ((↑i : Int) < (↑(List.length l) : Int))) ∧ (Int.toNat (↑i : Int) * 1 + 1 ≤ List.length (bss l))) ∧ 0 < 1 ∧ True) ⟨[.sl (bss l) (List.length l) .any, U6, (B6 false), (I6 (↑(flt l i) : Int)), (I6 (↑i : Int))] ++ UU 18 ++ [(B6 (decide ((↑(List.length (List.getD l i [])) : Int) > 6000 - (↑(flt l i) : Int)))), (I6 (↑(flt l i) : Int)), .sl (bss l) (List.length l) .any, (I6 (↑i : Int)), .dptr [List.getD (bss l) (Int.toNat (↑i : Int) * 1 + 0) AVal.undef], List.getD [List.getD (bss l) (Int.toNat (↑i : Int) * 1 + 0) AVal.undef] 0 AVal.undef] ++ UU 5, []⟩ (by kernel_rfl) ⟨trivial, trivial, trivial, ⟨⟨(by omega), (by omega)⟩, (by (simp [spliceA_length] <;> omega))⟩, (by omega), trivial⟩ ?_
        rw [Int.toNat_natCast (i)]
        rw [Nat.mul_one (i)]
        rw [Nat.add_zero (i)]
        rw [Go.Chu.bss_getD (l) (i) (by omega)]
        refine DerQ.run (TT 3) ⟨[.sl (bss l) (List.length l) .any, U6, (B6 false), (I6 (IntKind.wrap IntKind.i64 ((↑(flt l i) : Int) + (↑(List.length (List.getD l i [])) : Int)))), (I6 (↑i : Int))] ++ UU 18 ++ [(B6 (decide ((↑(List.length (List.getD l i [])) : Int) > 6000 - (↑(flt l i) : Int)))), (I6 (↑(flt l i) : Int)), .sl (bss l) (List.length l) .any, (I6 (↑i : Int)), .dptr [.sl (u8s (List.getD l i [])) (List.length (List.getD l i [])) .any], .sl (u8s (List.getD l i [])) (List.length (List.getD l i [])) .any, (I6 (↑(List.length (List.getD l i [])) : Int)), (I6 (IntKind.wrap IntKind.i64 ((↑(flt l i) : Int) + (↑(List.length (List.getD l i [])) : Int)))), U6, U6, .undef], []⟩ (by kernel_rfl) (tt 3) ?_
        rw [IntWalk.i64_in ((↑(flt l i) : Int) + (↑(List.length (List.getD l i [])) : Int)) (by omega)]
        rw [Go.Chu.flt_step (l) (i) (by omega)]
        refine KL (NN 23 8) ⟨[.sl (bss l) (List.length l) .any, U6, (B6 false), (I6 (↑(flt l (i + 1)) : Int)), (I6 (↑i : Int))] ++ UU 29, []⟩ ?_
        refine AWP.reg ?_
        refine DerQ.run (TT 3) ⟨[.sl (bss l) (List.length l) .any, U6, (B6 false), (I6 (↑(flt l (i + 1)) : Int)), (I6 (IntKind.wrap IntKind.i64 ((↑i : Int) + 1)))] ++ UU 9 ++ [(I6 (↑i : Int)), (I6 (IntKind.wrap IntKind.i64 ((↑i : Int) + 1)))] ++ UU 18, []⟩ (by kernel_rfl) (tt 3) ?_
        rw [IntWalk.i64_in ((↑i : Int) + 1) (by omega)]
        ((have e5 := flt_stepN l i (by omega)); exact ⟨_, by omega, i + 1, rfl, by omega, by omega, by kernel_rfl⟩; done)
    · have h2' := of_decide_eq_false h2
      refine AWP.exit ?_
      refine SQ (RT 4 ?_)
      refine AWP.ret ?_
      refine FI (B6 (decide ((↑(List.length l) : Int) ≤ 40))) ?_
      refine Shrink.all ?_ rfl
      exact congrArg (fun z => AVal.sc (Value.bool z)) (decide_eq_decide.2 ⟨fun h1 => ⟨by omega, by rw [← flt_all l i (by omega)]; omega⟩, fun h1 => by have := h1.1; omega⟩)
theorem r_lists (a b : List (List Int)) (hn : a.length ≤ 1000000) (ha : ∀ x ∈ a, Bts x) (hb : ∀ x ∈ b, Bts x) : EvD Try.prog 16 [.sl (bss a) a.length .any, .sl (bss b) b.length .any] (.sc (.bool (decide (a = b)))) := by
  refine EvD.body Try.func16 rfl rfl rfl ?_
  refine AWP.seq ?_
  refine TO ⟨[.sl (bss a) (List.length a) .any, .sl (bss b) (List.length b) .any] ++ UU 26, []⟩ ?_
  refine AWP.reg (RT 1 ?_)
  refine AWP.seq (AWP.seq ?_)
  refine TO ⟨[.sl (bss a) (List.length a) .any, .sl (bss b) (List.length b) .any, U6, U6, (B6 false)] ++ UU 23, []⟩ ?_
  refine AWP.reg (RT 5 ?_)
  refine KL [6, 7, 8, 9] ⟨[.sl (bss a) (List.length a) .any, .sl (bss b) (List.length b) .any, U6, U6, (B6 false)] ++ UU 5 ++ [(B6 ((↑(List.length a) : Int) != (↑(List.length b) : Int)))] ++ UU 17, []⟩ ?_
  refine CN ((↑(List.length a) : Int) != (↑(List.length b) : Int)) (fun h1 => ?_) (fun h1 => ?_)
  · have h1' := bne_iff_ne.1 h1
    refine SQ (RT 1 ?_)
    refine AWP.ret ?_
    refine FI (B6 false) ?_
    refine Shrink.all ?_ rfl
    (exact dec_no (fun hc => by subst hc; simp at *); done)
  · have h1' := bne_eq_false_iff_eq.1 h1
    refine AWP.skip (AWP.seq (SQ (RT 1 ?_)))
    refine AWP.block (KL [10] ⟨[.sl (bss a) (List.length a) .any, .sl (bss b) (List.length b) .any, U6, U6, (B6 false), (I6 0)] ++ UU 22, []⟩ ?_)
    refine AWP.loopM [true, true, false, false, true, true, false, false, false, false, false, false, false, false, false, false, false, false, false, false, false, false, false, false, false, false, false, false] (fun kk st => ∃ (i : Nat), kk = a.length - i ∧ i ≤ a.length ∧ (∀ j, j < i → a.getD j [] = b.getD j []) ∧ st = ⟨[.sl (bss a) (List.length a) .any, .sl (bss b) (List.length b) .any, U6, U6, (B6 false), (I6 (i : Int)), U6, U6, U6, U6, U6, U6, U6, U6, U6, U6, U6, U6, U6, U6, U6, U6, U6, U6, U6, U6, U6, .undef], []⟩) _ ⟨0, rfl, by omega, fun j hj => absurd hj (by omega), by kernel_rfl⟩ ?_
    rintro kk s ⟨i, rfl, hi, hd, rfl⟩
    have ga := BB.get ha i
    have gb := BB.get hb i
    refine AWP.seq (SQ (RT 4 ?_))
    refine KL [11, 12, 13] ⟨[.sl (bss a) (List.length a) .any, .sl (bss b) (List.length b) .any, U6, U6, (B6 false), (I6 (↑i : Int))] ++ UU 8 ++ [(B6 (decide ((↑i : Int) < (↑(List.length a) : Int))))] ++ UU 13, []⟩ ?_
    refine CN (decide ((↑i : Int) < (↑(List.length a) : Int))) (fun h2 => ?_) (fun h2 => ?_)
    · have h2' := of_decide_eq_true h2
      refine AWP.skip (AWP.seq (AWP.block (AWP.seq ?_)))
      refine AWP.drawX mixed (fun _ => false) (by kernel_rfl) ?_
      refine DerX.pre 4 ((True) ∧ ((True) ∧ ((((0 ≤ (↑i : Int)) ∧ ((↑i : Int) < (↑(List.length a) : Int))) ∧ (Int.toNat (↑i : Int) * 1 + 1 ≤ List.length (bss a))) ∧ (((0 : Nat) < (1 : Nat)) ∧ (True))))) [.sl (bss a) (List.length a) .any, (I6 (↑i : Int)), .dptr [List.getD (bss a) (Int.toNat (↑i : Int) * 1 + 0) AVal.undef], List.getD [List.getD (bss a) (Int.toNat (↑i : Int) * 1 + 0) AVal.undef] 0 AVal.undef] ⟨[.sl (bss a) (List.length a) .any, .sl (bss b) (List.length b) .any, U6, U6, (B6 false), (I6 (↑i : Int))] ++ UU 8 ++ [(B6 (decide ((↑i : Int) < (↑(List.length a) : Int)))), U6, U6, .sl (bss a) (List.length a) .any, (I6 (↑i : Int)), .dptr [List.getD (bss a) (Int.toNat (↑i : Int) * 1 + 0) AVal.undef], List.getD (bss a) (Int.toNat (↑i : Int) * 1 + 0) AVal.undef] ++ UU 7, []⟩ (by intro ext; kernel_rfl) (by kernel_rfl) ⟨trivial, ⟨trivial, ⟨⟨⟨(by omega), (by omega)⟩, (by (simp [spliceA_length] <;> omega))⟩, ⟨(by omega), trivial⟩⟩⟩⟩ ?_
      rw [Int.toNat_natCast (i)]
      rw [Nat.mul_one (i)]
      rw [Nat.add_zero (i)]
      rw [Go.Chu.bss_getD (a) (i) (by omega)]
      refine DerX.pre 5 (((List.length (List.getD a i []) = List.length (u8s (List.getD a i []))) ∧ (∀ (i_1 : Nat), i_1 < List.length (u8s (List.getD a i [])) → isByteA (List.getD (u8s (List.getD a i [])) i_1 AVal.undef) = true)) ∧ ((True) ∧ ((True) ∧ ((((0 ≤ (↑i : Int)) ∧ ((↑i : Int) < (↑(List.length b) : Int))) ∧ (Int.toNat (↑i : Int) * 1 + 1 ≤ List.length (bss b))) ∧ (((0 : Nat) < (1 : Nat)) ∧ (True)))))) [(S6 (strOf (u8s (List.getD a i [])))), .sl (bss b) (List.length b) .any, (I6 (↑i : Int)), .dptr [List.getD (bss b) (Int.toNat (↑i : Int) * 1 + 0) AVal.undef], List.getD [List.getD (bss b) (Int.toNat (↑i : Int) * 1 + 0) AVal.undef] 0 AVal.undef] ⟨[.sl (bss a) (List.length a) .any, .sl (bss b) (List.length b) .any, U6, U6, (B6 false), (I6 (↑i : Int))] ++ UU 8 ++ [(B6 (decide ((↑i : Int) < (↑(List.length a) : Int)))), U6, U6, .sl (bss a) (List.length a) .any, (I6 (↑i : Int)), .dptr [.sl (u8s (List.getD a i [])) (List.length (List.getD a i [])) .any], .sl (u8s (List.getD a i [])) (List.length (List.getD a i [])) .any, (S6 (strOf (u8s (List.getD a i [])))), .sl (bss b) (List.length b) .any, (I6 (↑i : Int)), .dptr [List.getD (bss b) (Int.toNat (↑i : Int) * 1 + 0) AVal.undef], List.getD (bss b) (Int.toNat (↑i : Int) * 1 + 0) U6, U6, .undef], []⟩ (by intro ext; kernel_rfl) (by kernel_rfl) ⟨⟨(by simp), (by exact u8s_isByte _)⟩, ⟨trivial, ⟨trivial, ⟨⟨⟨(by omega), (by omega)⟩, (by (simp [spliceA_length] <;> omega))⟩, ⟨(by omega), trivial⟩⟩⟩⟩⟩ ?_
      rw [Int.toNat_natCast (i)]
      rw [Nat.mul_one (i)]
      rw [Nat.add_zero (i)]
      rw [Go.Chu.bss_getD (b) (i) (by omega)]
      refine DerX.preI 2 (((List.length (List.getD b i []) = List.length (u8s (List.getD b i []))) ∧ (∀ (i_1 : Nat), i_1 < List.length (u8s (List.getD b i [])) → isByteA (List.getD (u8s (List.getD b i [])) i_1 AVal.undef) = true)) ∧ ((True) ∧ (True))) (by intro ext; kernel_rfl) ⟨⟨(by simp), (by exact u8s_isByte _)⟩, ⟨trivial, trivial⟩⟩ ?_
      refine DerX.nil ?_
      refine KL ([14] ++ NN 17 10) ⟨[.sl (bss a) (List.length a) .any, .sl (bss b) (List.length b) .any, U6, U6, (B6 false), (I6 (↑i : Int))] ++ UU 21 ++ [(B6 (!ByteArray.toList (strOf (u8s (List.getD a i []))) == ByteArray.toList (strOf (u8s (List.getD b i [])))))], []⟩ ?_
      refine CN (!ByteArray.toList (strOf (u8s (List.getD a i []))) == ByteArray.toList (strOf (u8s (List.getD b i [])))) (fun h3 => ?_) (fun h3 => ?_)
      · have h3' := h3
        simp only [Bool.and_eq_true, Bool.and_eq_false_iff, Bool.or_eq_true, Bool.or_eq_false_iff, Bool.not_eq_true', Bool.not_eq_false', beq_iff_eq, beq_eq_false_iff_ne, decide_eq_true_eq, decide_eq_false_iff_not, ne_eq] at h3'
        refine SQ (RT 1 ?_)
        refine AWP.ret ?_
        refine FI (B6 false) ?_
        refine Shrink.all ?_ rfl
        (exact dec_no (fun hc => by subst hc; simp at *); done)
      · have h3' := h3
        simp only [Bool.and_eq_true, Bool.and_eq_false_iff, Bool.or_eq_true, Bool.or_eq_false_iff, Bool.not_eq_true', Bool.not_eq_false', beq_iff_eq, beq_eq_false_iff_ne, decide_eq_true_eq, decide_eq_false_iff_not, ne_eq] at h3'
        refine AWP.skip (AWP.reg ?_)
        refine DerQ.run (TT 3) ⟨[.sl (bss a) (List.length a) .any, .sl (bss b) (List.length b) .any, U6, U6, (B6 false), (I6 (IntKind.wrap IntKind.i64 ((↑i : Int) + 1)))] ++ UU 9 ++ [(I6 (↑i : Int)), (I6 (IntKind.wrap IntKind.i64 ((↑i : Int) + 1)))] ++ UU 10 ++ [(B6 (!ByteArray.toList (strOf (u8s (List.getD a i []))) == ByteArray.toList (strOf (u8s (List.getD b i [])))))], []⟩ (by kernel_rfl) (tt 3) ?_
        rw [IntWalk.i64_in ((↑i : Int) + 1) (by omega)]
        (exact ⟨_, by omega, i + 1, rfl, by omega, succ_all hd (by have h4 := h3; rw [Go.Abs.strOf_beq _ _ ga gb] at h4; simpa using h4), by kernel_rfl⟩; done)
    · have h2' := of_decide_eq_false h2
      refine AWP.exit ?_
      refine AWP.seq (KL [0, 1, 5, 14] ⟨[U6, U6, U6, U6, (B6 false)] ++ UU 23, []⟩ ?_)
      refine AWP.reg (RT 1 ?_)
      refine AWP.ret ?_
      refine FI (B6 true) ?_
      refine Shrink.all ?_ rfl
      (exact dec_yes (lists_eq a b (by omega) (fun j hj => hd j (by omega))); done)
end Go.Rec
