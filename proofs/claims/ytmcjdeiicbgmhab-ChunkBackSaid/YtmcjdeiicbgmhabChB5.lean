/- Walks and laws. -/
import Derived.Test.YtmcjdeiicbgmhabChB4
import Derived.Test.YtmcjdeiicbgmhabLibB
set_option maxRecDepth 100000
set_option maxHeartbeats 0
set_option linter.unusedSimpArgs false
set_option linter.unusedVariables false
namespace Go.Chu
open Go Go.Abs Go.Proofs
theorem dec_no {p : Prop} [Decidable p] (h : ¬ p) : AVal.sc (.bool false) = .sc (.bool (decide p)) := by rw [decide_eq_false h]
theorem r_same (f m o : Int) (l : List (List Int)) (hl : l.length ≤ 1000000) : EvD Try.prog 19 [.agg [.sc (.int .i64 f), .sc (.int .i64 m), .sc (.int .i64 o), .sl (bss l) l.length .any], .agg [.sc (.int .i64 f), .sc (.int .i64 m), .sc (.int .i64 o), .sl (bss l) l.length .any]] (.sc (.bool true)) := by
  refine EvD.body Try.func19 rfl rfl rfl ?_
  refine AWP.seq ?_
  refine TO ⟨[.agg [(I6 f), (I6 m), (I6 o), .sl (bss l) (List.length l) .any], .agg [(I6 f), (I6 m), (I6 o), .sl (bss l) (List.length l) .any]] ++ UU 52, []⟩ ?_
  refine AWP.reg (RT 3 ?_)
  refine AWP.seq (AWP.seq (KL [0, 1] ⟨[U6, U6, .ptr 0 0, .ptr 1 0, (B6 false)] ++ UU 49, [⟨[(I6 f), (I6 m), (I6 o), .sl (bss l) (List.length l) .any], 4, .fresh⟩, ⟨[(I6 f), (I6 m), (I6 o), .sl (bss l) (List.length l) .any], 4, .fresh⟩]⟩ ?_))
  refine AWP.reg (PI 6 (True ∧ 0 < 4 ∧ True ∧ 0 < 4 ∧ True ∧ True ∧ True) ⟨trivial, (by omega), trivial, (by omega), trivial, trivial, trivial⟩ ?_)
  refine DerQ.to ⟨[U6, U6, .ptr 0 0, .ptr 1 0, (B6 false), U6, .ptr 0 0, (I6 f), .ptr 1 0, (I6 f), (B6 (f != f)), (B6 (f != f))] ++ UU 42, [⟨[(I6 f), (I6 m), (I6 o), .sl (bss l) (List.length l) .any], 4, .fresh⟩, ⟨[(I6 f), (I6 m), (I6 o), .sl (bss l) (List.length l) .any], 4, .fresh⟩]⟩ (by kernel_rfl) ?_
  cases h1 : (f != f)
  · have h1' := bne_eq_false_iff_eq.1 h1
    refine PI 7 (True ∧ 1 < 4 ∧ True ∧ 1 < 4 ∧ True ∧ True ∧ True ∧ True) ⟨trivial, (by omega), trivial, (by omega), trivial, trivial, trivial, trivial⟩ ?_
    refine DerQ.to ⟨[U6, U6, .ptr 0 0, .ptr 1 0, (B6 false), U6, .ptr 0 0, (I6 f), .ptr 1 0, (I6 f), (B6 false), (B6 false), .ptr 0 1, (I6 m), .ptr 1 1, (I6 m), (B6 (m != m)), (B6 (m != m)), (B6 (m != m))] ++ UU 35, [⟨[(I6 f), (I6 m), (I6 o), .sl (bss l) (List.length l) .any], 4, .fresh⟩, ⟨[(I6 f), (I6 m), (I6 o), .sl (bss l) (List.length l) .any], 4, .fresh⟩]⟩ (by kernel_rfl) ?_
    cases h2 : (m != m)
    · have h2' := bne_eq_false_iff_eq.1 h2
      refine PI 7 (True ∧ 2 < 4 ∧ True ∧ 2 < 4 ∧ True ∧ True ∧ True ∧ True) ⟨trivial, (by omega), trivial, (by omega), trivial, trivial, trivial, trivial⟩ ?_
      refine DerQ.to ⟨[U6, U6, .ptr 0 0, .ptr 1 0, (B6 false), U6, .ptr 0 0, (I6 f), .ptr 1 0, (I6 f), (B6 false), (B6 false), .ptr 0 1, (I6 m), .ptr 1 1, (I6 m), (B6 false), (B6 false), (B6 false), .ptr 0 2, (I6 o), .ptr 1 2, (I6 o), (B6 (o != o)), (B6 (o != o)), (B6 (o != o))] ++ UU 28, [⟨[(I6 f), (I6 m), (I6 o), .sl (bss l) (List.length l) .any], 4, .fresh⟩, ⟨[(I6 f), (I6 m), (I6 o), .sl (bss l) (List.length l) .any], 4, .fresh⟩]⟩ (by kernel_rfl) ?_
      cases h3 : (o != o)
      · have h3' := bne_eq_false_iff_eq.1 h3
        refine RI (True ∧ 3 < 4 ∧ True ∧ True ∧ 3 < 4 ∧ True ∧ True ∧ True ∧ True) ⟨trivial, (by omega), trivial, trivial, (by omega), trivial, trivial, trivial, trivial⟩ ?_
        refine KL (NN 6 27) ⟨[U6, U6, .ptr 0 0, .ptr 1 0, (B6 false)] ++ UU 28 ++ [(B6 ((↑(List.length l) : Int) != (↑(List.length l) : Int)))] ++ UU 20, [⟨[(I6 f), (I6 m), (I6 o), .sl (bss l) (List.length l) .any], 4, .fresh⟩, ⟨[(I6 f), (I6 m), (I6 o), .sl (bss l) (List.length l) .any], 4, .fresh⟩]⟩ ?_
        refine CN ((↑(List.length l) : Int) != (↑(List.length l) : Int)) (fun h4 => ?_) (fun h4 => ?_)
        · have h4' := bne_iff_ne.1 h4
          exfalso; omega
        · have h4' := bne_eq_false_iff_eq.1 h4
          refine AWP.skip (AWP.seq (SQ (RT 1 ?_)))
          refine AWP.block (KL [33] ⟨[U6, U6, .ptr 0 0, .ptr 1 0, (B6 false), (I6 0)] ++ UU 48, [⟨[(I6 f), (I6 m), (I6 o), .sl (bss l) (List.length l) .any], 4, .fresh⟩, ⟨[(I6 f), (I6 m), (I6 o), .sl (bss l) (List.length l) .any], 4, .fresh⟩]⟩ ?_)
          refine AWP.loopM [false, false, true, true, true, true, false, false, false, false, false, false, false, false, false, false, false, false, false, false, false, false, false, false, false, false, false, false, false, false, false, false, false, false, false, false, false, false, false, false, false, false, false, false, false, false, false, false, false, false, false, false, false, false] (fun kk st => ∃ (i : Nat), kk = l.length - i ∧ i ≤ l.length ∧ st = ⟨[U6, U6, .ptr 0 0, .ptr 1 0, (B6 false), (I6 (i : Int)), U6, U6, U6, U6, U6, U6, U6, U6, U6, U6, U6, U6, U6, U6, U6, U6, U6, U6, U6, U6, U6, U6, U6, U6, U6, U6, U6, U6, U6, U6, U6, U6, U6, U6, U6, U6, U6, U6, U6, U6, U6, U6, U6, U6, U6, U6, U6, .undef], [⟨[(I6 f), (I6 m), (I6 o), .sl (bss l) (List.length l) .any], 4, .fresh⟩, ⟨[(I6 f), (I6 m), (I6 o), .sl (bss l) (List.length l) .any], 4, .fresh⟩]⟩) _ ⟨0, rfl, by omega, by kernel_rfl⟩ ?_
          rintro kk s ⟨i, rfl, hi, rfl⟩
          refine AWP.seq (SQ (RI (True ∧ True ∧ 3 < 4 ∧ True ∧ True ∧ True) ⟨trivial, trivial, (by omega), trivial, trivial, trivial⟩ ?_))
          refine KL [34, 35, 36, 37] ⟨[U6, U6, .ptr 0 0, .ptr 1 0, (B6 false), (I6 (↑i : Int))] ++ UU 32 ++ [(B6 (decide ((↑i : Int) < (↑(List.length l) : Int))))] ++ UU 15, [⟨[(I6 f), (I6 m), (I6 o), .sl (bss l) (List.length l) .any], 4, .fresh⟩, ⟨[(I6 f), (I6 m), (I6 o), .sl (bss l) (List.length l) .any], 4, .fresh⟩]⟩ ?_
          refine CN (decide ((↑i : Int) < (↑(List.length l) : Int))) (fun h5 => ?_) (fun h5 => ?_)
          · have h5' := of_decide_eq_true h5
            refine AWP.skip (AWP.seq (AWP.block (AWP.seq ?_)))
            refine AWP.drawX mixed (fun _ => false) (by kernel_rfl) ?_
            refine DerX.pre 5 ((True) ∧ (((3 : Nat) < (4 : Nat)) ∧ ((True) ∧ ((((0 ≤ (↑i : Int)) ∧ ((↑i : Int) < (↑(List.length l) : Int))) ∧ (Int.toNat (↑i : Int) * 1 + 1 ≤ List.length (bss l))) ∧ (((0 : Nat) < (1 : Nat)) ∧ (True)))))) [.ptr 0 3, .sl (bss l) (List.length l) .any, (I6 (↑i : Int)), .dptr [List.getD (bss l) (Int.toNat (↑i : Int) * 1 + 0) AVal.undef], List.getD [List.getD (bss l) (Int.toNat (↑i : Int) * 1 + 0) AVal.undef] 0 AVal.undef] ⟨[U6, U6, .ptr 0 0, .ptr 1 0, (B6 false), (I6 (↑i : Int))] ++ UU 32 ++ [(B6 (decide ((↑i : Int) < (↑(List.length l) : Int)))), U6, U6, .ptr 0 3, .sl (bss l) (List.length l) .any, (I6 (↑i : Int)), .dptr [List.getD (bss l) (Int.toNat (↑i : Int) * 1 + 0) AVal.undef], List.getD (bss l) (Int.toNat (↑i : Int) * 1 + 0) AVal.undef] ++ UU 8, [⟨[(I6 f), (I6 m), (I6 o), .sl (bss l) (List.length l) .any], 4, .fresh⟩, ⟨[(I6 f), (I6 m), (I6 o), .sl (bss l) (List.length l) .any], 4, .fresh⟩]⟩ (by intro ext; kernel_rfl) (by kernel_rfl) ⟨trivial, ⟨(by omega), ⟨trivial, ⟨⟨⟨(by omega), (by omega)⟩, (by (simp [spliceA_length] <;> omega))⟩, ⟨(by omega), trivial⟩⟩⟩⟩⟩ ?_
            rw [Int.toNat_natCast (i)]
            rw [Nat.mul_one (i)]
            rw [Nat.add_zero (i)]
            rw [Go.Chu.bss_getD (l) (i) (by omega)]
            refine DerX.pre 6 (((List.length (List.getD l i []) = List.length (u8s (List.getD l i []))) ∧ (∀ (i_1 : Nat), i_1 < List.length (u8s (List.getD l i [])) → isByteA (List.getD (u8s (List.getD l i [])) i_1 AVal.undef) = true)) ∧ ((True) ∧ (((3 : Nat) < (4 : Nat)) ∧ ((True) ∧ ((((0 ≤ (↑i : Int)) ∧ ((↑i : Int) < (↑(List.length l) : Int))) ∧ (Int.toNat (↑i : Int) * 1 + 1 ≤ List.length (bss l))) ∧ (((0 : Nat) < (1 : Nat)) ∧ (True))))))) [(S6 (strOf (u8s (List.getD l i [])))), .ptr 1 3, .sl (bss l) (List.length l) .any, (I6 (↑i : Int)), .dptr [List.getD (bss l) (Int.toNat (↑i : Int) * 1 + 0) AVal.undef], List.getD [List.getD (bss l) (Int.toNat (↑i : Int) * 1 + 0) AVal.undef] 0 AVal.undef] ⟨[U6, U6, .ptr 0 0, .ptr 1 0, (B6 false), (I6 (↑i : Int))] ++ UU 32 ++ [(B6 (decide ((↑i : Int) < (↑(List.length l) : Int)))), U6, U6, .ptr 0 3, .sl (bss l) (List.length l) .any, (I6 (↑i : Int)), .dptr [.sl (u8s (List.getD l i [])) (List.length (List.getD l i [])) .any], .sl (u8s (List.getD l i [])) (List.length (List.getD l i [])) .any, (S6 (strOf (u8s (List.getD l i [])))), .ptr 1 3, .sl (bss l) (List.length l) .any, (I6 (↑i : Int)), .dptr [List.getD (bss l) (Int.toNat (↑i : Int) * 1 + 0) AVal.undef], List.getD (bss l) (Int.toNat (↑i : Int) * 1 + 0) U6, U6, .undef], [⟨[(I6 f), (I6 m), (I6 o), .sl (bss l) (List.length l) .any], 4, .fresh⟩, ⟨[(I6 f), (I6 m), (I6 o), .sl (bss l) (List.length l) .any], 4, .fresh⟩]⟩ (by intro ext; kernel_rfl) (by kernel_rfl) ⟨⟨(by simp), (by exact u8s_isByte _)⟩, ⟨trivial, ⟨(by omega), ⟨trivial, ⟨⟨⟨(by omega), (by omega)⟩, (by (simp [spliceA_length] <;> omega))⟩, ⟨(by omega), trivial⟩⟩⟩⟩⟩⟩ ?_
            rw [Int.toNat_natCast (i)]
            rw [Nat.mul_one (i)]
            rw [Nat.add_zero (i)]
            rw [Go.Chu.bss_getD (l) (i) (by omega)]
            refine DerX.preI 2 (((List.length (List.getD l i []) = List.length (u8s (List.getD l i []))) ∧ (∀ (i_1 : Nat), i_1 < List.length (u8s (List.getD l i [])) → isByteA (List.getD (u8s (List.getD l i [])) i_1 AVal.undef) = true)) ∧ ((True) ∧ (True))) (by intro ext; kernel_rfl) ⟨⟨(by simp), (by exact u8s_isByte _)⟩, ⟨trivial, trivial⟩⟩ ?_
            refine DerX.nil ?_
            refine KL ([38] ++ NN 41 12) ⟨[U6, U6, .ptr 0 0, .ptr 1 0, (B6 false), (I6 (↑i : Int))] ++ UU 47 ++ [(B6 (!ByteArray.toList (strOf (u8s (List.getD l i []))) == ByteArray.toList (strOf (u8s (List.getD l i [])))))], [⟨[(I6 f), (I6 m), (I6 o), .sl (bss l) (List.length l) .any], 4, .fresh⟩, ⟨[(I6 f), (I6 m), (I6 o), .sl (bss l) (List.length l) .any], 4, .fresh⟩]⟩ ?_
            refine CN (!ByteArray.toList (strOf (u8s (List.getD l i []))) == ByteArray.toList (strOf (u8s (List.getD l i [])))) (fun h6 => ?_) (fun h6 => ?_)
            · have h6' := h6
              simp only [Bool.and_eq_true, Bool.and_eq_false_iff, Bool.or_eq_true, Bool.or_eq_false_iff, Bool.not_eq_true', Bool.not_eq_false', beq_iff_eq, beq_eq_false_iff_ne, decide_eq_true_eq, decide_eq_false_iff_not, ne_eq] at h6'
              (exfalso; simp_all; done)
            · have h6' := h6
              simp only [Bool.and_eq_true, Bool.and_eq_false_iff, Bool.or_eq_true, Bool.or_eq_false_iff, Bool.not_eq_true', Bool.not_eq_false', beq_iff_eq, beq_eq_false_iff_ne, decide_eq_true_eq, decide_eq_false_iff_not, ne_eq] at h6'
              refine AWP.skip (AWP.reg ?_)
              refine DerQ.run (TT 3) ⟨[U6, U6, .ptr 0 0, .ptr 1 0, (B6 false), (I6 (IntKind.wrap IntKind.i64 ((↑i : Int) + 1)))] ++ UU 33 ++ [(I6 (↑i : Int)), (I6 (IntKind.wrap IntKind.i64 ((↑i : Int) + 1)))] ++ UU 12 ++ [(B6 (!ByteArray.toList (strOf (u8s (List.getD l i []))) == ByteArray.toList (strOf (u8s (List.getD l i [])))))], [⟨[(I6 f), (I6 m), (I6 o), .sl (bss l) (List.length l) .any], 4, .fresh⟩, ⟨[(I6 f), (I6 m), (I6 o), .sl (bss l) (List.length l) .any], 4, .fresh⟩]⟩ (by kernel_rfl) (tt 3) ?_
              rw [IntWalk.i64_in ((↑i : Int) + 1) (by omega)]
              (exact ⟨_, by omega, i + 1, rfl, by omega, by kernel_rfl⟩; done)
          · have h5' := of_decide_eq_false h5
            refine AWP.exit ?_
            refine AWP.seq (KL [2, 3, 5, 38] ⟨[U6, U6, U6, U6, (B6 false)] ++ UU 49, [⟨[(I6 f), (I6 m), (I6 o), .sl (bss l) (List.length l) .any], 4, .fresh⟩, ⟨[(I6 f), (I6 m), (I6 o), .sl (bss l) (List.length l) .any], 4, .fresh⟩]⟩ ?_)
            refine AWP.reg (RT 1 ?_)
            refine AWP.ret FA
      · have h3' := bne_iff_ne.1 h3
        exfalso; omega
    · have h2' := bne_iff_ne.1 h2
      exfalso; omega
  · have h1' := bne_iff_ne.1 h1
    exfalso; omega
end Go.Chu
