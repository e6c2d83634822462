/- Walks and laws. -/
import Derived.Test.YtmcjdeiicbgmhaaCh4
import Derived.Test.YtmcjdeiicbgmhaaLibB
set_option maxRecDepth 100000
set_option maxHeartbeats 0
set_option linter.unusedSimpArgs false
set_option linter.unusedVariables false
namespace Go.Chu
open Go Go.Abs Go.Proofs
theorem chunkSizes (b : List Int) (hb : Bts b) : EvD Try.prog 8 [.sl (u8s b) b.length .any] (.sc (.bool true)) := by
  by_cases hg : b.length ≤ 6000
  · have s1 := split b (by omega)
    have hnp := npn_spec b.length
    have hq : np b = npn b.length := rfl
    refine EvD.body Try.func8 rfl rfl rfl ?_
    refine AWP.seq ?_
    refine TO ⟨[.sl (u8s b) (List.length b) .any] ++ UU 50, []⟩ ?_
    refine AWP.reg (RT 1 ?_)
    refine AWP.seq (AWP.seq ?_)
    refine TO ⟨[.sl (u8s b) (List.length b) .any, U6, (B6 false)] ++ UU 48, []⟩ ?_
    refine AWP.reg (RT 3 ?_)
    refine KL [6, 7] ⟨[.sl (u8s b) (List.length b) .any, U6, (B6 false)] ++ UU 5 ++ [(B6 (decide ((↑(List.length b) : Int) > 6000)))] ++ UU 42, []⟩ ?_
    refine CN (decide ((↑(List.length b) : Int) > 6000)) (fun h1 => ?_) (fun h1 => ?_)
    · have h1' := of_decide_eq_true h1
      exfalso; omega
    · have h1' := of_decide_eq_false h1
      refine AWP.skip (SQ (PT 1 1 ?_))
      refine CD (s1) ?_
      refine RT 1 ?_
      refine AWP.seq (AWP.seq (KL [8, 10, 11] ⟨[.sl (u8s b) (List.length b) .any, U6, (B6 false), .sl (bss (pieces b)) (np b) .any] ++ UU 47, []⟩ ?_))
      refine AWP.reg (RT 1 ?_)
      refine AWP.block ?_
      refine TO ⟨[.sl (u8s b) (List.length b) .any, U6, (B6 false), .sl (bss (pieces b)) (np b) .any, (I6 0)] ++ UU 46, []⟩ ?_
      refine AWP.loopM [true, false, true, true, true, false, false, false, false, false, false, false, false, false, false, false, false, false, false, false, false, false, false, false, false, false, false, false, false, false, false, false, false, false, false, false, false, false, false, false, false, false, false, false, false, false, false, false, false, false, false] (fun kk st => ∃ (i : Nat), kk = npn b.length - i ∧ i ≤ npn b.length ∧ st = ⟨[.sl (u8s b) (List.length b) .any, U6, (B6 false), .sl (bss (pieces b)) (np b) .any, (I6 (i : Int)), U6, U6, U6, U6, U6, U6, U6, U6, U6, U6, U6, U6, U6, U6, U6, U6, U6, U6, U6, U6, U6, U6, U6, U6, U6, U6, U6, U6, U6, U6, U6, U6, U6, U6, U6, U6, U6, U6, U6, U6, U6, U6, U6, U6, U6, .undef], []⟩) _ ⟨0, rfl, by omega, by kernel_rfl⟩ ?_
      rintro kk s ⟨i, rfl, hi, rfl⟩
      have hp := pieces_len b i
      refine AWP.seq (SQ (RT 4 ?_))
      refine KL [12, 13, 14] ⟨[.sl (u8s b) (List.length b) .any, U6, (B6 false), .sl (bss (pieces b)) (np b) .any, (I6 (↑i : Int))] ++ UU 10 ++ [(B6 (decide ((↑i : Int) < (↑(np b) : Int))))] ++ UU 35, []⟩ ?_
      refine CN (decide ((↑i : Int) < (↑(np b) : Int))) (fun h2 => ?_) (fun h2 => ?_)
      · have h2' := of_decide_eq_true h2
        refine AWP.skip (AWP.seq (AWP.block (SQ ?_)))
        refine DerQ.pre 4 (True ∧ True ∧ (((0 ≤ (↑i : Int)) ∧ ((↑i : Int) < (↑(np b) : Int))) ∧ (Int.toNat (↑i : Int) * 1 + 1 ≤ List.length (bss (pieces b)))) ∧ 0 < 1 ∧ True) ⟨[.sl (u8s b) (List.length b) .any, U6, (B6 false), .sl (bss (pieces b)) (np b) .any, (I6 (↑i : Int))] ++ UU 10 ++ [(B6 (decide ((↑i : Int) < (↑(np b) : Int)))), U6, U6, .sl (bss (pieces b)) (np b) .any, (I6 (↑i : Int)), .dptr [List.getD (bss (pieces b)) (Int.toNat (↑i : Int) * 1 + 0) AVal.undef], List.getD [List.getD (bss (pieces b)) (Int.toNat (↑i : Int) * 1 + 0) AVal.undef] 0 AVal.undef] ++ UU 29, []⟩ (by kernel_rfl) ⟨trivial, trivial, ⟨⟨(by omega), (by omega)⟩, (by (rw [bss_length, pieces_length]; omega))⟩, (by omega), trivial⟩ ?_
        rw [Int.toNat_natCast (i)]
        rw [Nat.mul_one (i)]
        rw [Nat.add_zero (i)]
        rw [Go.Chu.bss_getD (pieces b) (i) (by (rw [pieces_length]; omega))]
        refine RT 2 ?_
        refine AWP.seq (KL ([15] ++ NN 18 5) ⟨[.sl (u8s b) (List.length b) .any, U6, (B6 false), .sl (bss (pieces b)) (np b) .any, (I6 (↑i : Int)), (I6 (↑(List.length (List.getD (pieces b) i [])) : Int))] ++ UU 45, []⟩ ?_)
        refine AWP.reg ?_
        refine DerQ.pre 6 (TT 6) ⟨[.sl (u8s b) (List.length b) .any, U6, (B6 false), .sl (bss (pieces b)) (np b) .any, (I6 (↑i : Int)), (I6 (↑(List.length (List.getD (pieces b) i [])) : Int))] ++ UU 17 ++ [(I6 (↑i : Int)), .sl (bss (pieces b)) (np b) .any, (I6 (↑(np b) : Int)), (I6 (IntKind.wrap IntKind.i64 ((↑(np b) : Int) - 1))), (B6 (decide ((↑i : Int) < IntKind.wrap IntKind.i64 ((↑(np b) : Int) - 1)))), (B6 (decide ((↑i : Int) < IntKind.wrap IntKind.i64 ((↑(np b) : Int) - 1))))] ++ UU 22, []⟩ (by kernel_rfl) (tt 6) ?_
        rw [IntWalk.i64_in ((↑(np b) : Int) - 1) (by omega)]
        cases h3 : (decide ((↑i : Int) < (↑(np b) : Int) - 1))
        · have h3' := of_decide_eq_false h3
          refine PT 8 6 ?_
          refine DerQ.to ⟨[.sl (u8s b) (List.length b) .any, U6, (B6 false), .sl (bss (pieces b)) (np b) .any, (I6 (↑i : Int)), (I6 (↑(List.length (List.getD (pieces b) i [])) : Int))] ++ UU 17 ++ [(I6 (↑i : Int)), .sl (bss (pieces b)) (np b) .any, (I6 (↑(np b) : Int)), (I6 ((↑(np b) : Int) - 1)), (B6 false), (B6 false), .tup [], .tup [], (B6 false), (B6 false), (I6 (↑(List.length (List.getD (pieces b) i [])) : Int)), (B6 (decide ((↑(List.length (List.getD (pieces b) i [])) : Int) > 512))), (B6 (decide ((↑(List.length (List.getD (pieces b) i [])) : Int) > 512))), (B6 (decide ((↑(List.length (List.getD (pieces b) i [])) : Int) > 512)))] ++ UU 14, []⟩ (by kernel_rfl) ?_
          cases h4 : (decide ((↑(List.length (List.getD (pieces b) i [])) : Int) > 512))
          · have h4' := of_decide_eq_false h4
            refine PT 3 3 ?_
            refine DerQ.to ⟨[.sl (u8s b) (List.length b) .any, U6, (B6 false), .sl (bss (pieces b)) (np b) .any, (I6 (↑i : Int)), (I6 (↑(List.length (List.getD (pieces b) i [])) : Int))] ++ UU 17 ++ [(I6 (↑i : Int)), .sl (bss (pieces b)) (np b) .any, (I6 (↑(np b) : Int)), (I6 ((↑(np b) : Int) - 1)), (B6 false), (B6 false), .tup [], .tup [], (B6 false), (B6 false), (I6 (↑(List.length (List.getD (pieces b) i [])) : Int)), (B6 false), (B6 false), (B6 false), (I6 (↑(List.length (List.getD (pieces b) i [])) : Int)), (B6 ((↑(List.length (List.getD (pieces b) i [])) : Int) == 0)), (B6 ((↑(List.length (List.getD (pieces b) i [])) : Int) == 0))] ++ UU 11, []⟩ (by kernel_rfl) ?_
            cases h5 : ((↑(List.length (List.getD (pieces b) i [])) : Int) == 0)
            · have h5' := ne_of_beq_false h5
              refine RT 2 ?_
              refine KL ([5] ++ NN 23 21) ⟨[.sl (u8s b) (List.length b) .any, U6, (B6 false), .sl (bss (pieces b)) (np b) .any, (I6 (↑i : Int))] ++ UU 39 ++ [(B6 false)] ++ UU 6, []⟩ ?_
              refine CN false (fun h => nomatch h) (fun _ => ?_)
              refine AWP.skip (AWP.reg ?_)
              refine DerQ.run (TT 3) ⟨[.sl (u8s b) (List.length b) .any, U6, (B6 false), .sl (bss (pieces b)) (np b) .any, (I6 (IntKind.wrap IntKind.i64 ((↑i : Int) + 1)))] ++ UU 11 ++ [(I6 (↑i : Int)), (I6 (IntKind.wrap IntKind.i64 ((↑i : Int) + 1)))] ++ UU 26 ++ [(B6 false)] ++ UU 6, []⟩ (by kernel_rfl) (tt 3) ?_
              rw [IntWalk.i64_in ((↑i : Int) + 1) (by omega)]
              (exact ⟨_, by omega, i + 1, rfl, by omega, by kernel_rfl⟩; done)
            · have h5' := eq_of_beq h5
              refine RT 5 ?_
              refine KL ([5] ++ NN 23 21) ⟨[.sl (u8s b) (List.length b) .any, U6, (B6 false), .sl (bss (pieces b)) (np b) .any, (I6 (↑i : Int))] ++ UU 39 ++ [(B6 (decide ((↑(List.length b) : Int) > 0)))] ++ UU 6, []⟩ ?_
              refine CN (decide ((↑(List.length b) : Int) > 0)) (fun h6 => ?_) (fun h6 => ?_)
              · have h6' := of_decide_eq_true h6
                exfalso; omega
              · have h6' := of_decide_eq_false h6
                refine AWP.skip (AWP.reg ?_)
                refine DerQ.run (TT 3) ⟨[.sl (u8s b) (List.length b) .any, U6, (B6 false), .sl (bss (pieces b)) (np b) .any, (I6 (IntKind.wrap IntKind.i64 ((↑i : Int) + 1)))] ++ UU 11 ++ [(I6 (↑i : Int)), (I6 (IntKind.wrap IntKind.i64 ((↑i : Int) + 1)))] ++ UU 26 ++ [(B6 (decide ((↑(List.length b) : Int) > 0)))] ++ UU 6, []⟩ (by kernel_rfl) (tt 3) ?_
                rw [IntWalk.i64_in ((↑i : Int) + 1) (by omega)]
                (exact ⟨_, by omega, i + 1, rfl, by omega, by kernel_rfl⟩; done)
          · have h4' := of_decide_eq_true h4
            exfalso; omega
        · have h3' := of_decide_eq_true h3
          refine PT 4 4 ?_
          refine DerQ.to ⟨[.sl (u8s b) (List.length b) .any, U6, (B6 false), .sl (bss (pieces b)) (np b) .any, (I6 (↑i : Int)), (I6 (↑(List.length (List.getD (pieces b) i [])) : Int))] ++ UU 17 ++ [(I6 (↑i : Int)), .sl (bss (pieces b)) (np b) .any, (I6 (↑(np b) : Int)), (I6 ((↑(np b) : Int) - 1)), (B6 true), (B6 true), (I6 (↑(List.length (List.getD (pieces b) i [])) : Int)), (B6 ((↑(List.length (List.getD (pieces b) i [])) : Int) != 512)), (B6 ((↑(List.length (List.getD (pieces b) i [])) : Int) != 512)), (B6 ((↑(List.length (List.getD (pieces b) i [])) : Int) != 512))] ++ UU 18, []⟩ (by kernel_rfl) ?_
          cases h4 : ((↑(List.length (List.getD (pieces b) i [])) : Int) != 512)
          · have h4' := bne_eq_false_iff_eq.1 h4
            refine PT 4 4 ?_
            refine DerQ.to ⟨[.sl (u8s b) (List.length b) .any, U6, (B6 false), .sl (bss (pieces b)) (np b) .any, (I6 (↑i : Int)), (I6 (↑(List.length (List.getD (pieces b) i [])) : Int))] ++ UU 17 ++ [(I6 (↑i : Int)), .sl (bss (pieces b)) (np b) .any, (I6 (↑(np b) : Int)), (I6 ((↑(np b) : Int) - 1)), (B6 true), (B6 true), (I6 (↑(List.length (List.getD (pieces b) i [])) : Int)), (B6 false), (B6 false), (B6 false), (I6 (↑(List.length (List.getD (pieces b) i [])) : Int)), (B6 (decide ((↑(List.length (List.getD (pieces b) i [])) : Int) > 512))), (B6 (decide ((↑(List.length (List.getD (pieces b) i [])) : Int) > 512))), (B6 (decide ((↑(List.length (List.getD (pieces b) i [])) : Int) > 512)))] ++ UU 14, []⟩ (by kernel_rfl) ?_
            cases h5 : (decide ((↑(List.length (List.getD (pieces b) i [])) : Int) > 512))
            · have h5' := of_decide_eq_false h5
              refine PT 3 3 ?_
              refine DerQ.to ⟨[.sl (u8s b) (List.length b) .any, U6, (B6 false), .sl (bss (pieces b)) (np b) .any, (I6 (↑i : Int)), (I6 (↑(List.length (List.getD (pieces b) i [])) : Int))] ++ UU 17 ++ [(I6 (↑i : Int)), .sl (bss (pieces b)) (np b) .any, (I6 (↑(np b) : Int)), (I6 ((↑(np b) : Int) - 1)), (B6 true), (B6 true), (I6 (↑(List.length (List.getD (pieces b) i [])) : Int)), (B6 false), (B6 false), (B6 false), (I6 (↑(List.length (List.getD (pieces b) i [])) : Int)), (B6 false), (B6 false), (B6 false), (I6 (↑(List.length (List.getD (pieces b) i [])) : Int)), (B6 ((↑(List.length (List.getD (pieces b) i [])) : Int) == 0)), (B6 ((↑(List.length (List.getD (pieces b) i [])) : Int) == 0))] ++ UU 11, []⟩ (by kernel_rfl) ?_
              cases h6 : ((↑(List.length (List.getD (pieces b) i [])) : Int) == 0)
              · have h6' := ne_of_beq_false h6
                refine RT 2 ?_
                refine KL ([5] ++ NN 23 21) ⟨[.sl (u8s b) (List.length b) .any, U6, (B6 false), .sl (bss (pieces b)) (np b) .any, (I6 (↑i : Int))] ++ UU 39 ++ [(B6 false)] ++ UU 6, []⟩ ?_
                refine CN false (fun h => nomatch h) (fun _ => ?_)
                refine AWP.skip (AWP.reg ?_)
                refine DerQ.run (TT 3) ⟨[.sl (u8s b) (List.length b) .any, U6, (B6 false), .sl (bss (pieces b)) (np b) .any, (I6 (IntKind.wrap IntKind.i64 ((↑i : Int) + 1)))] ++ UU 11 ++ [(I6 (↑i : Int)), (I6 (IntKind.wrap IntKind.i64 ((↑i : Int) + 1)))] ++ UU 26 ++ [(B6 false)] ++ UU 6, []⟩ (by kernel_rfl) (tt 3) ?_
                rw [IntWalk.i64_in ((↑i : Int) + 1) (by omega)]
                (exact ⟨_, by omega, i + 1, rfl, by omega, by kernel_rfl⟩; done)
              · have h6' := eq_of_beq h6
                exfalso; omega
            · have h5' := of_decide_eq_true h5
              exfalso; omega
          · have h4' := bne_iff_ne.1 h4
            exfalso; omega
      · have h2' := of_decide_eq_false h2
        refine AWP.exit ?_
        refine SQ (PT 4 4 ?_)
        refine DerQ.to ⟨[.sl (u8s b) (List.length b) .any, U6, (B6 false), .sl (bss (pieces b)) (np b) .any, (I6 (↑i : Int))] ++ UU 10 ++ [(B6 (decide ((↑i : Int) < (↑(np b) : Int))))] ++ UU 29 ++ [.sl (bss (pieces b)) (np b) .any, (I6 (↑(np b) : Int)), (B6 (decide ((↑(np b) : Int) > 0))), (B6 (decide ((↑(np b) : Int) > 0))), U6, .undef], []⟩ (by kernel_rfl) ?_
        cases h3 : (decide ((↑(np b) : Int) > 0))
        · have h3' := of_decide_eq_false h3
          exfalso; omega
        · have h3' := of_decide_eq_true h3
          refine CD (heads) ?_
          refine RT 2 ?_
          refine AWP.ret FA
  · refine EvD.body Try.func8 rfl rfl rfl ?_
    refine AWP.seq ?_
    refine TO ⟨[.sl (u8s b) (List.length b) .any] ++ UU 50, []⟩ ?_
    refine AWP.reg (RT 1 ?_)
    refine AWP.seq (AWP.seq ?_)
    refine TO ⟨[.sl (u8s b) (List.length b) .any, U6, (B6 false)] ++ UU 48, []⟩ ?_
    refine AWP.reg (RT 3 ?_)
    refine KL [6, 7] ⟨[.sl (u8s b) (List.length b) .any, U6, (B6 false)] ++ UU 5 ++ [(B6 (decide ((↑(List.length b) : Int) > 6000)))] ++ UU 42, []⟩ ?_
    refine CN (decide ((↑(List.length b) : Int) > 6000)) (fun h1 => ?_) (fun h1 => ?_)
    · have h1' := of_decide_eq_true h1
      refine SQ (CD (heads) ?_)
      refine RT 1 ?_
      refine AWP.ret FA
    · have h1' := of_decide_eq_false h1
      exfalso; omega
end Go.Chu
