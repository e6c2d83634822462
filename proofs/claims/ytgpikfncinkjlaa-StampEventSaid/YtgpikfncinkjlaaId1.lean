/- Walks and laws. -/
import Derived.Test.YtgpikfncinkjlaaId0
import Derived.Test.YtgpikfncinkjlaaLibB
set_option maxRecDepth 100000
set_option maxHeartbeats 0
set_option linter.unusedSimpArgs false
set_option linter.unusedVariables false
namespace Go.Tr
open Go Go.Abs Go.Proofs
theorem few (n : Int) (ks : List T) : EvD Try.prog 15 [.agg [.sc (.int .i64 n), .sl (tcs ks) ks.length .any]] (.sc (.bool (decide (size (.mk n ks) ≤ 120)))) := by
  refine EvD.body Try.func15 rfl rfl rfl ?_
  refine AWP.seq ?_
  refine TO ⟨[.agg [(I6 n), tl ks]] ++ UU 5, []⟩ ?_
  refine AWP.reg (RT 2 ?_)
  refine AWP.seq (KL [0] ⟨[U6, .ptr 0 0, (B6 false), U6, U6, .undef], [⟨[(I6 n), tl ks], 2, .fresh⟩]⟩ ?_)
  refine AWP.reg (PI 1 (2 ≤ 2 ∧ True) ⟨(by omega), trivial⟩ ?_)
  refine CD (r_size (size (.mk n ks)) n ks ((120 : Int)) (by omega) (by omega) (by omega)) ?_
  refine RT 2 ?_
  refine AWP.ret ?_
  refine FI (.sc (.bool (decide (minI (size (T.mk n ks)) 120 ≤ 120)))) ?_
  refine Shrink.all ?_ rfl
  (congr 2; rw [Bool.eq_iff_iff, decide_eq_true_eq, decide_eq_true_eq]; unfold minI; split <;> omega; done)
theorem rough (N : Nat) : ∀ (n : Int) (ks : List T) (d : Int), size (.mk n ks) ≤ N → 0 ≤ d → d ≤ 1000 → EvD Try.prog 83 [.agg [.sc (.int .i64 n), .sl (tcs ks) ks.length .any], .sc (.int .i64 d)] (.sc (.bool (roughI d (.mk n ks)))) := by
  induction N with
  | zero => intro n ks m h; rw [size] at h; omega
  | succ N ih =>
    intro n ks d hN h0 h1
    by_cases e0 : ks.length = 0
    · obtain rfl := List.eq_nil_of_length_eq_zero e0
      refine EvD.body Try.func83 rfl rfl rfl ?_
      refine AWP.seq ?_
      refine TO ⟨[.agg [(I6 n), .sl [] 0 .any], (I6 d)] ++ UU 43, []⟩ ?_
      refine AWP.reg (RT 2 ?_)
      refine AWP.seq (AWP.seq (KL [0] ⟨[U6, (I6 d), .ptr 0 0, U6, (B6 false)] ++ UU 40, [⟨[(I6 n), .sl [] 0 .any], 2, .fresh⟩]⟩ ?_))
      refine AWP.reg (RI (True ∧ 1 < 2 ∧ True ∧ True) ⟨trivial, (by omega), trivial, trivial⟩ ?_)
      refine AWP.block (AWP.seq (KL [5, 6] ⟨[U6, (I6 d), .ptr 0 0, U6, (B6 false), U6, U6, (I6 0)] ++ UU 37, [⟨[(I6 n), .sl [] 0 .any], 2, .fresh⟩]⟩ ?_))
      refine AWP.reg (RT 2 ?_)
      refine KL [9] ⟨[U6, (I6 d), .ptr 0 0, U6, (B6 false), U6, U6, (I6 0), (B6 true)] ++ UU 36, [⟨[(I6 n), .sl [] 0 .any], 2, .fresh⟩]⟩ ?_
      refine CN true (fun _ => ?_) (fun h => nomatch h)
      refine SQ (PI 4 (True ∧ 0 < 2 ∧ True ∧ True ∧ True) ⟨trivial, (by omega), trivial, trivial, trivial⟩ ?_)
      refine DerQ.to ⟨[U6, (I6 d), .ptr 0 0, U6, (B6 false), U6, U6, (I6 0), (B6 true), U6, .ptr 0 0, (I6 n), (B6 (n == 0)), (B6 (n == 0))] ++ UU 31, [⟨[(I6 n), .sl [] 0 .any], 2, .fresh⟩]⟩ (by kernel_rfl) ?_
      cases h2 : (n == 0)
      · have h2' := ne_of_beq_false h2
        refine RI (True ∧ 0 < 2 ∧ True ∧ True ∧ True ∧ True) ⟨trivial, (by omega), trivial, trivial, trivial, trivial⟩ ?_
        refine AWP.ret ?_
        refine FI (.sc (.bool (n == 1))) ?_
        refine Shrink.all ?_ rfl
        (congr 2; rw [Bool.eq_iff_iff]; simp only [roughI, decide_eq_true_eq, Bool.false_eq_true, false_iff, true_iff, Bool.and_eq_true, Bool.or_eq_true, Bool.not_eq_true', Bool.not_eq_true, Bool.not_eq_false', decide_eq_false_iff_not, iff_true, iff_false, beq_iff_eq, beq_eq_false_iff_ne, ge_iff_le, gt_iff_lt, ne_eq, bne_iff_ne, not_true_eq_false, not_false_eq_true] at *; omega; done)
      · have h2' := eq_of_beq h2
        refine RT 2 ?_
        refine AWP.ret ?_
        refine FI (.sc (.bool true)) ?_
        refine Shrink.all ?_ rfl
        (congr 2; rw [Bool.eq_iff_iff]; simp only [roughI, decide_eq_true_eq, Bool.false_eq_true, false_iff, true_iff, Bool.and_eq_true, Bool.or_eq_true, Bool.not_eq_true', Bool.not_eq_true, Bool.not_eq_false', decide_eq_false_iff_not, iff_true, iff_false, beq_iff_eq, beq_eq_false_iff_ne, ge_iff_le, gt_iff_lt, ne_eq, bne_iff_ne, not_true_eq_false, not_false_eq_true] at *; omega; done)
    · by_cases e2 : ks.length = 2
      · obtain ⟨n1, k1, n2, k2, rfl⟩ := two_of e2
        simp only [size, sizes] at hN
        rw [tcs2]
        refine EvD.body Try.func83 rfl rfl rfl ?_
        refine AWP.seq ?_
        refine TO ⟨[.agg [(I6 n), .sl [(I6 n1), tl k1, (I6 n2), tl k2] 2 .any], (I6 d)] ++ UU 43, []⟩ ?_
        refine AWP.reg (RT 2 ?_)
        refine AWP.seq (AWP.seq (KL [0] ⟨[U6, (I6 d), .ptr 0 0, U6, (B6 false)] ++ UU 40, [⟨[(I6 n), .sl [(I6 n1), tl k1, (I6 n2), tl k2] 2 .any], 2, .fresh⟩]⟩ ?_))
        refine AWP.reg (RI (True ∧ 1 < 2 ∧ True ∧ True) ⟨trivial, (by omega), trivial, trivial⟩ ?_)
        refine AWP.block (AWP.seq (KL [5, 6] ⟨[U6, (I6 d), .ptr 0 0, U6, (B6 false), U6, U6, (I6 2)] ++ UU 37, [⟨[(I6 n), .sl [(I6 n1), tl k1, (I6 n2), tl k2] 2 .any], 2, .fresh⟩]⟩ ?_))
        refine AWP.reg (RT 2 ?_)
        refine KL [9] ⟨[U6, (I6 d), .ptr 0 0, U6, (B6 false), U6, U6, (I6 2), (B6 false)] ++ UU 36, [⟨[(I6 n), .sl [(I6 n1), tl k1, (I6 n2), tl k2] 2 .any], 2, .fresh⟩]⟩ ?_
        refine CN false (fun h => nomatch h) (fun _ => ?_)
        refine SQ (RT 2 ?_)
        refine KL [7, 8, 19] ⟨[U6, (I6 d), .ptr 0 0, U6, (B6 false)] ++ UU 13 ++ [(B6 true)] ++ UU 26, [⟨[(I6 n), .sl [(I6 n1), tl k1, (I6 n2), tl k2] 2 .any], 2, .fresh⟩]⟩ ?_
        refine CN true (fun _ => ?_) (fun h => nomatch h)
        refine SQ (PI 4 (True ∧ 0 < 2 ∧ True ∧ True ∧ True) ⟨trivial, (by omega), trivial, trivial, trivial⟩ ?_)
        refine DerQ.to ⟨[U6, (I6 d), .ptr 0 0, U6, (B6 false)] ++ UU 13 ++ [(B6 true), U6, .ptr 0 0, (I6 n), (B6 (n == 0)), (B6 (n == 0))] ++ UU 21, [⟨[(I6 n), .sl [(I6 n1), tl k1, (I6 n2), tl k2] 2 .any], 2, .fresh⟩]⟩ (by kernel_rfl) ?_
        cases h2 : (n == 0)
        · have h2' := ne_of_beq_false h2
          refine RT 6 ?_
          refine AWP.ret ?_
          refine FI (.sc (.bool false)) ?_
          refine Shrink.all ?_ rfl
          (simp [roughI, *]; done)
        · have h2' := eq_of_beq h2
          refine PT 4 4 ?_
          refine DerQ.to ⟨[U6, (I6 d), .ptr 0 0, U6, (B6 false)] ++ UU 13 ++ [(B6 true), U6, .ptr 0 0, (I6 n), (B6 true), (B6 true), (I6 d), (B6 (decide (d > 0))), (B6 (decide (d > 0))), (B6 (decide (d > 0)))] ++ UU 17, [⟨[(I6 n), .sl [(I6 n1), tl k1, (I6 n2), tl k2] 2 .any], 2, .fresh⟩]⟩ (by kernel_rfl) ?_
          cases h3 : (decide (d > 0))
          · have h3' := of_decide_eq_false h3
            refine RT 4 ?_
            refine AWP.ret ?_
            refine FI (.sc (.bool false)) ?_
            refine Shrink.all ?_ rfl
            (simp [roughI, *]; done)
          · have h3' := of_decide_eq_true h3
            refine DerQ.pre 6 (True ∧ 1 < 2 ∧ ((((0 : Int) ≤ (0 : Int)) ∧ ((0 : Int) < (2 : Int))) ∧ ((2 : Nat) ≤ (4 : Nat))) ∧ 2 ≤ 2 ∧ True ∧ True ∧ True) ⟨[U6, (I6 d), .ptr 0 0, U6, (B6 false)] ++ UU 13 ++ [(B6 true), U6, .ptr 0 0, (I6 n), (B6 true), (B6 true), (I6 d), (B6 true), (B6 true), (B6 true), .ptr 0 1, .sl [(I6 n1), tl k1, (I6 n2), tl k2] 2 .any, .dptr [(I6 n1), tl k1], .agg [(I6 n1), tl k1], (I6 d), (I6 (IntKind.wrap IntKind.i64 (d - 1)))] ++ UU 11, [⟨[(I6 n), .sl [(I6 n1), tl k1, (I6 n2), tl k2] 2 .any], 2, .fresh⟩]⟩ (by kernel_rfl) ⟨trivial, (by omega), ⟨⟨(by omega), (by omega)⟩, (by omega)⟩, (by omega), trivial, trivial, trivial⟩ ?_
            rw [IntWalk.i64_in (d - 1) (by omega)]
            refine CD (ih n1 k1 (d - 1) (by (rw [size]; omega)) (by omega) (by omega)) ?_
            refine PT 2 2 ?_
            refine DerQ.to ⟨[U6, (I6 d), .ptr 0 0, U6, (B6 false)] ++ UU 13 ++ [(B6 true), U6, .ptr 0 0, (I6 n), (B6 true), (B6 true), (I6 d), (B6 true), (B6 true), (B6 true), .ptr 0 1, .sl [(I6 n1), tl k1, (I6 n2), tl k2] 2 .any, .dptr [(I6 n1), tl k1], .agg [(I6 n1), tl k1], (I6 d), (I6 (d - 1)), (B6 (roughI (d - 1) (T.mk n1 k1))), (B6 (roughI (d - 1) (T.mk n1 k1))), (B6 (roughI (d - 1) (T.mk n1 k1)))] ++ UU 8, [⟨[(I6 n), .sl [(I6 n1), tl k1, (I6 n2), tl k2] 2 .any], 2, .fresh⟩]⟩ (by kernel_rfl) ?_
            cases h4 : (roughI (d - 1) (T.mk n1 k1))
            · refine RT 2 ?_
              refine AWP.ret ?_
              refine FI (.sc (.bool false)) ?_
              refine Shrink.all ?_ rfl
              (simp [roughI, *]; done)
            · refine DerQ.pre 6 (True ∧ 1 < 2 ∧ ((((0 : Int) ≤ (1 : Int)) ∧ ((1 : Int) < (2 : Int))) ∧ ((4 : Nat) ≤ (4 : Nat))) ∧ 2 ≤ 2 ∧ True ∧ True ∧ True) ⟨[U6, (I6 d), .ptr 0 0, U6, (B6 false)] ++ UU 13 ++ [(B6 true), U6, .ptr 0 0, (I6 n), (B6 true), (B6 true), (I6 d), (B6 true), (B6 true), (B6 true), .ptr 0 1, .sl [(I6 n1), tl k1, (I6 n2), tl k2] 2 .any, .dptr [(I6 n1), tl k1], .agg [(I6 n1), tl k1], (I6 d), (I6 (d - 1)), (B6 true), (B6 true), (B6 true), .ptr 0 1, .sl [(I6 n1), tl k1, (I6 n2), tl k2] 2 .any, .dptr [(I6 n2), tl k2], .agg [(I6 n2), tl k2], (I6 d), (I6 (IntKind.wrap IntKind.i64 (d - 1))), U6, .undef], [⟨[(I6 n), .sl [(I6 n1), tl k1, (I6 n2), tl k2] 2 .any], 2, .fresh⟩]⟩ (by kernel_rfl) ⟨trivial, (by omega), ⟨⟨(by omega), (by omega)⟩, (by omega)⟩, (by omega), trivial, trivial, trivial⟩ ?_
              rw [IntWalk.i64_in (d - 1) (by omega)]
              refine CD (ih n2 k2 (d - 1) (by (rw [size]; omega)) (by omega) (by omega)) ?_
              refine RT 2 ?_
              refine AWP.ret ?_
              refine FI (.sc (.bool (roughI (d - 1) (T.mk n2 k2)))) ?_
              refine Shrink.all ?_ rfl
              (simp [roughI, *]; done)
      · refine EvD.body Try.func83 rfl rfl rfl ?_
        refine AWP.seq ?_
        refine TO ⟨[.agg [(I6 n), tl ks], (I6 d)] ++ UU 43, []⟩ ?_
        refine AWP.reg (RT 2 ?_)
        refine AWP.seq (AWP.seq (KL [0] ⟨[U6, (I6 d), .ptr 0 0, U6, (B6 false)] ++ UU 40, [⟨[(I6 n), tl ks], 2, .fresh⟩]⟩ ?_))
        refine AWP.reg (RI (True ∧ 1 < 2 ∧ True ∧ True) ⟨trivial, (by omega), trivial, trivial⟩ ?_)
        refine AWP.block (AWP.seq (KL [5, 6] ⟨[U6, (I6 d), .ptr 0 0, U6, (B6 false), U6, U6, (I6 (↑(List.length ks) : Int))] ++ UU 37, [⟨[(I6 n), tl ks], 2, .fresh⟩]⟩ ?_))
        refine AWP.reg (RT 2 ?_)
        refine KL [9] ⟨[U6, (I6 d), .ptr 0 0, U6, (B6 false), U6, U6, (I6 (↑(List.length ks) : Int)), (B6 ((↑(List.length ks) : Int) == 0))] ++ UU 36, [⟨[(I6 n), tl ks], 2, .fresh⟩]⟩ ?_
        refine CN ((↑(List.length ks) : Int) == 0) (fun h2 => ?_) (fun h2 => ?_)
        · have h2' := eq_of_beq h2
          exfalso; omega
        · have h2' := ne_of_beq_false h2
          refine SQ (RT 2 ?_)
          refine KL [7, 8, 19] ⟨[U6, (I6 d), .ptr 0 0, U6, (B6 false)] ++ UU 13 ++ [(B6 ((↑(List.length ks) : Int) == 2))] ++ UU 26, [⟨[(I6 n), tl ks], 2, .fresh⟩]⟩ ?_
          refine CN ((↑(List.length ks) : Int) == 2) (fun h3 => ?_) (fun h3 => ?_)
          · have h3' := eq_of_beq h3
            exfalso; omega
          · have h3' := ne_of_beq_false h3
            refine AWP.skip (SQ (RT 1 ?_))
            refine AWP.ret ?_
            refine FI (.sc (.bool false)) ?_
            refine Shrink.all ?_ rfl
            (rw [rough_no e0 e2]; done)
theorem r_rough (N : Nat) : ∀ (n : Int) (ks : List T) (d : Int), size (.mk n ks) ≤ N → 0 ≤ d → d ≤ 1000 → EvD Try.prog 85 [.agg [.sc (.int .i64 n), .sl (tcs ks) ks.length .any], .sc (.int .i64 d)] (.sc (.bool (roughI d (.mk n ks)))) := by
  induction N with
  | zero => intro n ks m h; rw [size] at h; omega
  | succ N ih =>
    intro n ks d hN h0 h1
    by_cases e0 : ks.length = 0
    · obtain rfl := List.eq_nil_of_length_eq_zero e0
      refine EvD.body Try.func85 rfl rfl rfl ?_
      refine AWP.seq ?_
      refine TO ⟨[.agg [(I6 n), .sl [] 0 .any], (I6 d)] ++ UU 46, []⟩ ?_
      refine AWP.reg (RT 2 ?_)
      refine AWP.seq (AWP.seq (KL [0] ⟨[U6, (I6 d), .ptr 0 0, U6, (B6 false)] ++ UU 43, [⟨[(I6 n), .sl [] 0 .any], 2, .fresh⟩]⟩ ?_))
      refine AWP.reg (RI (True ∧ 1 < 2 ∧ True ∧ True ∧ True) ⟨trivial, (by omega), trivial, trivial, trivial⟩ ?_)
      refine KL [5, 6, 7] ⟨[U6, (I6 d), .ptr 0 0, U6, (B6 false), U6, U6, U6, (B6 true)] ++ UU 39, [⟨[(I6 n), .sl [] 0 .any], 2, .fresh⟩]⟩ ?_
      refine CN true (fun _ => ?_) (fun h => nomatch h)
      refine SQ (PI 4 (True ∧ 0 < 2 ∧ True ∧ True ∧ True) ⟨trivial, (by omega), trivial, trivial, trivial⟩ ?_)
      refine DerQ.to ⟨[U6, (I6 d), .ptr 0 0, U6, (B6 false), U6, U6, U6, (B6 true), .ptr 0 0, (I6 n), (B6 (n == 0)), (B6 (n == 0))] ++ UU 35, [⟨[(I6 n), .sl [] 0 .any], 2, .fresh⟩]⟩ (by kernel_rfl) ?_
      cases h2 : (n == 0)
      · have h2' := ne_of_beq_false h2
        refine RI (True ∧ 0 < 2 ∧ True ∧ True ∧ True ∧ True) ⟨trivial, (by omega), trivial, trivial, trivial, trivial⟩ ?_
        refine AWP.ret ?_
        refine FI (.sc (.bool (n == 1))) ?_
        refine Shrink.all ?_ rfl
        (congr 2; rw [Bool.eq_iff_iff]; simp only [roughI, decide_eq_true_eq, Bool.false_eq_true, false_iff, true_iff, Bool.and_eq_true, Bool.or_eq_true, Bool.not_eq_true', Bool.not_eq_true, Bool.not_eq_false', decide_eq_false_iff_not, iff_true, iff_false, beq_iff_eq, beq_eq_false_iff_ne, ge_iff_le, gt_iff_lt, ne_eq, bne_iff_ne, not_true_eq_false, not_false_eq_true] at *; omega; done)
      · have h2' := eq_of_beq h2
        refine RT 2 ?_
        refine AWP.ret ?_
        refine FI (.sc (.bool true)) ?_
        refine Shrink.all ?_ rfl
        (congr 2; rw [Bool.eq_iff_iff]; simp only [roughI, decide_eq_true_eq, Bool.false_eq_true, false_iff, true_iff, Bool.and_eq_true, Bool.or_eq_true, Bool.not_eq_true', Bool.not_eq_true, Bool.not_eq_false', decide_eq_false_iff_not, iff_true, iff_false, beq_iff_eq, beq_eq_false_iff_ne, ge_iff_le, gt_iff_lt, ne_eq, bne_iff_ne, not_true_eq_false, not_false_eq_true] at *; omega; done)
    · by_cases e2 : ks.length = 2
      · obtain ⟨n1, k1, n2, k2, rfl⟩ := two_of e2
        simp only [size, sizes] at hN
        rw [tcs2]
        refine EvD.body Try.func85 rfl rfl rfl ?_
        refine AWP.seq ?_
        refine TO ⟨[.agg [(I6 n), .sl [(I6 n1), tl k1, (I6 n2), tl k2] 2 .any], (I6 d)] ++ UU 46, []⟩ ?_
        refine AWP.reg (RT 2 ?_)
        refine AWP.seq (AWP.seq (KL [0] ⟨[U6, (I6 d), .ptr 0 0, U6, (B6 false)] ++ UU 43, [⟨[(I6 n), .sl [(I6 n1), tl k1, (I6 n2), tl k2] 2 .any], 2, .fresh⟩]⟩ ?_))
        refine AWP.reg (RI (True ∧ 1 < 2 ∧ True ∧ True ∧ True) ⟨trivial, (by omega), trivial, trivial, trivial⟩ ?_)
        refine KL [5, 6, 7] ⟨[U6, (I6 d), .ptr 0 0, U6, (B6 false), U6, U6, U6, (B6 false)] ++ UU 39, [⟨[(I6 n), .sl [(I6 n1), tl k1, (I6 n2), tl k2] 2 .any], 2, .fresh⟩]⟩ ?_
        refine CN false (fun h => nomatch h) (fun _ => ?_)
        refine AWP.skip (SQ (PI 10 (True ∧ 1 < 2 ∧ True ∧ True ∧ True ∧ True ∧ 0 < 2 ∧ True ∧ True ∧ True ∧ True) ⟨trivial, (by omega), trivial, trivial, trivial, trivial, (by omega), trivial, trivial, trivial, trivial⟩ ?_))
        refine DerQ.to ⟨[U6, (I6 d), .ptr 0 0, U6, (B6 false), U6, U6, U6, (B6 false)] ++ UU 8 ++ [.ptr 0 1, .sl [(I6 n1), tl k1, (I6 n2), tl k2] 2 .any, (I6 2), (B6 true), (B6 true), .ptr 0 0, (I6 n), (B6 (n == 0)), (B6 (n == 0)), (B6 (n == 0))] ++ UU 21, [⟨[(I6 n), .sl [(I6 n1), tl k1, (I6 n2), tl k2] 2 .any], 2, .fresh⟩]⟩ (by kernel_rfl) ?_
        cases h2 : (n == 0)
        · have h2' := ne_of_beq_false h2
          refine RT 6 ?_
          refine AWP.ret ?_
          refine FI (.sc (.bool false)) ?_
          refine Shrink.all ?_ rfl
          (simp [roughI, *]; done)
        · have h2' := eq_of_beq h2
          refine PT 4 4 ?_
          refine DerQ.to ⟨[U6, (I6 d), .ptr 0 0, U6, (B6 false), U6, U6, U6, (B6 false)] ++ UU 8 ++ [.ptr 0 1, .sl [(I6 n1), tl k1, (I6 n2), tl k2] 2 .any, (I6 2), (B6 true), (B6 true), .ptr 0 0, (I6 n), (B6 true), (B6 true), (B6 true), (I6 d), (B6 (decide (d > 0))), (B6 (decide (d > 0))), (B6 (decide (d > 0)))] ++ UU 17, [⟨[(I6 n), .sl [(I6 n1), tl k1, (I6 n2), tl k2] 2 .any], 2, .fresh⟩]⟩ (by kernel_rfl) ?_
          cases h3 : (decide (d > 0))
          · have h3' := of_decide_eq_false h3
            refine RT 4 ?_
            refine AWP.ret ?_
            refine FI (.sc (.bool false)) ?_
            refine Shrink.all ?_ rfl
            (simp [roughI, *]; done)
          · have h3' := of_decide_eq_true h3
            refine DerQ.pre 6 (True ∧ 1 < 2 ∧ ((((0 : Int) ≤ (0 : Int)) ∧ ((0 : Int) < (2 : Int))) ∧ ((2 : Nat) ≤ (4 : Nat))) ∧ 2 ≤ 2 ∧ True ∧ True ∧ True) ⟨[U6, (I6 d), .ptr 0 0, U6, (B6 false), U6, U6, U6, (B6 false)] ++ UU 8 ++ [.ptr 0 1, .sl [(I6 n1), tl k1, (I6 n2), tl k2] 2 .any, (I6 2), (B6 true), (B6 true), .ptr 0 0, (I6 n), (B6 true), (B6 true), (B6 true), (I6 d), (B6 true), (B6 true), (B6 true), .ptr 0 1, .sl [(I6 n1), tl k1, (I6 n2), tl k2] 2 .any, .dptr [(I6 n1), tl k1], .agg [(I6 n1), tl k1], (I6 d), (I6 (IntKind.wrap IntKind.i64 (d - 1)))] ++ UU 11, [⟨[(I6 n), .sl [(I6 n1), tl k1, (I6 n2), tl k2] 2 .any], 2, .fresh⟩]⟩ (by kernel_rfl) ⟨trivial, (by omega), ⟨⟨(by omega), (by omega)⟩, (by omega)⟩, (by omega), trivial, trivial, trivial⟩ ?_
            rw [IntWalk.i64_in (d - 1) (by omega)]
            refine CD (ih n1 k1 (d - 1) (by (rw [size]; omega)) (by omega) (by omega)) ?_
            refine PT 2 2 ?_
            refine DerQ.to ⟨[U6, (I6 d), .ptr 0 0, U6, (B6 false), U6, U6, U6, (B6 false)] ++ UU 8 ++ [.ptr 0 1, .sl [(I6 n1), tl k1, (I6 n2), tl k2] 2 .any, (I6 2), (B6 true), (B6 true), .ptr 0 0, (I6 n), (B6 true), (B6 true), (B6 true), (I6 d), (B6 true), (B6 true), (B6 true), .ptr 0 1, .sl [(I6 n1), tl k1, (I6 n2), tl k2] 2 .any, .dptr [(I6 n1), tl k1], .agg [(I6 n1), tl k1], (I6 d), (I6 (d - 1)), (B6 (roughI (d - 1) (T.mk n1 k1))), (B6 (roughI (d - 1) (T.mk n1 k1))), (B6 (roughI (d - 1) (T.mk n1 k1)))] ++ UU 8, [⟨[(I6 n), .sl [(I6 n1), tl k1, (I6 n2), tl k2] 2 .any], 2, .fresh⟩]⟩ (by kernel_rfl) ?_
            cases h4 : (roughI (d - 1) (T.mk n1 k1))
            · refine RT 2 ?_
              refine AWP.ret ?_
              refine FI (.sc (.bool false)) ?_
              refine Shrink.all ?_ rfl
              (simp [roughI, *]; done)
            · refine DerQ.pre 6 (True ∧ 1 < 2 ∧ ((((0 : Int) ≤ (1 : Int)) ∧ ((1 : Int) < (2 : Int))) ∧ ((4 : Nat) ≤ (4 : Nat))) ∧ 2 ≤ 2 ∧ True ∧ True ∧ True) ⟨[U6, (I6 d), .ptr 0 0, U6, (B6 false), U6, U6, U6, (B6 false)] ++ UU 8 ++ [.ptr 0 1, .sl [(I6 n1), tl k1, (I6 n2), tl k2] 2 .any, (I6 2), (B6 true), (B6 true), .ptr 0 0, (I6 n), (B6 true), (B6 true), (B6 true), (I6 d), (B6 true), (B6 true), (B6 true), .ptr 0 1, .sl [(I6 n1), tl k1, (I6 n2), tl k2] 2 .any, .dptr [(I6 n1), tl k1], .agg [(I6 n1), tl k1], (I6 d), (I6 (d - 1)), (B6 true), (B6 true), (B6 true), .ptr 0 1, .sl [(I6 n1), tl k1, (I6 n2), tl k2] 2 .any, .dptr [(I6 n2), tl k2], .agg [(I6 n2), tl k2], (I6 d), (I6 (IntKind.wrap IntKind.i64 (d - 1))), U6, .undef], [⟨[(I6 n), .sl [(I6 n1), tl k1, (I6 n2), tl k2] 2 .any], 2, .fresh⟩]⟩ (by kernel_rfl) ⟨trivial, (by omega), ⟨⟨(by omega), (by omega)⟩, (by omega)⟩, (by omega), trivial, trivial, trivial⟩ ?_
              rw [IntWalk.i64_in (d - 1) (by omega)]
              refine CD (ih n2 k2 (d - 1) (by (rw [size]; omega)) (by omega) (by omega)) ?_
              refine RT 2 ?_
              refine AWP.ret ?_
              refine FI (.sc (.bool (roughI (d - 1) (T.mk n2 k2)))) ?_
              refine Shrink.all ?_ rfl
              (simp [roughI, *]; done)
      · refine EvD.body Try.func85 rfl rfl rfl ?_
        refine AWP.seq ?_
        refine TO ⟨[.agg [(I6 n), tl ks], (I6 d)] ++ UU 46, []⟩ ?_
        refine AWP.reg (RT 2 ?_)
        refine AWP.seq (AWP.seq (KL [0] ⟨[U6, (I6 d), .ptr 0 0, U6, (B6 false)] ++ UU 43, [⟨[(I6 n), tl ks], 2, .fresh⟩]⟩ ?_))
        refine AWP.reg (RI (True ∧ 1 < 2 ∧ True ∧ True ∧ True) ⟨trivial, (by omega), trivial, trivial, trivial⟩ ?_)
        refine KL [5, 6, 7] ⟨[U6, (I6 d), .ptr 0 0, U6, (B6 false), U6, U6, U6, (B6 ((↑(List.length ks) : Int) == 0))] ++ UU 39, [⟨[(I6 n), tl ks], 2, .fresh⟩]⟩ ?_
        refine CN ((↑(List.length ks) : Int) == 0) (fun h2 => ?_) (fun h2 => ?_)
        · have h2' := eq_of_beq h2
          exfalso; omega
        · have h2' := ne_of_beq_false h2
          refine AWP.skip (SQ (PI 5 (True ∧ 1 < 2 ∧ True ∧ True ∧ True ∧ True) ⟨trivial, (by omega), trivial, trivial, trivial, trivial⟩ ?_))
          refine DerQ.to ⟨[U6, (I6 d), .ptr 0 0, U6, (B6 false), U6, U6, U6, (B6 ((↑(List.length ks) : Int) == 0))] ++ UU 8 ++ [.ptr 0 1, tl ks, (I6 (↑(List.length ks) : Int)), (B6 ((↑(List.length ks) : Int) == 2)), (B6 ((↑(List.length ks) : Int) == 2))] ++ UU 26, [⟨[(I6 n), tl ks], 2, .fresh⟩]⟩ (by kernel_rfl) ?_
          cases h3 : ((↑(List.length ks) : Int) == 2)
          · have h3' := ne_of_beq_false h3
            refine RT 8 ?_
            refine AWP.ret ?_
            refine FI (.sc (.bool false)) ?_
            refine Shrink.all ?_ rfl
            (rw [rough_no e0 e2]; done)
          · have h3' := eq_of_beq h3
            exfalso; omega
theorem short (a b : Int) (c d : List T) : EvD Try.prog 113 [.agg [.sc (.int .i64 a), .sl (tcs c) c.length .any], .agg [.sc (.int .i64 b), .sl (tcs d) d.length .any]] (ag (shortI (.mk a c) (.mk b d))) := by
  refine EvD.body Try.func113 rfl rfl rfl ?_
  refine AWP.seq ?_
  refine TO ⟨[.agg [(I6 a), tl c], .agg [(I6 b), tl d]] ++ UU 17, []⟩ ?_
  refine AWP.reg (RT 3 ?_)
  refine AWP.seq (AWP.seq (KL [0, 1] ⟨[U6, U6, .ptr 0 0, .ptr 1 0, .ptr 2 0] ++ UU 14, [⟨[(I6 a), tl c], 2, .fresh⟩, ⟨[(I6 b), tl d], 2, .fresh⟩, ⟨[(I6 0), .sl [] 0 .nil], 2, .fresh⟩]⟩ ?_))
  refine AWP.reg (PI 5 (True ∧ 1 < 2 ∧ True ∧ True ∧ True ∧ True) ⟨trivial, (by omega), trivial, trivial, trivial, trivial⟩ ?_)
  refine DerQ.to ⟨[U6, U6, .ptr 0 0, .ptr 1 0, .ptr 2 0, .ptr 0 1, tl c, (I6 (↑(List.length c) : Int)), (B6 ((↑(List.length c) : Int) == 0)), (B6 ((↑(List.length c) : Int) == 0))] ++ UU 9, [⟨[(I6 a), tl c], 2, .fresh⟩, ⟨[(I6 b), tl d], 2, .fresh⟩, ⟨[(I6 0), .sl [] 0 .nil], 2, .fresh⟩]⟩ (by kernel_rfl) ?_
  cases h1 : ((↑(List.length c) : Int) == 0)
  · have h1' := ne_of_beq_false h1
    refine RT 1 ?_
    refine KL (NN 5 9) ⟨[U6, U6, .ptr 0 0, .ptr 1 0, .ptr 2 0] ++ UU 9 ++ [(B6 false), U6, U6, U6, .undef], [⟨[(I6 a), tl c], 2, .fresh⟩, ⟨[(I6 b), tl d], 2, .fresh⟩, ⟨[(I6 0), .sl [] 0 .nil], 2, .fresh⟩]⟩ ?_
    refine CN false (fun h => nomatch h) (fun _ => ?_)
    refine AWP.skip (SQ (PI 2 (2 ≤ 2 ∧ 2 ≤ 2 ∧ True) ⟨(by omega), (by omega), trivial⟩ ?_))
    refine CD (inner a b (tcs c) (tcs d) (List.length c) (List.length d)) ?_
    refine RI (2 ≤ 2 ∧ True) ⟨(by omega), trivial⟩ ?_
    refine AWP.ret ?_
    refine FI (.agg [.sc (.int .i64 0), .sl [.sc (.int .i64 (a)), .sl (tcs c) (List.length c) .any, .sc (.int .i64 (b)), .sl (tcs d) (List.length d) .any] 2 .any]) ?_
    refine Shrink.dataK [] (True) (.agg [.sc (.int .i64 0), .sl [.sc (.int .i64 (a)), .sl (tcs c) (List.length c) .any, .sc (.int .i64 (b)), .sl (tcs d) (List.length d) .any] 2 .any]) (by kernel_rfl) trivial ?_ rfl
    (rw [short_no (by simp only [T.ks_mk, T.n_mk, isT]; omega)]; rfl; done)
  · have h1' := eq_of_beq h1
    refine PI 3 (2 ≤ 2 ∧ True ∧ 0 < 2 ∧ True) ⟨(by omega), trivial, (by omega), trivial⟩ ?_
    refine CD (is b a (tcs d) (List.length d)) ?_
    refine RT 1 ?_
    refine KL (NN 5 9) ⟨[U6, U6, .ptr 0 0, .ptr 1 0, .ptr 2 0] ++ UU 9 ++ [(B6 (decide (List.length d = 0 ∧ b = a))), U6, U6, U6, .undef], [⟨[(I6 a), tl c], 2, .fresh⟩, ⟨[(I6 b), tl d], 2, .fresh⟩, ⟨[(I6 0), .sl [] 0 .nil], 2, .fresh⟩]⟩ ?_
    refine CN (decide (List.length d = 0 ∧ b = a)) (fun h2 => ?_) (fun h2 => ?_)
    · have h2' := of_decide_eq_true h2
      refine SQ (RI (2 ≤ 2 ∧ 2 ≤ 2 ∧ True) ⟨(by omega), (by omega), trivial⟩ ?_)
      refine AWP.ret ?_
      refine FI (.agg [.sc (.int .i64 (a)), .sl (tcs c) (List.length c) .any]) ?_
      refine Shrink.dataK [] (True) (.agg [.sc (.int .i64 (a)), .sl (tcs c) (List.length c) .any]) (by kernel_rfl) trivial ?_ rfl
      (rw [short_yes (by simp only [T.ks_mk, T.n_mk, isT]; omega)]; rfl; done)
    · have h2' := of_decide_eq_false h2
      refine AWP.skip (SQ (PI 2 (2 ≤ 2 ∧ 2 ≤ 2 ∧ True) ⟨(by omega), (by omega), trivial⟩ ?_))
      refine CD (inner a b (tcs c) (tcs d) (List.length c) (List.length d)) ?_
      refine RI (2 ≤ 2 ∧ True) ⟨(by omega), trivial⟩ ?_
      refine AWP.ret ?_
      refine FI (.agg [.sc (.int .i64 0), .sl [.sc (.int .i64 (a)), .sl (tcs c) (List.length c) .any, .sc (.int .i64 (b)), .sl (tcs d) (List.length d) .any] 2 .any]) ?_
      refine Shrink.dataK [] (True) (.agg [.sc (.int .i64 0), .sl [.sc (.int .i64 (a)), .sl (tcs c) (List.length c) .any, .sc (.int .i64 (b)), .sl (tcs d) (List.length d) .any] 2 .any]) (by kernel_rfl) trivial ?_ rfl
      (rw [short_no (by simp only [T.ks_mk, T.n_mk, isT]; omega)]; rfl; done)
end Go.Tr
