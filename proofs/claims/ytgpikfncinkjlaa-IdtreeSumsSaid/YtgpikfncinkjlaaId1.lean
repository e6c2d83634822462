/- Walks and laws. -/
import Derived.Test.YtgpikfncinkjlaaId0
import Derived.Test.YtgpikfncinkjlaaLibB
set_option maxRecDepth 100000
set_option maxHeartbeats 0
set_option linter.unusedSimpArgs false
set_option linter.unusedVariables false
namespace Go.Tr
open Go Go.Abs Go.Proofs
theorem few (n : Int) (ks : List T) : EvD Try.prog 15 [.agg [.sc (.int .i64 n), .sl (tcs ks) ks.length .any]] (.sc (.bool (decide (size (.mk n ks) ≤ 120)))) := by
  refine EvD.body Try.func15 rfl rfl rfl ?_
  refine AWP.seq ?_
  refine AWP.reg ?_
  refine DerQ.run (TT 2) ⟨[.agg [(I6 n), tl ks], .ptr 0 0, (B6 false), U6, U6, .undef], [⟨[(I6 n), tl ks], 2, .fresh⟩]⟩ (by kernel_rfl) (tt 2) ?_
  refine AWP.seq ?_
  refine AWP.reg ?_
  refine DerQ.pre 1 (((2 : Nat) ≤ (2 : Nat)) ∧ (True)) ⟨[.agg [(I6 n), tl ks], .ptr 0 0, (B6 false), .agg [(I6 n), tl ks], U6, .undef], [⟨[(I6 n), tl ks], 2, .fresh⟩]⟩ (by kernel_rfl) ⟨(by omega), trivial⟩ ?_
  refine DerQ.callD (r_size (size (.mk n ks)) n ks ((120 : Int)) (by omega) (by omega) (by omega)) ⟨[.agg [(I6 n), tl ks], .ptr 0 0, (B6 false), .agg [(I6 n), tl ks], (I6 (minI (size (T.mk n ks)) 120)), .undef], [⟨[(I6 n), tl ks], 2, .fresh⟩]⟩ ⟨by kernel_rfl, by kernel_rfl, by kernel_rfl⟩ ?_
  refine DerQ.run (TT 2) ⟨[.agg [(I6 n), tl ks], .ptr 0 0, (B6 (decide (minI (size (T.mk n ks)) 120 ≤ 120))), .agg [(I6 n), tl ks], (I6 (minI (size (T.mk n ks)) 120)), (B6 (decide (minI (size (T.mk n ks)) 120 ≤ 120)))], [⟨[(I6 n), tl ks], 2, .fresh⟩]⟩ (by kernel_rfl) (tt 2) ?_
  refine AWP.kill [0, 1, 3, 4, 5] ⟨[.undef, .undef, .sc (.bool (decide (minI (size (T.mk n ks)) 120 ≤ 120))), .undef, .undef, .undef], [⟨[.sc (.int .i64 (n)), .sl (tcs ks) (List.length ks) .any], 2, .fresh⟩]⟩ (by kernel_rfl) ?_
  refine AWP.ret ?_
  refine EvF.fin (.sc (.bool (decide (minI (size (T.mk n ks)) 120 ≤ 120)))) _ (by simp) (by kernel_rfl) ?_
  refine Shrink.all ?_ rfl
  (congr 2; rw [Bool.eq_iff_iff, decide_eq_true_eq, decide_eq_true_eq]; unfold minI; split <;> omega; done)
theorem rough (N : Nat) : ∀ (n : Int) (ks : List T) (d : Int), size (.mk n ks) ≤ N → 0 ≤ d → d ≤ 1000 → EvD Try.prog 83 [.agg [.sc (.int .i64 n), .sl (tcs ks) ks.length .any], .sc (.int .i64 d)] (.sc (.bool (roughI d (.mk n ks)))) := by
  induction N with
  | zero => intro n ks m h; rw [size] at h; omega
  | succ N ih =>
    intro n ks d hN h0 h1
    by_cases e0 : ks.length = 0
    · obtain rfl := List.eq_nil_of_length_eq_zero e0
      refine EvD.body Try.func83 rfl rfl rfl ?_
      refine AWP.seq ?_
      refine AWP.reg ?_
      refine DerQ.run (TT 2) ⟨[.agg [(I6 n), .sl [] 0 .any], (I6 d), .ptr 0 0, U6, (B6 false)] ++ UU 40, [⟨[(I6 n), .sl [] 0 .any], 2, .fresh⟩]⟩ (by kernel_rfl) (tt 2) ?_
      refine AWP.seq ?_
      refine AWP.seq ?_
      refine AWP.reg ?_
      refine DerQ.run ((True) ∧ (((1 : Nat) < (2 : Nat)) ∧ ((True) ∧ (True)))) ⟨[.agg [(I6 n), .sl [] 0 .any], (I6 d), .ptr 0 0, U6, (B6 false), .ptr 0 1, .sl [] 0 .any, (I6 0)] ++ UU 37, [⟨[(I6 n), .sl [] 0 .any], 2, .fresh⟩]⟩ (by kernel_rfl) ⟨trivial, ⟨(by omega), ⟨trivial, trivial⟩⟩⟩ ?_
      refine AWP.block ?_
      refine AWP.seq ?_
      refine AWP.reg ?_
      refine DerQ.run (TT 2) ⟨[.agg [(I6 n), .sl [] 0 .any], (I6 d), .ptr 0 0, U6, (B6 false), .ptr 0 1, .sl [] 0 .any, (I6 0), (B6 true), (B6 true)] ++ UU 35, [⟨[(I6 n), .sl [] 0 .any], 2, .fresh⟩]⟩ (by kernel_rfl) (tt 2) ?_
      refine AWP.kill [0, 5, 6, 9] ⟨[.undef, .sc (.int .i64 (d)), .ptr 0 0, .undef, .sc (.bool false), .undef, .undef, .sc (.int .i64 0), .sc (.bool true), .undef, .undef, .undef, .undef, .undef, .undef, .undef, .undef, .undef, .undef, .undef, .undef, .undef, .undef, .undef, .undef, .undef, .undef, .undef, .undef, .undef, .undef, .undef, .undef, .undef, .undef, .undef, .undef, .undef, .undef, .undef, .undef, .undef, .undef, .undef, .undef], [⟨[.sc (.int .i64 (n)), .sl [] 0 .any], 2, .fresh⟩]⟩ (by kernel_rfl) ?_
      refine AWP.cond (b := true) (by kernel_rfl) (fun _ => ?_) (fun h => nomatch h)
      refine AWP.seq ?_
      refine AWP.reg ?_
      refine DerQ.pre 4 ((True) ∧ (((0 : Nat) < (2 : Nat)) ∧ ((True) ∧ ((True) ∧ (True))))) ⟨[U6, (I6 d), .ptr 0 0, U6, (B6 false), U6, U6, (I6 0), (B6 true), U6, .ptr 0 0, (I6 n), (B6 (n == 0)), (B6 (n == 0))] ++ UU 31, [⟨[(I6 n), .sl [] 0 .any], 2, .fresh⟩]⟩ (by kernel_rfl) ⟨trivial, ⟨(by omega), ⟨trivial, ⟨trivial, trivial⟩⟩⟩⟩ ?_
      cases h2 : (n == 0)
      · have h2' := ne_of_beq_false h2
        refine DerQ.run ((True) ∧ (((0 : Nat) < (2 : Nat)) ∧ ((True) ∧ ((True) ∧ ((True) ∧ (True)))))) ⟨[U6, (I6 d), .ptr 0 0, U6, (B6 (n == 1)), U6, U6, (I6 0), (B6 true), U6, .ptr 0 0, (I6 n), (B6 false), (B6 false), .ptr 0 0, (I6 n), (B6 (n == 1)), (B6 (n == 1))] ++ UU 27, [⟨[(I6 n), .sl [] 0 .any], 2, .fresh⟩]⟩ (by kernel_rfl) ⟨trivial, ⟨(by omega), ⟨trivial, ⟨trivial, ⟨trivial, trivial⟩⟩⟩⟩⟩ ?_
        refine AWP.kill [1, 2, 7, 8, 10, 11, 12, 13, 14, 15, 16, 17] ⟨[.undef, .undef, .undef, .undef, .sc (.bool (n == 1)), .undef, .undef, .undef, .undef, .undef, .undef, .undef, .undef, .undef, .undef, .undef, .undef, .undef, .undef, .undef, .undef, .undef, .undef, .undef, .undef, .undef, .undef, .undef, .undef, .undef, .undef, .undef, .undef, .undef, .undef, .undef, .undef, .undef, .undef, .undef, .undef, .undef, .undef, .undef, .undef], [⟨[.sc (.int .i64 (n)), .sl [] 0 .any], 2, .fresh⟩]⟩ (by kernel_rfl) ?_
        refine AWP.ret ?_
        refine EvF.fin (.sc (.bool (n == 1))) _ (by simp) (by kernel_rfl) ?_
        refine Shrink.all ?_ rfl
        (congr 2; rw [Bool.eq_iff_iff]; simp only [roughI, decide_eq_true_eq, Bool.false_eq_true, false_iff, true_iff, Bool.and_eq_true, Bool.or_eq_true, Bool.not_eq_true', Bool.not_eq_true, Bool.not_eq_false', decide_eq_false_iff_not, iff_true, iff_false, beq_iff_eq, beq_eq_false_iff_ne, ge_iff_le, gt_iff_lt, ne_eq, bne_iff_ne, not_true_eq_false, not_false_eq_true] at *; omega; done)
      · have h2' := eq_of_beq h2
        refine DerQ.run (TT 2) ⟨[U6, (I6 d), .ptr 0 0, U6, (B6 true), U6, U6, (I6 0), (B6 true), U6, .ptr 0 0, (I6 n), (B6 true), (B6 true), .tup [], .tup [], .tup [], (B6 true)] ++ UU 27, [⟨[(I6 n), .sl [] 0 .any], 2, .fresh⟩]⟩ (by kernel_rfl) (tt 2) ?_
        refine AWP.kill [1, 2, 7, 8, 10, 11, 12, 13, 14, 15, 16, 17] ⟨[.undef, .undef, .undef, .undef, .sc (.bool true), .undef, .undef, .undef, .undef, .undef, .undef, .undef, .undef, .undef, .undef, .undef, .undef, .undef, .undef, .undef, .undef, .undef, .undef, .undef, .undef, .undef, .undef, .undef, .undef, .undef, .undef, .undef, .undef, .undef, .undef, .undef, .undef, .undef, .undef, .undef, .undef, .undef, .undef, .undef, .undef], [⟨[.sc (.int .i64 (n)), .sl [] 0 .any], 2, .fresh⟩]⟩ (by kernel_rfl) ?_
        refine AWP.ret ?_
        refine EvF.fin (.sc (.bool true)) _ (by simp) (by kernel_rfl) ?_
        refine Shrink.all ?_ rfl
        (congr 2; rw [Bool.eq_iff_iff]; simp only [roughI, decide_eq_true_eq, Bool.false_eq_true, false_iff, true_iff, Bool.and_eq_true, Bool.or_eq_true, Bool.not_eq_true', Bool.not_eq_true, Bool.not_eq_false', decide_eq_false_iff_not, iff_true, iff_false, beq_iff_eq, beq_eq_false_iff_ne, ge_iff_le, gt_iff_lt, ne_eq, bne_iff_ne, not_true_eq_false, not_false_eq_true] at *; omega; done)
    · by_cases e2 : ks.length = 2
      · obtain ⟨n1, k1, n2, k2, rfl⟩ := two_of e2
        simp only [size, sizes] at hN
        rw [tcs2]
        refine EvD.body Try.func83 rfl rfl rfl ?_
        refine AWP.seq ?_
        refine AWP.reg ?_
        refine DerQ.run (TT 2) ⟨[.agg [(I6 n), .sl [(I6 n1), tl k1, (I6 n2), tl k2] 2 .any], (I6 d), .ptr 0 0, U6, (B6 false)] ++ UU 40, [⟨[(I6 n), .sl [(I6 n1), tl k1, (I6 n2), tl k2] 2 .any], 2, .fresh⟩]⟩ (by kernel_rfl) (tt 2) ?_
        refine AWP.seq ?_
        refine AWP.seq ?_
        refine AWP.reg ?_
        refine DerQ.run ((True) ∧ (((1 : Nat) < (2 : Nat)) ∧ ((True) ∧ (True)))) ⟨[.agg [(I6 n), .sl [(I6 n1), tl k1, (I6 n2), tl k2] 2 .any], (I6 d), .ptr 0 0, U6, (B6 false), .ptr 0 1, .sl [(I6 n1), tl k1, (I6 n2), tl k2] 2 .any, (I6 2)] ++ UU 37, [⟨[(I6 n), .sl [(I6 n1), tl k1, (I6 n2), tl k2] 2 .any], 2, .fresh⟩]⟩ (by kernel_rfl) ⟨trivial, ⟨(by omega), ⟨trivial, trivial⟩⟩⟩ ?_
        refine AWP.block ?_
        refine AWP.seq ?_
        refine AWP.reg ?_
        refine DerQ.run (TT 2) ⟨[.agg [(I6 n), .sl [(I6 n1), tl k1, (I6 n2), tl k2] 2 .any], (I6 d), .ptr 0 0, U6, (B6 false), .ptr 0 1, .sl [(I6 n1), tl k1, (I6 n2), tl k2] 2 .any, (I6 2), (B6 false), (B6 false)] ++ UU 35, [⟨[(I6 n), .sl [(I6 n1), tl k1, (I6 n2), tl k2] 2 .any], 2, .fresh⟩]⟩ (by kernel_rfl) (tt 2) ?_
        refine AWP.kill [0, 5, 6, 9] ⟨[.undef, .sc (.int .i64 (d)), .ptr 0 0, .undef, .sc (.bool false), .undef, .undef, .sc (.int .i64 2), .sc (.bool false), .undef, .undef, .undef, .undef, .undef, .undef, .undef, .undef, .undef, .undef, .undef, .undef, .undef, .undef, .undef, .undef, .undef, .undef, .undef, .undef, .undef, .undef, .undef, .undef, .undef, .undef, .undef, .undef, .undef, .undef, .undef, .undef, .undef, .undef, .undef, .undef], [⟨[.sc (.int .i64 (n)), .sl [.sc (.int .i64 (n1)), .sl (tcs k1) (List.length k1) .any, .sc (.int .i64 (n2)), .sl (tcs k2) (List.length k2) .any] 2 .any], 2, .fresh⟩]⟩ (by kernel_rfl) ?_
        refine AWP.cond (b := false) (by kernel_rfl) (fun h => nomatch h) (fun _ => ?_)
        refine AWP.seq ?_
        refine AWP.reg ?_
        refine DerQ.run (TT 2) ⟨[U6, (I6 d), .ptr 0 0, U6, (B6 false), U6, U6, (I6 2), (B6 false)] ++ UU 9 ++ [(B6 true), (B6 true)] ++ UU 25, [⟨[(I6 n), .sl [(I6 n1), tl k1, (I6 n2), tl k2] 2 .any], 2, .fresh⟩]⟩ (by kernel_rfl) (tt 2) ?_
        refine AWP.cond (b := true) (by kernel_rfl) (fun _ => ?_) (fun h => nomatch h)
        refine AWP.seq ?_
        refine AWP.kill [7, 8, 18, 19] ⟨[.undef, .sc (.int .i64 (d)), .ptr 0 0, .undef, .sc (.bool false), .undef, .undef, .undef, .undef, .undef, .undef, .undef, .undef, .undef, .undef, .undef, .undef, .undef, .undef, .undef, .undef, .undef, .undef, .undef, .undef, .undef, .undef, .undef, .undef, .undef, .undef, .undef, .undef, .undef, .undef, .undef, .undef, .undef, .undef, .undef, .undef, .undef, .undef, .undef, .undef], [⟨[.sc (.int .i64 (n)), .sl [.sc (.int .i64 (n1)), .sl (tcs k1) (List.length k1) .any, .sc (.int .i64 (n2)), .sl (tcs k2) (List.length k2) .any] 2 .any], 2, .fresh⟩]⟩ (by kernel_rfl) ?_
        refine AWP.reg ?_
        refine DerQ.pre 4 ((True) ∧ (((0 : Nat) < (2 : Nat)) ∧ ((True) ∧ ((True) ∧ (True))))) ⟨[U6, (I6 d), .ptr 0 0, U6, (B6 false)] ++ UU 15 ++ [.ptr 0 0, (I6 n), (B6 (n == 0)), (B6 (n == 0))] ++ UU 21, [⟨[(I6 n), .sl [(I6 n1), tl k1, (I6 n2), tl k2] 2 .any], 2, .fresh⟩]⟩ (by kernel_rfl) ⟨trivial, ⟨(by omega), ⟨trivial, ⟨trivial, trivial⟩⟩⟩⟩ ?_
        cases h2 : (n == 0)
        · have h2' := ne_of_beq_false h2
          refine DerQ.run (TT 6) ⟨[U6, (I6 d), .ptr 0 0, U6, (B6 false)] ++ UU 15 ++ [.ptr 0 0, (I6 n), (B6 false), (B6 false), .tup [], .tup [], (B6 false), (B6 false), .tup [], .tup [], .tup [], .tup [], .tup [], .tup [], .tup [], (B6 false), (B6 false), .tup [], .tup [], .tup [], .tup [], .tup [], .tup [], .tup [], (B6 false)], [⟨[(I6 n), .sl [(I6 n1), tl k1, (I6 n2), tl k2] 2 .any], 2, .fresh⟩]⟩ (by kernel_rfl) (tt 6) ?_
          refine AWP.kill [1, 2, 20, 21, 22, 23, 24, 25, 26, 27, 28, 29, 30, 31, 32, 33, 34, 35, 36, 37, 38, 39, 40, 41, 42, 43, 44] ⟨[.undef, .undef, .undef, .undef, .sc (.bool false), .undef, .undef, .undef, .undef, .undef, .undef, .undef, .undef, .undef, .undef, .undef, .undef, .undef, .undef, .undef, .undef, .undef, .undef, .undef, .undef, .undef, .undef, .undef, .undef, .undef, .undef, .undef, .undef, .undef, .undef, .undef, .undef, .undef, .undef, .undef, .undef, .undef, .undef, .undef, .undef], [⟨[.sc (.int .i64 (n)), .sl [.sc (.int .i64 (n1)), .sl (tcs k1) (List.length k1) .any, .sc (.int .i64 (n2)), .sl (tcs k2) (List.length k2) .any] 2 .any], 2, .fresh⟩]⟩ (by kernel_rfl) ?_
          refine AWP.ret ?_
          refine EvF.fin (.sc (.bool false)) _ (by simp) (by kernel_rfl) ?_
          refine Shrink.all ?_ rfl
          (simp [roughI, *]; done)
        · have h2' := eq_of_beq h2
          refine DerQ.pre 4 (TT 4) ⟨[U6, (I6 d), .ptr 0 0, U6, (B6 false)] ++ UU 15 ++ [.ptr 0 0, (I6 n), (B6 true), (B6 true), (I6 d), (B6 (decide (d > 0))), (B6 (decide (d > 0))), (B6 (decide (d > 0)))] ++ UU 17, [⟨[(I6 n), .sl [(I6 n1), tl k1, (I6 n2), tl k2] 2 .any], 2, .fresh⟩]⟩ (by kernel_rfl) (tt 4) ?_
          cases h3 : (decide (d > 0))
          · have h3' := of_decide_eq_false h3
            refine DerQ.run (TT 4) ⟨[U6, (I6 d), .ptr 0 0, U6, (B6 false)] ++ UU 15 ++ [.ptr 0 0, (I6 n), (B6 true), (B6 true), (I6 d), (B6 false), (B6 false), (B6 false), .tup [], .tup [], .tup [], .tup [], .tup [], .tup [], .tup [], (B6 false), (B6 false), .tup [], .tup [], .tup [], .tup [], .tup [], .tup [], .tup [], (B6 false)], [⟨[(I6 n), .sl [(I6 n1), tl k1, (I6 n2), tl k2] 2 .any], 2, .fresh⟩]⟩ (by kernel_rfl) (tt 4) ?_
            refine AWP.kill [1, 2, 20, 21, 22, 23, 24, 25, 26, 27, 28, 29, 30, 31, 32, 33, 34, 35, 36, 37, 38, 39, 40, 41, 42, 43, 44] ⟨[.undef, .undef, .undef, .undef, .sc (.bool false), .undef, .undef, .undef, .undef, .undef, .undef, .undef, .undef, .undef, .undef, .undef, .undef, .undef, .undef, .undef, .undef, .undef, .undef, .undef, .undef, .undef, .undef, .undef, .undef, .undef, .undef, .undef, .undef, .undef, .undef, .undef, .undef, .undef, .undef, .undef, .undef, .undef, .undef, .undef, .undef], [⟨[.sc (.int .i64 (n)), .sl [.sc (.int .i64 (n1)), .sl (tcs k1) (List.length k1) .any, .sc (.int .i64 (n2)), .sl (tcs k2) (List.length k2) .any] 2 .any], 2, .fresh⟩]⟩ (by kernel_rfl) ?_
            refine AWP.ret ?_
            refine EvF.fin (.sc (.bool false)) _ (by simp) (by kernel_rfl) ?_
            refine Shrink.all ?_ rfl
            (simp [roughI, *]; done)
          · have h3' := of_decide_eq_true h3
            refine DerQ.pre 6 ((True) ∧ (((1 : Nat) < (2 : Nat)) ∧ (((((0 : Int) ≤ (0 : Int)) ∧ ((0 : Int) < (2 : Int))) ∧ ((2 : Nat) ≤ (4 : Nat))) ∧ (((2 : Nat) ≤ (2 : Nat)) ∧ ((True) ∧ ((True) ∧ (True))))))) ⟨[U6, (I6 d), .ptr 0 0, U6, (B6 false)] ++ UU 15 ++ [.ptr 0 0, (I6 n), (B6 true), (B6 true), (I6 d), (B6 true), (B6 true), (B6 true), .ptr 0 1, .sl [(I6 n1), tl k1, (I6 n2), tl k2] 2 .any, .dptr [(I6 n1), tl k1], .agg [(I6 n1), tl k1], (I6 d), (I6 (IntKind.wrap IntKind.i64 (d - 1)))] ++ UU 11, [⟨[(I6 n), .sl [(I6 n1), tl k1, (I6 n2), tl k2] 2 .any], 2, .fresh⟩]⟩ (by kernel_rfl) ⟨trivial, ⟨(by omega), ⟨⟨⟨(by omega), (by omega)⟩, (by omega)⟩, ⟨(by omega), ⟨trivial, ⟨trivial, trivial⟩⟩⟩⟩⟩⟩ ?_
            rw [IntWalk.i64_in (d - 1) (by omega)]
            refine DerQ.callD (ih n1 k1 (d - 1) (by (rw [size]; omega)) (by omega) (by omega)) ⟨[U6, (I6 d), .ptr 0 0, U6, (B6 false)] ++ UU 15 ++ [.ptr 0 0, (I6 n), (B6 true), (B6 true), (I6 d), (B6 true), (B6 true), (B6 true), .ptr 0 1, .sl [(I6 n1), tl k1, (I6 n2), tl k2] 2 .any, .dptr [(I6 n1), tl k1], .agg [(I6 n1), tl k1], (I6 d), (I6 (d - 1)), (B6 (roughI (d - 1) (T.mk n1 k1)))] ++ UU 10, [⟨[(I6 n), .sl [(I6 n1), tl k1, (I6 n2), tl k2] 2 .any], 2, .fresh⟩]⟩ ⟨by kernel_rfl, by kernel_rfl, by kernel_rfl⟩ ?_
            refine DerQ.pre 2 (TT 2) ⟨[U6, (I6 d), .ptr 0 0, U6, (B6 false)] ++ UU 15 ++ [.ptr 0 0, (I6 n), (B6 true), (B6 true), (I6 d), (B6 true), (B6 true), (B6 true), .ptr 0 1, .sl [(I6 n1), tl k1, (I6 n2), tl k2] 2 .any, .dptr [(I6 n1), tl k1], .agg [(I6 n1), tl k1], (I6 d), (I6 (d - 1)), (B6 (roughI (d - 1) (T.mk n1 k1))), (B6 (roughI (d - 1) (T.mk n1 k1))), (B6 (roughI (d - 1) (T.mk n1 k1)))] ++ UU 8, [⟨[(I6 n), .sl [(I6 n1), tl k1, (I6 n2), tl k2] 2 .any], 2, .fresh⟩]⟩ (by kernel_rfl) (tt 2) ?_
            cases h4 : (roughI (d - 1) (T.mk n1 k1))
            · refine DerQ.run (TT 2) ⟨[U6, (I6 d), .ptr 0 0, U6, (B6 false)] ++ UU 15 ++ [.ptr 0 0, (I6 n), (B6 true), (B6 true), (I6 d), (B6 true), (B6 true), (B6 true), .ptr 0 1, .sl [(I6 n1), tl k1, (I6 n2), tl k2] 2 .any, .dptr [(I6 n1), tl k1], .agg [(I6 n1), tl k1], (I6 d), (I6 (d - 1)), (B6 false), (B6 false), (B6 false), .tup [], .tup [], .tup [], .tup [], .tup [], .tup [], .tup [], (B6 false)], [⟨[(I6 n), .sl [(I6 n1), tl k1, (I6 n2), tl k2] 2 .any], 2, .fresh⟩]⟩ (by kernel_rfl) (tt 2) ?_
              refine AWP.kill [1, 2, 20, 21, 22, 23, 24, 25, 26, 27, 28, 29, 30, 31, 32, 33, 34, 35, 36, 37, 38, 39, 40, 41, 42, 43, 44] ⟨[.undef, .undef, .undef, .undef, .sc (.bool false), .undef, .undef, .undef, .undef, .undef, .undef, .undef, .undef, .undef, .undef, .undef, .undef, .undef, .undef, .undef, .undef, .undef, .undef, .undef, .undef, .undef, .undef, .undef, .undef, .undef, .undef, .undef, .undef, .undef, .undef, .undef, .undef, .undef, .undef, .undef, .undef, .undef, .undef, .undef, .undef], [⟨[.sc (.int .i64 (n)), .sl [.sc (.int .i64 (n1)), .sl (tcs k1) (List.length k1) .any, .sc (.int .i64 (n2)), .sl (tcs k2) (List.length k2) .any] 2 .any], 2, .fresh⟩]⟩ (by kernel_rfl) ?_
              refine AWP.ret ?_
              refine EvF.fin (.sc (.bool false)) _ (by simp) (by kernel_rfl) ?_
              refine Shrink.all ?_ rfl
              (simp [roughI, *]; done)
            · refine DerQ.pre 6 ((True) ∧ (((1 : Nat) < (2 : Nat)) ∧ (((((0 : Int) ≤ (1 : Int)) ∧ ((1 : Int) < (2 : Int))) ∧ ((4 : Nat) ≤ (4 : Nat))) ∧ (((2 : Nat) ≤ (2 : Nat)) ∧ ((True) ∧ ((True) ∧ (True))))))) ⟨[U6, (I6 d), .ptr 0 0, U6, (B6 false)] ++ UU 15 ++ [.ptr 0 0, (I6 n), (B6 true), (B6 true), (I6 d), (B6 true), (B6 true), (B6 true), .ptr 0 1, .sl [(I6 n1), tl k1, (I6 n2), tl k2] 2 .any, .dptr [(I6 n1), tl k1], .agg [(I6 n1), tl k1], (I6 d), (I6 (d - 1)), (B6 true), (B6 true), (B6 true), .ptr 0 1, .sl [(I6 n1), tl k1, (I6 n2), tl k2] 2 .any, .dptr [(I6 n2), tl k2], .agg [(I6 n2), tl k2], (I6 d), (I6 (IntKind.wrap IntKind.i64 (d - 1))), U6, .undef], [⟨[(I6 n), .sl [(I6 n1), tl k1, (I6 n2), tl k2] 2 .any], 2, .fresh⟩]⟩ (by kernel_rfl) ⟨trivial, ⟨(by omega), ⟨⟨⟨(by omega), (by omega)⟩, (by omega)⟩, ⟨(by omega), ⟨trivial, ⟨trivial, trivial⟩⟩⟩⟩⟩⟩ ?_
              rw [IntWalk.i64_in (d - 1) (by omega)]
              refine DerQ.callD (ih n2 k2 (d - 1) (by (rw [size]; omega)) (by omega) (by omega)) ⟨[U6, (I6 d), .ptr 0 0, U6, (B6 false)] ++ UU 15 ++ [.ptr 0 0, (I6 n), (B6 true), (B6 true), (I6 d), (B6 true), (B6 true), (B6 true), .ptr 0 1, .sl [(I6 n1), tl k1, (I6 n2), tl k2] 2 .any, .dptr [(I6 n1), tl k1], .agg [(I6 n1), tl k1], (I6 d), (I6 (d - 1)), (B6 true), (B6 true), (B6 true), .ptr 0 1, .sl [(I6 n1), tl k1, (I6 n2), tl k2] 2 .any, .dptr [(I6 n2), tl k2], .agg [(I6 n2), tl k2], (I6 d), (I6 (d - 1)), (B6 (roughI (d - 1) (T.mk n2 k2))), .undef], [⟨[(I6 n), .sl [(I6 n1), tl k1, (I6 n2), tl k2] 2 .any], 2, .fresh⟩]⟩ ⟨by kernel_rfl, by kernel_rfl, by kernel_rfl⟩ ?_
              refine DerQ.run (TT 2) ⟨[U6, (I6 d), .ptr 0 0, U6, (B6 (roughI (d - 1) (T.mk n2 k2)))] ++ UU 15 ++ [.ptr 0 0, (I6 n), (B6 true), (B6 true), (I6 d), (B6 true), (B6 true), (B6 true), .ptr 0 1, .sl [(I6 n1), tl k1, (I6 n2), tl k2] 2 .any, .dptr [(I6 n1), tl k1], .agg [(I6 n1), tl k1], (I6 d), (I6 (d - 1)), (B6 true), (B6 true), (B6 true), .ptr 0 1, .sl [(I6 n1), tl k1, (I6 n2), tl k2] 2 .any, .dptr [(I6 n2), tl k2], .agg [(I6 n2), tl k2], (I6 d), (I6 (d - 1)), (B6 (roughI (d - 1) (T.mk n2 k2))), (B6 (roughI (d - 1) (T.mk n2 k2)))], [⟨[(I6 n), .sl [(I6 n1), tl k1, (I6 n2), tl k2] 2 .any], 2, .fresh⟩]⟩ (by kernel_rfl) (tt 2) ?_
              refine AWP.kill [1, 2, 20, 21, 22, 23, 24, 25, 26, 27, 28, 29, 30, 31, 32, 33, 34, 35, 36, 37, 38, 39, 40, 41, 42, 43, 44] ⟨[.undef, .undef, .undef, .undef, .sc (.bool (roughI (d - 1) (T.mk n2 k2))), .undef, .undef, .undef, .undef, .undef, .undef, .undef, .undef, .undef, .undef, .undef, .undef, .undef, .undef, .undef, .undef, .undef, .undef, .undef, .undef, .undef, .undef, .undef, .undef, .undef, .undef, .undef, .undef, .undef, .undef, .undef, .undef, .undef, .undef, .undef, .undef, .undef, .undef, .undef, .undef], [⟨[.sc (.int .i64 (n)), .sl [.sc (.int .i64 (n1)), .sl (tcs k1) (List.length k1) .any, .sc (.int .i64 (n2)), .sl (tcs k2) (List.length k2) .any] 2 .any], 2, .fresh⟩]⟩ (by kernel_rfl) ?_
              refine AWP.ret ?_
              refine EvF.fin (.sc (.bool (roughI (d - 1) (T.mk n2 k2)))) _ (by simp) (by kernel_rfl) ?_
              refine Shrink.all ?_ rfl
              (simp [roughI, *]; done)
      · refine EvD.body Try.func83 rfl rfl rfl ?_
        refine AWP.seq ?_
        refine AWP.reg ?_
        refine DerQ.run (TT 2) ⟨[.agg [(I6 n), tl ks], (I6 d), .ptr 0 0, U6, (B6 false)] ++ UU 40, [⟨[(I6 n), tl ks], 2, .fresh⟩]⟩ (by kernel_rfl) (tt 2) ?_
        refine AWP.seq ?_
        refine AWP.seq ?_
        refine AWP.reg ?_
        refine DerQ.run ((True) ∧ (((1 : Nat) < (2 : Nat)) ∧ ((True) ∧ (True)))) ⟨[.agg [(I6 n), tl ks], (I6 d), .ptr 0 0, U6, (B6 false), .ptr 0 1, tl ks, (I6 (↑(List.length ks) : Int))] ++ UU 37, [⟨[(I6 n), tl ks], 2, .fresh⟩]⟩ (by kernel_rfl) ⟨trivial, ⟨(by omega), ⟨trivial, trivial⟩⟩⟩ ?_
        refine AWP.block ?_
        refine AWP.seq ?_
        refine AWP.reg ?_
        refine DerQ.run (TT 2) ⟨[.agg [(I6 n), tl ks], (I6 d), .ptr 0 0, U6, (B6 false), .ptr 0 1, tl ks, (I6 (↑(List.length ks) : Int)), (B6 ((↑(List.length ks) : Int) == 0)), (B6 ((↑(List.length ks) : Int) == 0))] ++ UU 35, [⟨[(I6 n), tl ks], 2, .fresh⟩]⟩ (by kernel_rfl) (tt 2) ?_
        refine AWP.kill [0, 5, 6, 9] ⟨[.undef, .sc (.int .i64 (d)), .ptr 0 0, .undef, .sc (.bool false), .undef, .undef, .sc (.int .i64 ((↑(List.length ks) : Int))), .sc (.bool ((↑(List.length ks) : Int) == 0)), .undef, .undef, .undef, .undef, .undef, .undef, .undef, .undef, .undef, .undef, .undef, .undef, .undef, .undef, .undef, .undef, .undef, .undef, .undef, .undef, .undef, .undef, .undef, .undef, .undef, .undef, .undef, .undef, .undef, .undef, .undef, .undef, .undef, .undef, .undef, .undef], [⟨[.sc (.int .i64 (n)), .sl (tcs ks) (List.length ks) .any], 2, .fresh⟩]⟩ (by kernel_rfl) ?_
        refine AWP.cond (b := (↑(List.length ks) : Int) == 0) (by kernel_rfl) (fun h2 => ?_) (fun h2 => ?_)
        · have h2' := eq_of_beq h2
          exfalso; omega
        · have h2' := ne_of_beq_false h2
          refine AWP.seq ?_
          refine AWP.reg ?_
          refine DerQ.run (TT 2) ⟨[U6, (I6 d), .ptr 0 0, U6, (B6 false), U6, U6, (I6 (↑(List.length ks) : Int)), (B6 ((↑(List.length ks) : Int) == 0))] ++ UU 9 ++ [(B6 ((↑(List.length ks) : Int) == 2)), (B6 ((↑(List.length ks) : Int) == 2))] ++ UU 25, [⟨[(I6 n), tl ks], 2, .fresh⟩]⟩ (by kernel_rfl) (tt 2) ?_
          refine AWP.cond (b := (↑(List.length ks) : Int) == 2) (by kernel_rfl) (fun h3 => ?_) (fun h3 => ?_)
          · have h3' := eq_of_beq h3
            exfalso; omega
          · have h3' := ne_of_beq_false h3
            refine AWP.kill [1, 2, 7, 8, 18, 19] ⟨[.undef, .undef, .undef, .undef, .sc (.bool false), .undef, .undef, .undef, .undef, .undef, .undef, .undef, .undef, .undef, .undef, .undef, .undef, .undef, .undef, .undef, .undef, .undef, .undef, .undef, .undef, .undef, .undef, .undef, .undef, .undef, .undef, .undef, .undef, .undef, .undef, .undef, .undef, .undef, .undef, .undef, .undef, .undef, .undef, .undef, .undef], [⟨[.sc (.int .i64 (n)), .sl (tcs ks) (List.length ks) .any], 2, .fresh⟩]⟩ (by kernel_rfl) ?_
            refine AWP.skip ?_
            refine AWP.seq ?_
            refine AWP.reg ?_
            refine DerQ.run ((True) ∧ (True)) ⟨[U6, U6, U6, U6, (B6 false)] ++ UU 40, [⟨[(I6 n), tl ks], 2, .fresh⟩]⟩ (by kernel_rfl) ⟨trivial, trivial⟩ ?_
            refine AWP.ret ?_
            refine EvF.fin (.sc (.bool false)) _ (by simp) (by kernel_rfl) ?_
            refine Shrink.all ?_ rfl
            (rw [rough_no e0 e2]; done)
theorem r_rough (N : Nat) : ∀ (n : Int) (ks : List T) (d : Int), size (.mk n ks) ≤ N → 0 ≤ d → d ≤ 1000 → EvD Try.prog 85 [.agg [.sc (.int .i64 n), .sl (tcs ks) ks.length .any], .sc (.int .i64 d)] (.sc (.bool (roughI d (.mk n ks)))) := by
  induction N with
  | zero => intro n ks m h; rw [size] at h; omega
  | succ N ih =>
    intro n ks d hN h0 h1
    by_cases e0 : ks.length = 0
    · obtain rfl := List.eq_nil_of_length_eq_zero e0
      refine EvD.body Try.func85 rfl rfl rfl ?_
      refine AWP.seq ?_
      refine AWP.reg ?_
      refine DerQ.run (TT 2) ⟨[.agg [(I6 n), .sl [] 0 .any], (I6 d), .ptr 0 0, U6, (B6 false)] ++ UU 43, [⟨[(I6 n), .sl [] 0 .any], 2, .fresh⟩]⟩ (by kernel_rfl) (tt 2) ?_
      refine AWP.seq ?_
      refine AWP.seq ?_
      refine AWP.reg ?_
      refine DerQ.run ((True) ∧ (((1 : Nat) < (2 : Nat)) ∧ ((True) ∧ ((True) ∧ (True))))) ⟨[.agg [(I6 n), .sl [] 0 .any], (I6 d), .ptr 0 0, U6, (B6 false), .ptr 0 1, .sl [] 0 .any, (I6 0), (B6 true)] ++ UU 39, [⟨[(I6 n), .sl [] 0 .any], 2, .fresh⟩]⟩ (by kernel_rfl) ⟨trivial, ⟨(by omega), ⟨trivial, ⟨trivial, trivial⟩⟩⟩⟩ ?_
      refine AWP.kill [0, 5, 6, 7] ⟨[.undef, .sc (.int .i64 (d)), .ptr 0 0, .undef, .sc (.bool false), .undef, .undef, .undef, .sc (.bool true), .undef, .undef, .undef, .undef, .undef, .undef, .undef, .undef, .undef, .undef, .undef, .undef, .undef, .undef, .undef, .undef, .undef, .undef, .undef, .undef, .undef, .undef, .undef, .undef, .undef, .undef, .undef, .undef, .undef, .undef, .undef, .undef, .undef, .undef, .undef, .undef, .undef, .undef, .undef], [⟨[.sc (.int .i64 (n)), .sl [] 0 .any], 2, .fresh⟩]⟩ (by kernel_rfl) ?_
      refine AWP.cond (b := true) (by kernel_rfl) (fun _ => ?_) (fun h => nomatch h)
      refine AWP.seq ?_
      refine AWP.reg ?_
      refine DerQ.pre 4 ((True) ∧ (((0 : Nat) < (2 : Nat)) ∧ ((True) ∧ ((True) ∧ (True))))) ⟨[U6, (I6 d), .ptr 0 0, U6, (B6 false), U6, U6, U6, (B6 true), .ptr 0 0, (I6 n), (B6 (n == 0)), (B6 (n == 0))] ++ UU 35, [⟨[(I6 n), .sl [] 0 .any], 2, .fresh⟩]⟩ (by kernel_rfl) ⟨trivial, ⟨(by omega), ⟨trivial, ⟨trivial, trivial⟩⟩⟩⟩ ?_
      cases h2 : (n == 0)
      · have h2' := ne_of_beq_false h2
        refine DerQ.run ((True) ∧ (((0 : Nat) < (2 : Nat)) ∧ ((True) ∧ ((True) ∧ ((True) ∧ (True)))))) ⟨[U6, (I6 d), .ptr 0 0, U6, (B6 (n == 1)), U6, U6, U6, (B6 true), .ptr 0 0, (I6 n), (B6 false), (B6 false), .ptr 0 0, (I6 n), (B6 (n == 1)), (B6 (n == 1))] ++ UU 31, [⟨[(I6 n), .sl [] 0 .any], 2, .fresh⟩]⟩ (by kernel_rfl) ⟨trivial, ⟨(by omega), ⟨trivial, ⟨trivial, ⟨trivial, trivial⟩⟩⟩⟩⟩ ?_
        refine AWP.kill [8, 9, 10, 11, 12, 13, 14, 15, 16] ⟨[.undef, .sc (.int .i64 (d)), .ptr 0 0, .undef, .sc (.bool (n == 1)), .undef, .undef, .undef, .undef, .undef, .undef, .undef, .undef, .undef, .undef, .undef, .undef, .undef, .undef, .undef, .undef, .undef, .undef, .undef, .undef, .undef, .undef, .undef, .undef, .undef, .undef, .undef, .undef, .undef, .undef, .undef, .undef, .undef, .undef, .undef, .undef, .undef, .undef, .undef, .undef, .undef, .undef, .undef], [⟨[.sc (.int .i64 (n)), .sl [] 0 .any], 2, .fresh⟩]⟩ (by kernel_rfl) ?_
        refine AWP.ret ?_
        refine EvF.fin (.sc (.bool (n == 1))) _ (by simp) (by kernel_rfl) ?_
        refine Shrink.all ?_ rfl
        (congr 2; rw [Bool.eq_iff_iff]; simp only [roughI, decide_eq_true_eq, Bool.false_eq_true, false_iff, true_iff, Bool.and_eq_true, Bool.or_eq_true, Bool.not_eq_true', Bool.not_eq_true, Bool.not_eq_false', decide_eq_false_iff_not, iff_true, iff_false, beq_iff_eq, beq_eq_false_iff_ne, ge_iff_le, gt_iff_lt, ne_eq, bne_iff_ne, not_true_eq_false, not_false_eq_true] at *; omega; done)
      · have h2' := eq_of_beq h2
        refine DerQ.run (TT 2) ⟨[U6, (I6 d), .ptr 0 0, U6, (B6 true), U6, U6, U6, (B6 true), .ptr 0 0, (I6 n), (B6 true), (B6 true), .tup [], .tup [], .tup [], (B6 true)] ++ UU 31, [⟨[(I6 n), .sl [] 0 .any], 2, .fresh⟩]⟩ (by kernel_rfl) (tt 2) ?_
        refine AWP.kill [8, 9, 10, 11, 12, 13, 14, 15, 16] ⟨[.undef, .sc (.int .i64 (d)), .ptr 0 0, .undef, .sc (.bool true), .undef, .undef, .undef, .undef, .undef, .undef, .undef, .undef, .undef, .undef, .undef, .undef, .undef, .undef, .undef, .undef, .undef, .undef, .undef, .undef, .undef, .undef, .undef, .undef, .undef, .undef, .undef, .undef, .undef, .undef, .undef, .undef, .undef, .undef, .undef, .undef, .undef, .undef, .undef, .undef, .undef, .undef, .undef], [⟨[.sc (.int .i64 (n)), .sl [] 0 .any], 2, .fresh⟩]⟩ (by kernel_rfl) ?_
        refine AWP.ret ?_
        refine EvF.fin (.sc (.bool true)) _ (by simp) (by kernel_rfl) ?_
        refine Shrink.all ?_ rfl
        (congr 2; rw [Bool.eq_iff_iff]; simp only [roughI, decide_eq_true_eq, Bool.false_eq_true, false_iff, true_iff, Bool.and_eq_true, Bool.or_eq_true, Bool.not_eq_true', Bool.not_eq_true, Bool.not_eq_false', decide_eq_false_iff_not, iff_true, iff_false, beq_iff_eq, beq_eq_false_iff_ne, ge_iff_le, gt_iff_lt, ne_eq, bne_iff_ne, not_true_eq_false, not_false_eq_true] at *; omega; done)
    · by_cases e2 : ks.length = 2
      · obtain ⟨n1, k1, n2, k2, rfl⟩ := two_of e2
        simp only [size, sizes] at hN
        rw [tcs2]
        refine EvD.body Try.func85 rfl rfl rfl ?_
        refine AWP.seq ?_
        refine AWP.reg ?_
        refine DerQ.run (TT 2) ⟨[.agg [(I6 n), .sl [(I6 n1), tl k1, (I6 n2), tl k2] 2 .any], (I6 d), .ptr 0 0, U6, (B6 false)] ++ UU 43, [⟨[(I6 n), .sl [(I6 n1), tl k1, (I6 n2), tl k2] 2 .any], 2, .fresh⟩]⟩ (by kernel_rfl) (tt 2) ?_
        refine AWP.seq ?_
        refine AWP.seq ?_
        refine AWP.reg ?_
        refine DerQ.run ((True) ∧ (((1 : Nat) < (2 : Nat)) ∧ ((True) ∧ ((True) ∧ (True))))) ⟨[.agg [(I6 n), .sl [(I6 n1), tl k1, (I6 n2), tl k2] 2 .any], (I6 d), .ptr 0 0, U6, (B6 false), .ptr 0 1, .sl [(I6 n1), tl k1, (I6 n2), tl k2] 2 .any, (I6 2), (B6 false)] ++ UU 39, [⟨[(I6 n), .sl [(I6 n1), tl k1, (I6 n2), tl k2] 2 .any], 2, .fresh⟩]⟩ (by kernel_rfl) ⟨trivial, ⟨(by omega), ⟨trivial, ⟨trivial, trivial⟩⟩⟩⟩ ?_
        refine AWP.kill [0, 5, 6, 7] ⟨[.undef, .sc (.int .i64 (d)), .ptr 0 0, .undef, .sc (.bool false), .undef, .undef, .undef, .sc (.bool false), .undef, .undef, .undef, .undef, .undef, .undef, .undef, .undef, .undef, .undef, .undef, .undef, .undef, .undef, .undef, .undef, .undef, .undef, .undef, .undef, .undef, .undef, .undef, .undef, .undef, .undef, .undef, .undef, .undef, .undef, .undef, .undef, .undef, .undef, .undef, .undef, .undef, .undef, .undef], [⟨[.sc (.int .i64 (n)), .sl [.sc (.int .i64 (n1)), .sl (tcs k1) (List.length k1) .any, .sc (.int .i64 (n2)), .sl (tcs k2) (List.length k2) .any] 2 .any], 2, .fresh⟩]⟩ (by kernel_rfl) ?_
        refine AWP.cond (b := false) (by kernel_rfl) (fun h => nomatch h) (fun _ => ?_)
        refine AWP.skip ?_
        refine AWP.seq ?_
        refine AWP.reg ?_
        refine DerQ.pre 10 ((True) ∧ (((1 : Nat) < (2 : Nat)) ∧ ((True) ∧ ((True) ∧ ((True) ∧ ((True) ∧ (((0 : Nat) < (2 : Nat)) ∧ ((True) ∧ ((True) ∧ ((True) ∧ (True))))))))))) ⟨[U6, (I6 d), .ptr 0 0, U6, (B6 false), U6, U6, U6, (B6 false)] ++ UU 8 ++ [.ptr 0 1, .sl [(I6 n1), tl k1, (I6 n2), tl k2] 2 .any, (I6 2), (B6 true), (B6 true), .ptr 0 0, (I6 n), (B6 (n == 0)), (B6 (n == 0)), (B6 (n == 0))] ++ UU 21, [⟨[(I6 n), .sl [(I6 n1), tl k1, (I6 n2), tl k2] 2 .any], 2, .fresh⟩]⟩ (by kernel_rfl) ⟨trivial, ⟨(by omega), ⟨trivial, ⟨trivial, ⟨trivial, ⟨trivial, ⟨(by omega), ⟨trivial, ⟨trivial, ⟨trivial, trivial⟩⟩⟩⟩⟩⟩⟩⟩⟩⟩ ?_
        cases h2 : (n == 0)
        · have h2' := ne_of_beq_false h2
          refine DerQ.run (TT 6) ⟨[U6, (I6 d), .ptr 0 0, U6, (B6 false), U6, U6, U6, (B6 false)] ++ UU 8 ++ [.ptr 0 1, .sl [(I6 n1), tl k1, (I6 n2), tl k2] 2 .any, (I6 2), (B6 true), (B6 true), .ptr 0 0, (I6 n), (B6 false), (B6 false), (B6 false), .tup [], .tup [], (B6 false), (B6 false), .tup [], .tup [], .tup [], .tup [], .tup [], .tup [], .tup [], (B6 false), (B6 false), .tup [], .tup [], .tup [], .tup [], .tup [], .tup [], .tup [], (B6 false)], [⟨[(I6 n), .sl [(I6 n1), tl k1, (I6 n2), tl k2] 2 .any], 2, .fresh⟩]⟩ (by kernel_rfl) (tt 6) ?_
          refine AWP.kill [1, 2, 8, 17, 18, 19, 20, 21, 22, 23, 24, 25, 26, 27, 28, 29, 30, 31, 32, 33, 34, 35, 36, 37, 38, 39, 40, 41, 42, 43, 44, 45, 46, 47] ⟨[.undef, .undef, .undef, .undef, .sc (.bool false), .undef, .undef, .undef, .undef, .undef, .undef, .undef, .undef, .undef, .undef, .undef, .undef, .undef, .undef, .undef, .undef, .undef, .undef, .undef, .undef, .undef, .undef, .undef, .undef, .undef, .undef, .undef, .undef, .undef, .undef, .undef, .undef, .undef, .undef, .undef, .undef, .undef, .undef, .undef, .undef, .undef, .undef, .undef], [⟨[.sc (.int .i64 (n)), .sl [.sc (.int .i64 (n1)), .sl (tcs k1) (List.length k1) .any, .sc (.int .i64 (n2)), .sl (tcs k2) (List.length k2) .any] 2 .any], 2, .fresh⟩]⟩ (by kernel_rfl) ?_
          refine AWP.ret ?_
          refine EvF.fin (.sc (.bool false)) _ (by simp) (by kernel_rfl) ?_
          refine Shrink.all ?_ rfl
          (simp [roughI, *]; done)
        · have h2' := eq_of_beq h2
          refine DerQ.pre 4 (TT 4) ⟨[U6, (I6 d), .ptr 0 0, U6, (B6 false), U6, U6, U6, (B6 false)] ++ UU 8 ++ [.ptr 0 1, .sl [(I6 n1), tl k1, (I6 n2), tl k2] 2 .any, (I6 2), (B6 true), (B6 true), .ptr 0 0, (I6 n), (B6 true), (B6 true), (B6 true), (I6 d), (B6 (decide (d > 0))), (B6 (decide (d > 0))), (B6 (decide (d > 0)))] ++ UU 17, [⟨[(I6 n), .sl [(I6 n1), tl k1, (I6 n2), tl k2] 2 .any], 2, .fresh⟩]⟩ (by kernel_rfl) (tt 4) ?_
          cases h3 : (decide (d > 0))
          · have h3' := of_decide_eq_false h3
            refine DerQ.run (TT 4) ⟨[U6, (I6 d), .ptr 0 0, U6, (B6 false), U6, U6, U6, (B6 false)] ++ UU 8 ++ [.ptr 0 1, .sl [(I6 n1), tl k1, (I6 n2), tl k2] 2 .any, (I6 2), (B6 true), (B6 true), .ptr 0 0, (I6 n), (B6 true), (B6 true), (B6 true), (I6 d), (B6 false), (B6 false), (B6 false), .tup [], .tup [], .tup [], .tup [], .tup [], .tup [], .tup [], (B6 false), (B6 false), .tup [], .tup [], .tup [], .tup [], .tup [], .tup [], .tup [], (B6 false)], [⟨[(I6 n), .sl [(I6 n1), tl k1, (I6 n2), tl k2] 2 .any], 2, .fresh⟩]⟩ (by kernel_rfl) (tt 4) ?_
            refine AWP.kill [1, 2, 8, 17, 18, 19, 20, 21, 22, 23, 24, 25, 26, 27, 28, 29, 30, 31, 32, 33, 34, 35, 36, 37, 38, 39, 40, 41, 42, 43, 44, 45, 46, 47] ⟨[.undef, .undef, .undef, .undef, .sc (.bool false), .undef, .undef, .undef, .undef, .undef, .undef, .undef, .undef, .undef, .undef, .undef, .undef, .undef, .undef, .undef, .undef, .undef, .undef, .undef, .undef, .undef, .undef, .undef, .undef, .undef, .undef, .undef, .undef, .undef, .undef, .undef, .undef, .undef, .undef, .undef, .undef, .undef, .undef, .undef, .undef, .undef, .undef, .undef], [⟨[.sc (.int .i64 (n)), .sl [.sc (.int .i64 (n1)), .sl (tcs k1) (List.length k1) .any, .sc (.int .i64 (n2)), .sl (tcs k2) (List.length k2) .any] 2 .any], 2, .fresh⟩]⟩ (by kernel_rfl) ?_
            refine AWP.ret ?_
            refine EvF.fin (.sc (.bool false)) _ (by simp) (by kernel_rfl) ?_
            refine Shrink.all ?_ rfl
            (simp [roughI, *]; done)
          · have h3' := of_decide_eq_true h3
            refine DerQ.pre 6 ((True) ∧ (((1 : Nat) < (2 : Nat)) ∧ (((((0 : Int) ≤ (0 : Int)) ∧ ((0 : Int) < (2 : Int))) ∧ ((2 : Nat) ≤ (4 : Nat))) ∧ (((2 : Nat) ≤ (2 : Nat)) ∧ ((True) ∧ ((True) ∧ (True))))))) ⟨[U6, (I6 d), .ptr 0 0, U6, (B6 false), U6, U6, U6, (B6 false)] ++ UU 8 ++ [.ptr 0 1, .sl [(I6 n1), tl k1, (I6 n2), tl k2] 2 .any, (I6 2), (B6 true), (B6 true), .ptr 0 0, (I6 n), (B6 true), (B6 true), (B6 true), (I6 d), (B6 true), (B6 true), (B6 true), .ptr 0 1, .sl [(I6 n1), tl k1, (I6 n2), tl k2] 2 .any, .dptr [(I6 n1), tl k1], .agg [(I6 n1), tl k1], (I6 d), (I6 (IntKind.wrap IntKind.i64 (d - 1)))] ++ UU 11, [⟨[(I6 n), .sl [(I6 n1), tl k1, (I6 n2), tl k2] 2 .any], 2, .fresh⟩]⟩ (by kernel_rfl) ⟨trivial, ⟨(by omega), ⟨⟨⟨(by omega), (by omega)⟩, (by omega)⟩, ⟨(by omega), ⟨trivial, ⟨trivial, trivial⟩⟩⟩⟩⟩⟩ ?_
            rw [IntWalk.i64_in (d - 1) (by omega)]
            refine DerQ.callD (ih n1 k1 (d - 1) (by (rw [size]; omega)) (by omega) (by omega)) ⟨[U6, (I6 d), .ptr 0 0, U6, (B6 false), U6, U6, U6, (B6 false)] ++ UU 8 ++ [.ptr 0 1, .sl [(I6 n1), tl k1, (I6 n2), tl k2] 2 .any, (I6 2), (B6 true), (B6 true), .ptr 0 0, (I6 n), (B6 true), (B6 true), (B6 true), (I6 d), (B6 true), (B6 true), (B6 true), .ptr 0 1, .sl [(I6 n1), tl k1, (I6 n2), tl k2] 2 .any, .dptr [(I6 n1), tl k1], .agg [(I6 n1), tl k1], (I6 d), (I6 (d - 1)), (B6 (roughI (d - 1) (T.mk n1 k1)))] ++ UU 10, [⟨[(I6 n), .sl [(I6 n1), tl k1, (I6 n2), tl k2] 2 .any], 2, .fresh⟩]⟩ ⟨by kernel_rfl, by kernel_rfl, by kernel_rfl⟩ ?_
            refine DerQ.pre 2 (TT 2) ⟨[U6, (I6 d), .ptr 0 0, U6, (B6 false), U6, U6, U6, (B6 false)] ++ UU 8 ++ [.ptr 0 1, .sl [(I6 n1), tl k1, (I6 n2), tl k2] 2 .any, (I6 2), (B6 true), (B6 true), .ptr 0 0, (I6 n), (B6 true), (B6 true), (B6 true), (I6 d), (B6 true), (B6 true), (B6 true), .ptr 0 1, .sl [(I6 n1), tl k1, (I6 n2), tl k2] 2 .any, .dptr [(I6 n1), tl k1], .agg [(I6 n1), tl k1], (I6 d), (I6 (d - 1)), (B6 (roughI (d - 1) (T.mk n1 k1))), (B6 (roughI (d - 1) (T.mk n1 k1))), (B6 (roughI (d - 1) (T.mk n1 k1)))] ++ UU 8, [⟨[(I6 n), .sl [(I6 n1), tl k1, (I6 n2), tl k2] 2 .any], 2, .fresh⟩]⟩ (by kernel_rfl) (tt 2) ?_
            cases h4 : (roughI (d - 1) (T.mk n1 k1))
            · refine DerQ.run (TT 2) ⟨[U6, (I6 d), .ptr 0 0, U6, (B6 false), U6, U6, U6, (B6 false)] ++ UU 8 ++ [.ptr 0 1, .sl [(I6 n1), tl k1, (I6 n2), tl k2] 2 .any, (I6 2), (B6 true), (B6 true), .ptr 0 0, (I6 n), (B6 true), (B6 true), (B6 true), (I6 d), (B6 true), (B6 true), (B6 true), .ptr 0 1, .sl [(I6 n1), tl k1, (I6 n2), tl k2] 2 .any, .dptr [(I6 n1), tl k1], .agg [(I6 n1), tl k1], (I6 d), (I6 (d - 1)), (B6 false), (B6 false), (B6 false), .tup [], .tup [], .tup [], .tup [], .tup [], .tup [], .tup [], (B6 false)], [⟨[(I6 n), .sl [(I6 n1), tl k1, (I6 n2), tl k2] 2 .any], 2, .fresh⟩]⟩ (by kernel_rfl) (tt 2) ?_
              refine AWP.kill [1, 2, 8, 17, 18, 19, 20, 21, 22, 23, 24, 25, 26, 27, 28, 29, 30, 31, 32, 33, 34, 35, 36, 37, 38, 39, 40, 41, 42, 43, 44, 45, 46, 47] ⟨[.undef, .undef, .undef, .undef, .sc (.bool false), .undef, .undef, .undef, .undef, .undef, .undef, .undef, .undef, .undef, .undef, .undef, .undef, .undef, .undef, .undef, .undef, .undef, .undef, .undef, .undef, .undef, .undef, .undef, .undef, .undef, .undef, .undef, .undef, .undef, .undef, .undef, .undef, .undef, .undef, .undef, .undef, .undef, .undef, .undef, .undef, .undef, .undef, .undef], [⟨[.sc (.int .i64 (n)), .sl [.sc (.int .i64 (n1)), .sl (tcs k1) (List.length k1) .any, .sc (.int .i64 (n2)), .sl (tcs k2) (List.length k2) .any] 2 .any], 2, .fresh⟩]⟩ (by kernel_rfl) ?_
              refine AWP.ret ?_
              refine EvF.fin (.sc (.bool false)) _ (by simp) (by kernel_rfl) ?_
              refine Shrink.all ?_ rfl
              (simp [roughI, *]; done)
            · refine DerQ.pre 6 ((True) ∧ (((1 : Nat) < (2 : Nat)) ∧ (((((0 : Int) ≤ (1 : Int)) ∧ ((1 : Int) < (2 : Int))) ∧ ((4 : Nat) ≤ (4 : Nat))) ∧ (((2 : Nat) ≤ (2 : Nat)) ∧ ((True) ∧ ((True) ∧ (True))))))) ⟨[U6, (I6 d), .ptr 0 0, U6, (B6 false), U6, U6, U6, (B6 false)] ++ UU 8 ++ [.ptr 0 1, .sl [(I6 n1), tl k1, (I6 n2), tl k2] 2 .any, (I6 2), (B6 true), (B6 true), .ptr 0 0, (I6 n), (B6 true), (B6 true), (B6 true), (I6 d), (B6 true), (B6 true), (B6 true), .ptr 0 1, .sl [(I6 n1), tl k1, (I6 n2), tl k2] 2 .any, .dptr [(I6 n1), tl k1], .agg [(I6 n1), tl k1], (I6 d), (I6 (d - 1)), (B6 true), (B6 true), (B6 true), .ptr 0 1, .sl [(I6 n1), tl k1, (I6 n2), tl k2] 2 .any, .dptr [(I6 n2), tl k2], .agg [(I6 n2), tl k2], (I6 d), (I6 (IntKind.wrap IntKind.i64 (d - 1))), U6, .undef], [⟨[(I6 n), .sl [(I6 n1), tl k1, (I6 n2), tl k2] 2 .any], 2, .fresh⟩]⟩ (by kernel_rfl) ⟨trivial, ⟨(by omega), ⟨⟨⟨(by omega), (by omega)⟩, (by omega)⟩, ⟨(by omega), ⟨trivial, ⟨trivial, trivial⟩⟩⟩⟩⟩⟩ ?_
              rw [IntWalk.i64_in (d - 1) (by omega)]
              refine DerQ.callD (ih n2 k2 (d - 1) (by (rw [size]; omega)) (by omega) (by omega)) ⟨[U6, (I6 d), .ptr 0 0, U6, (B6 false), U6, U6, U6, (B6 false)] ++ UU 8 ++ [.ptr 0 1, .sl [(I6 n1), tl k1, (I6 n2), tl k2] 2 .any, (I6 2), (B6 true), (B6 true), .ptr 0 0, (I6 n), (B6 true), (B6 true), (B6 true), (I6 d), (B6 true), (B6 true), (B6 true), .ptr 0 1, .sl [(I6 n1), tl k1, (I6 n2), tl k2] 2 .any, .dptr [(I6 n1), tl k1], .agg [(I6 n1), tl k1], (I6 d), (I6 (d - 1)), (B6 true), (B6 true), (B6 true), .ptr 0 1, .sl [(I6 n1), tl k1, (I6 n2), tl k2] 2 .any, .dptr [(I6 n2), tl k2], .agg [(I6 n2), tl k2], (I6 d), (I6 (d - 1)), (B6 (roughI (d - 1) (T.mk n2 k2))), .undef], [⟨[(I6 n), .sl [(I6 n1), tl k1, (I6 n2), tl k2] 2 .any], 2, .fresh⟩]⟩ ⟨by kernel_rfl, by kernel_rfl, by kernel_rfl⟩ ?_
              refine DerQ.run (TT 2) ⟨[U6, (I6 d), .ptr 0 0, U6, (B6 (roughI (d - 1) (T.mk n2 k2))), U6, U6, U6, (B6 false)] ++ UU 8 ++ [.ptr 0 1, .sl [(I6 n1), tl k1, (I6 n2), tl k2] 2 .any, (I6 2), (B6 true), (B6 true), .ptr 0 0, (I6 n), (B6 true), (B6 true), (B6 true), (I6 d), (B6 true), (B6 true), (B6 true), .ptr 0 1, .sl [(I6 n1), tl k1, (I6 n2), tl k2] 2 .any, .dptr [(I6 n1), tl k1], .agg [(I6 n1), tl k1], (I6 d), (I6 (d - 1)), (B6 true), (B6 true), (B6 true), .ptr 0 1, .sl [(I6 n1), tl k1, (I6 n2), tl k2] 2 .any, .dptr [(I6 n2), tl k2], .agg [(I6 n2), tl k2], (I6 d), (I6 (d - 1)), (B6 (roughI (d - 1) (T.mk n2 k2))), (B6 (roughI (d - 1) (T.mk n2 k2)))], [⟨[(I6 n), .sl [(I6 n1), tl k1, (I6 n2), tl k2] 2 .any], 2, .fresh⟩]⟩ (by kernel_rfl) (tt 2) ?_
              refine AWP.kill [1, 2, 8, 17, 18, 19, 20, 21, 22, 23, 24, 25, 26, 27, 28, 29, 30, 31, 32, 33, 34, 35, 36, 37, 38, 39, 40, 41, 42, 43, 44, 45, 46, 47] ⟨[.undef, .undef, .undef, .undef, .sc (.bool (roughI (d - 1) (T.mk n2 k2))), .undef, .undef, .undef, .undef, .undef, .undef, .undef, .undef, .undef, .undef, .undef, .undef, .undef, .undef, .undef, .undef, .undef, .undef, .undef, .undef, .undef, .undef, .undef, .undef, .undef, .undef, .undef, .undef, .undef, .undef, .undef, .undef, .undef, .undef, .undef, .undef, .undef, .undef, .undef, .undef, .undef, .undef, .undef], [⟨[.sc (.int .i64 (n)), .sl [.sc (.int .i64 (n1)), .sl (tcs k1) (List.length k1) .any, .sc (.int .i64 (n2)), .sl (tcs k2) (List.length k2) .any] 2 .any], 2, .fresh⟩]⟩ (by kernel_rfl) ?_
              refine AWP.ret ?_
              refine EvF.fin (.sc (.bool (roughI (d - 1) (T.mk n2 k2)))) _ (by simp) (by kernel_rfl) ?_
              refine Shrink.all ?_ rfl
              (simp [roughI, *]; done)
      · refine EvD.body Try.func85 rfl rfl rfl ?_
        refine AWP.seq ?_
        refine AWP.reg ?_
        refine DerQ.run (TT 2) ⟨[.agg [(I6 n), tl ks], (I6 d), .ptr 0 0, U6, (B6 false)] ++ UU 43, [⟨[(I6 n), tl ks], 2, .fresh⟩]⟩ (by kernel_rfl) (tt 2) ?_
        refine AWP.seq ?_
        refine AWP.seq ?_
        refine AWP.reg ?_
        refine DerQ.run ((True) ∧ (((1 : Nat) < (2 : Nat)) ∧ ((True) ∧ ((True) ∧ (True))))) ⟨[.agg [(I6 n), tl ks], (I6 d), .ptr 0 0, U6, (B6 false), .ptr 0 1, tl ks, (I6 (↑(List.length ks) : Int)), (B6 ((↑(List.length ks) : Int) == 0))] ++ UU 39, [⟨[(I6 n), tl ks], 2, .fresh⟩]⟩ (by kernel_rfl) ⟨trivial, ⟨(by omega), ⟨trivial, ⟨trivial, trivial⟩⟩⟩⟩ ?_
        refine AWP.kill [0, 5, 6, 7] ⟨[.undef, .sc (.int .i64 (d)), .ptr 0 0, .undef, .sc (.bool false), .undef, .undef, .undef, .sc (.bool ((↑(List.length ks) : Int) == 0)), .undef, .undef, .undef, .undef, .undef, .undef, .undef, .undef, .undef, .undef, .undef, .undef, .undef, .undef, .undef, .undef, .undef, .undef, .undef, .undef, .undef, .undef, .undef, .undef, .undef, .undef, .undef, .undef, .undef, .undef, .undef, .undef, .undef, .undef, .undef, .undef, .undef, .undef, .undef], [⟨[.sc (.int .i64 (n)), .sl (tcs ks) (List.length ks) .any], 2, .fresh⟩]⟩ (by kernel_rfl) ?_
        refine AWP.cond (b := (↑(List.length ks) : Int) == 0) (by kernel_rfl) (fun h2 => ?_) (fun h2 => ?_)
        · have h2' := eq_of_beq h2
          exfalso; omega
        · have h2' := ne_of_beq_false h2
          refine AWP.skip ?_
          refine AWP.seq ?_
          refine AWP.reg ?_
          refine DerQ.pre 5 ((True) ∧ (((1 : Nat) < (2 : Nat)) ∧ ((True) ∧ ((True) ∧ ((True) ∧ (True)))))) ⟨[U6, (I6 d), .ptr 0 0, U6, (B6 false), U6, U6, U6, (B6 ((↑(List.length ks) : Int) == 0))] ++ UU 8 ++ [.ptr 0 1, tl ks, (I6 (↑(List.length ks) : Int)), (B6 ((↑(List.length ks) : Int) == 2)), (B6 ((↑(List.length ks) : Int) == 2))] ++ UU 26, [⟨[(I6 n), tl ks], 2, .fresh⟩]⟩ (by kernel_rfl) ⟨trivial, ⟨(by omega), ⟨trivial, ⟨trivial, ⟨trivial, trivial⟩⟩⟩⟩⟩ ?_
          cases h3 : ((↑(List.length ks) : Int) == 2)
          · have h3' := ne_of_beq_false h3
            refine DerQ.run (TT 8) ⟨[U6, (I6 d), .ptr 0 0, U6, (B6 false), U6, U6, U6, (B6 ((↑(List.length ks) : Int) == 0))] ++ UU 8 ++ [.ptr 0 1, tl ks, (I6 (↑(List.length ks) : Int)), (B6 false), (B6 false), .tup [], .tup [], .tup [], (B6 false), (B6 false), .tup [], .tup [], (B6 false), (B6 false), .tup [], .tup [], .tup [], .tup [], .tup [], .tup [], .tup [], (B6 false), (B6 false), .tup [], .tup [], .tup [], .tup [], .tup [], .tup [], .tup [], (B6 false)], [⟨[(I6 n), tl ks], 2, .fresh⟩]⟩ (by kernel_rfl) (tt 8) ?_
            refine AWP.kill [1, 2, 8, 17, 18, 19, 20, 21, 22, 23, 24, 25, 26, 27, 28, 29, 30, 31, 32, 33, 34, 35, 36, 37, 38, 39, 40, 41, 42, 43, 44, 45, 46, 47] ⟨[.undef, .undef, .undef, .undef, .sc (.bool false), .undef, .undef, .undef, .undef, .undef, .undef, .undef, .undef, .undef, .undef, .undef, .undef, .undef, .undef, .undef, .undef, .undef, .undef, .undef, .undef, .undef, .undef, .undef, .undef, .undef, .undef, .undef, .undef, .undef, .undef, .undef, .undef, .undef, .undef, .undef, .undef, .undef, .undef, .undef, .undef, .undef, .undef, .undef], [⟨[.sc (.int .i64 (n)), .sl (tcs ks) (List.length ks) .any], 2, .fresh⟩]⟩ (by kernel_rfl) ?_
            refine AWP.ret ?_
            refine EvF.fin (.sc (.bool false)) _ (by simp) (by kernel_rfl) ?_
            refine Shrink.all ?_ rfl
            (rw [rough_no e0 e2]; done)
          · have h3' := eq_of_beq h3
            exfalso; omega
theorem short (a b : Int) (c d : List T) : EvD Try.prog 113 [.agg [.sc (.int .i64 a), .sl (tcs c) c.length .any], .agg [.sc (.int .i64 b), .sl (tcs d) d.length .any]] (ag (shortI (.mk a c) (.mk b d))) := by
  refine EvD.body Try.func113 rfl rfl rfl ?_
  refine AWP.seq ?_
  refine AWP.reg ?_
  refine DerQ.run (TT 3) ⟨[.agg [(I6 a), tl c], .agg [(I6 b), tl d], .ptr 0 0, .ptr 1 0, .ptr 2 0] ++ UU 14, [⟨[(I6 a), tl c], 2, .fresh⟩, ⟨[(I6 b), tl d], 2, .fresh⟩, ⟨[(I6 0), .sl [] 0 .nil], 2, .fresh⟩]⟩ (by kernel_rfl) (tt 3) ?_
  refine AWP.seq ?_
  refine AWP.seq ?_
  refine AWP.reg ?_
  refine DerQ.pre 5 ((True) ∧ (((1 : Nat) < (2 : Nat)) ∧ ((True) ∧ ((True) ∧ ((True) ∧ (True)))))) ⟨[.agg [(I6 a), tl c], .agg [(I6 b), tl d], .ptr 0 0, .ptr 1 0, .ptr 2 0, .ptr 0 1, tl c, (I6 (↑(List.length c) : Int)), (B6 ((↑(List.length c) : Int) == 0)), (B6 ((↑(List.length c) : Int) == 0))] ++ UU 9, [⟨[(I6 a), tl c], 2, .fresh⟩, ⟨[(I6 b), tl d], 2, .fresh⟩, ⟨[(I6 0), .sl [] 0 .nil], 2, .fresh⟩]⟩ (by kernel_rfl) ⟨trivial, ⟨(by omega), ⟨trivial, ⟨trivial, ⟨trivial, trivial⟩⟩⟩⟩⟩ ?_
  cases h1 : ((↑(List.length c) : Int) == 0)
  · have h1' := ne_of_beq_false h1
    refine DerQ.run ((True) ∧ (True)) ⟨[.agg [(I6 a), tl c], .agg [(I6 b), tl d], .ptr 0 0, .ptr 1 0, .ptr 2 0, .ptr 0 1, tl c, (I6 (↑(List.length c) : Int)), (B6 false), (B6 false), .tup [], .tup [], .tup [], .tup [], (B6 false), U6, U6, U6, .undef], [⟨[(I6 a), tl c], 2, .fresh⟩, ⟨[(I6 b), tl d], 2, .fresh⟩, ⟨[(I6 0), .sl [] 0 .nil], 2, .fresh⟩]⟩ (by kernel_rfl) ⟨trivial, trivial⟩ ?_
    refine AWP.kill [0, 1, 5, 6, 7, 8, 9, 10, 11, 12, 13] ⟨[.undef, .undef, .ptr 0 0, .ptr 1 0, .ptr 2 0, .undef, .undef, .undef, .undef, .undef, .undef, .undef, .undef, .undef, .sc (.bool false), .undef, .undef, .undef, .undef], [⟨[.sc (.int .i64 (a)), .sl (tcs c) (List.length c) .any], 2, .fresh⟩, ⟨[.sc (.int .i64 (b)), .sl (tcs d) (List.length d) .any], 2, .fresh⟩, ⟨[.sc (.int .i64 0), .sl [] 0 .nil], 2, .fresh⟩]⟩ (by kernel_rfl) ?_
    refine AWP.cond (b := false) (by kernel_rfl) (fun h => nomatch h) (fun _ => ?_)
    refine AWP.skip ?_
    refine AWP.seq ?_
    refine AWP.reg ?_
    refine DerQ.pre 2 (((2 : Nat) ≤ (2 : Nat)) ∧ (((2 : Nat) ≤ (2 : Nat)) ∧ (True))) ⟨[U6, U6, .ptr 0 0, .ptr 1 0, .ptr 2 0] ++ UU 9 ++ [(B6 false), U6, .agg [(I6 a), tl c], .agg [(I6 b), tl d], .undef], [⟨[(I6 a), tl c], 2, .fresh⟩, ⟨[(I6 b), tl d], 2, .fresh⟩, ⟨[(I6 0), .sl [] 0 .nil], 2, .fresh⟩]⟩ (by kernel_rfl) ⟨(by omega), ⟨(by omega), trivial⟩⟩ ?_
    refine DerQ.callD (inner a b (tcs c) (tcs d) (List.length c) (List.length d)) ⟨[U6, U6, .ptr 0 0, .ptr 1 0, .ptr 2 0] ++ UU 9 ++ [(B6 false), U6, .agg [(I6 a), tl c], .agg [(I6 b), tl d], .agg [(I6 0), .sl [(I6 a), tl c, (I6 b), tl d] 2 .any]], [⟨[(I6 a), tl c], 2, .fresh⟩, ⟨[(I6 b), tl d], 2, .fresh⟩, ⟨[(I6 0), .sl [] 0 .nil], 2, .fresh⟩]⟩ ⟨by kernel_rfl, by kernel_rfl, by kernel_rfl⟩ ?_
    refine DerQ.run (((2 : Nat) ≤ (2 : Nat)) ∧ (True)) ⟨[U6, U6, .ptr 0 0, .ptr 1 0, .ptr 2 0] ++ UU 9 ++ [(B6 false), U6, .agg [(I6 a), tl c], .agg [(I6 b), tl d], .agg [(I6 0), .sl [(I6 a), tl c, (I6 b), tl d] 2 .any]], [⟨[(I6 a), tl c], 2, .fresh⟩, ⟨[(I6 b), tl d], 2, .fresh⟩, ⟨[(I6 0), .sl [(I6 a), tl c, (I6 b), tl d] 2 .any], 2, .fresh⟩]⟩ (by kernel_rfl) ⟨(by omega), trivial⟩ ?_
    refine AWP.kill [2, 3, 14, 16, 17, 18] ⟨[.undef, .undef, .undef, .undef, .ptr 2 0, .undef, .undef, .undef, .undef, .undef, .undef, .undef, .undef, .undef, .undef, .undef, .undef, .undef, .undef], [⟨[.sc (.int .i64 (a)), .sl (tcs c) (List.length c) .any], 2, .fresh⟩, ⟨[.sc (.int .i64 (b)), .sl (tcs d) (List.length d) .any], 2, .fresh⟩, ⟨[.sc (.int .i64 0), .sl [.sc (.int .i64 (a)), .sl (tcs c) (List.length c) .any, .sc (.int .i64 (b)), .sl (tcs d) (List.length d) .any] 2 .any], 2, .fresh⟩]⟩ (by kernel_rfl) ?_
    refine AWP.ret ?_
    refine EvF.fin (.agg [.sc (.int .i64 0), .sl [.sc (.int .i64 (a)), .sl (tcs c) (List.length c) .any, .sc (.int .i64 (b)), .sl (tcs d) (List.length d) .any] 2 .any]) _ (by simp) (by kernel_rfl) ?_
    refine Shrink.dataK [] (True) (.agg [.sc (.int .i64 0), .sl [.sc (.int .i64 (a)), .sl (tcs c) (List.length c) .any, .sc (.int .i64 (b)), .sl (tcs d) (List.length d) .any] 2 .any]) (by kernel_rfl) trivial ?_ rfl
    (rw [short_no (by simp only [T.ks_mk, T.n_mk, isT]; omega)]; rfl; done)
  · have h1' := eq_of_beq h1
    refine DerQ.pre 3 (((2 : Nat) ≤ (2 : Nat)) ∧ ((True) ∧ (((0 : Nat) < (2 : Nat)) ∧ (True)))) ⟨[.agg [(I6 a), tl c], .agg [(I6 b), tl d], .ptr 0 0, .ptr 1 0, .ptr 2 0, .ptr 0 1, tl c, (I6 (↑(List.length c) : Int)), (B6 true), (B6 true), .agg [(I6 b), tl d], .ptr 0 0, (I6 a)] ++ UU 6, [⟨[(I6 a), tl c], 2, .fresh⟩, ⟨[(I6 b), tl d], 2, .fresh⟩, ⟨[(I6 0), .sl [] 0 .nil], 2, .fresh⟩]⟩ (by kernel_rfl) ⟨(by omega), ⟨trivial, ⟨(by omega), trivial⟩⟩⟩ ?_
    refine DerQ.callD (is b a (tcs d) (List.length d)) ⟨[.agg [(I6 a), tl c], .agg [(I6 b), tl d], .ptr 0 0, .ptr 1 0, .ptr 2 0, .ptr 0 1, tl c, (I6 (↑(List.length c) : Int)), (B6 true), (B6 true), .agg [(I6 b), tl d], .ptr 0 0, (I6 a), (B6 (decide (List.length d = 0 ∧ b = a)))] ++ UU 5, [⟨[(I6 a), tl c], 2, .fresh⟩, ⟨[(I6 b), tl d], 2, .fresh⟩, ⟨[(I6 0), .sl [] 0 .nil], 2, .fresh⟩]⟩ ⟨by kernel_rfl, by kernel_rfl, by kernel_rfl⟩ ?_
    refine DerQ.run ((True) ∧ (True)) ⟨[.agg [(I6 a), tl c], .agg [(I6 b), tl d], .ptr 0 0, .ptr 1 0, .ptr 2 0, .ptr 0 1, tl c, (I6 (↑(List.length c) : Int)), (B6 true), (B6 true), .agg [(I6 b), tl d], .ptr 0 0, (I6 a), (B6 (decide (List.length d = 0 ∧ b = a))), (B6 (decide (List.length d = 0 ∧ b = a))), U6, U6, U6, .undef], [⟨[(I6 a), tl c], 2, .fresh⟩, ⟨[(I6 b), tl d], 2, .fresh⟩, ⟨[(I6 0), .sl [] 0 .nil], 2, .fresh⟩]⟩ (by kernel_rfl) ⟨trivial, trivial⟩ ?_
    refine AWP.kill [0, 1, 5, 6, 7, 8, 9, 10, 11, 12, 13] ⟨[.undef, .undef, .ptr 0 0, .ptr 1 0, .ptr 2 0, .undef, .undef, .undef, .undef, .undef, .undef, .undef, .undef, .undef, .sc (.bool (decide (List.length d = 0 ∧ b = a))), .undef, .undef, .undef, .undef], [⟨[.sc (.int .i64 (a)), .sl (tcs c) (List.length c) .any], 2, .fresh⟩, ⟨[.sc (.int .i64 (b)), .sl (tcs d) (List.length d) .any], 2, .fresh⟩, ⟨[.sc (.int .i64 0), .sl [] 0 .nil], 2, .fresh⟩]⟩ (by kernel_rfl) ?_
    refine AWP.cond (b := decide (List.length d = 0 ∧ b = a)) (by kernel_rfl) (fun h2 => ?_) (fun h2 => ?_)
    · have h2' := of_decide_eq_true h2
      refine AWP.seq ?_
      refine AWP.reg ?_
      refine DerQ.run (((2 : Nat) ≤ (2 : Nat)) ∧ (((2 : Nat) ≤ (2 : Nat)) ∧ (True))) ⟨[U6, U6, .ptr 0 0, .ptr 1 0, .ptr 2 0] ++ UU 9 ++ [(B6 (decide (List.length d = 0 ∧ b = a))), .agg [(I6 a), tl c], U6, U6, .undef], [⟨[(I6 a), tl c], 2, .fresh⟩, ⟨[(I6 b), tl d], 2, .fresh⟩, ⟨[(I6 a), tl c], 2, .fresh⟩]⟩ (by kernel_rfl) ⟨(by omega), ⟨(by omega), trivial⟩⟩ ?_
      refine AWP.ret ?_
      refine EvF.fin (.agg [.sc (.int .i64 (a)), .sl (tcs c) (List.length c) .any]) _ (by simp) (by kernel_rfl) ?_
      refine Shrink.dataK [] (True) (.agg [.sc (.int .i64 (a)), .sl (tcs c) (List.length c) .any]) (by kernel_rfl) trivial ?_ rfl
      (rw [short_yes (by simp only [T.ks_mk, T.n_mk, isT]; omega)]; rfl; done)
    · have h2' := of_decide_eq_false h2
      refine AWP.skip ?_
      refine AWP.seq ?_
      refine AWP.reg ?_
      refine DerQ.pre 2 (((2 : Nat) ≤ (2 : Nat)) ∧ (((2 : Nat) ≤ (2 : Nat)) ∧ (True))) ⟨[U6, U6, .ptr 0 0, .ptr 1 0, .ptr 2 0] ++ UU 9 ++ [(B6 (decide (List.length d = 0 ∧ b = a))), U6, .agg [(I6 a), tl c], .agg [(I6 b), tl d], .undef], [⟨[(I6 a), tl c], 2, .fresh⟩, ⟨[(I6 b), tl d], 2, .fresh⟩, ⟨[(I6 0), .sl [] 0 .nil], 2, .fresh⟩]⟩ (by kernel_rfl) ⟨(by omega), ⟨(by omega), trivial⟩⟩ ?_
      refine DerQ.callD (inner a b (tcs c) (tcs d) (List.length c) (List.length d)) ⟨[U6, U6, .ptr 0 0, .ptr 1 0, .ptr 2 0] ++ UU 9 ++ [(B6 (decide (List.length d = 0 ∧ b = a))), U6, .agg [(I6 a), tl c], .agg [(I6 b), tl d], .agg [(I6 0), .sl [(I6 a), tl c, (I6 b), tl d] 2 .any]], [⟨[(I6 a), tl c], 2, .fresh⟩, ⟨[(I6 b), tl d], 2, .fresh⟩, ⟨[(I6 0), .sl [] 0 .nil], 2, .fresh⟩]⟩ ⟨by kernel_rfl, by kernel_rfl, by kernel_rfl⟩ ?_
      refine DerQ.run (((2 : Nat) ≤ (2 : Nat)) ∧ (True)) ⟨[U6, U6, .ptr 0 0, .ptr 1 0, .ptr 2 0] ++ UU 9 ++ [(B6 (decide (List.length d = 0 ∧ b = a))), U6, .agg [(I6 a), tl c], .agg [(I6 b), tl d], .agg [(I6 0), .sl [(I6 a), tl c, (I6 b), tl d] 2 .any]], [⟨[(I6 a), tl c], 2, .fresh⟩, ⟨[(I6 b), tl d], 2, .fresh⟩, ⟨[(I6 0), .sl [(I6 a), tl c, (I6 b), tl d] 2 .any], 2, .fresh⟩]⟩ (by kernel_rfl) ⟨(by omega), trivial⟩ ?_
      refine AWP.kill [2, 3, 14, 16, 17, 18] ⟨[.undef, .undef, .undef, .undef, .ptr 2 0, .undef, .undef, .undef, .undef, .undef, .undef, .undef, .undef, .undef, .undef, .undef, .undef, .undef, .undef], [⟨[.sc (.int .i64 (a)), .sl (tcs c) (List.length c) .any], 2, .fresh⟩, ⟨[.sc (.int .i64 (b)), .sl (tcs d) (List.length d) .any], 2, .fresh⟩, ⟨[.sc (.int .i64 0), .sl [.sc (.int .i64 (a)), .sl (tcs c) (List.length c) .any, .sc (.int .i64 (b)), .sl (tcs d) (List.length d) .any] 2 .any], 2, .fresh⟩]⟩ (by kernel_rfl) ?_
      refine AWP.ret ?_
      refine EvF.fin (.agg [.sc (.int .i64 0), .sl [.sc (.int .i64 (a)), .sl (tcs c) (List.length c) .any, .sc (.int .i64 (b)), .sl (tcs d) (List.length d) .any] 2 .any]) _ (by simp) (by kernel_rfl) ?_
      refine Shrink.dataK [] (True) (.agg [.sc (.int .i64 0), .sl [.sc (.int .i64 (a)), .sl (tcs c) (List.length c) .any, .sc (.int .i64 (b)), .sl (tcs d) (List.length d) .any] 2 .any]) (by kernel_rfl) trivial ?_ rfl
      (rw [short_no (by simp only [T.ks_mk, T.n_mk, isT]; omega)]; rfl; done)
end Go.Tr
