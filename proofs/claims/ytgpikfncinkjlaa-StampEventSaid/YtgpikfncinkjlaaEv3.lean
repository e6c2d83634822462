/- Walks and laws. -/
import Derived.Test.YtgpikfncinkjlaaEv2
import Derived.Test.YtgpikfncinkjlaaLibB
set_option maxRecDepth 100000
set_option maxHeartbeats 0
set_option linter.unusedSimpArgs false
set_option linter.unusedVariables false
namespace Go.Tr
open Go Go.Abs Go.Proofs
theorem e_norm (N : Nat) : ∀ (n : Int) (ks : List T) (d l : Int), size (.mk n ks) ≤ N → roughE d l (.mk n ks) = true → l ≤ 2000000000 → EvD Try.prog 66 [.agg [.sc (.int .i64 n), .sl (tcs ks) ks.length .any]] (ag (normE (.mk n ks))) := by
  induction N with
  | zero => intro n ks d l h; rw [size] at h; omega
  | succ N ih =>
    intro n ks d l hN hb hl
    rcases bin_case (roughE_bin _ _ _ hb) with rfl | ⟨n1, k1, n2, k2, rfl⟩
    · refine EvD.body Try.func66 rfl rfl rfl ?_
      refine AWP.seq ?_
      refine TO ⟨[.agg [(I6 n), .sl [] 0 .any]] ++ UU 22, []⟩ ?_
      refine AWP.reg (RT 2 ?_)
      refine AWP.seq (AWP.seq (KL [0] ⟨[U6, .ptr 0 0, .ptr 1 0] ++ UU 20, [⟨[(I6 n), .sl [] 0 .any], 2, .fresh⟩, ⟨[(I6 0), .sl [] 0 .nil], 2, .fresh⟩]⟩ ?_))
      refine AWP.reg (RI (True ∧ 1 < 2 ∧ True ∧ True ∧ True) ⟨trivial, (by omega), trivial, trivial, trivial⟩ ?_)
      refine KL [3, 4, 5] ⟨[U6, .ptr 0 0, .ptr 1 0, U6, U6, U6, (B6 true)] ++ UU 16, [⟨[(I6 n), .sl [] 0 .any], 2, .fresh⟩, ⟨[(I6 0), .sl [] 0 .nil], 2, .fresh⟩]⟩ ?_
      refine CN true (fun _ => ?_) (fun h => nomatch h)
      refine SQ (RI (True ∧ 0 < 2 ∧ True ∧ 2 ≤ 2 ∧ True) ⟨trivial, (by omega), trivial, (by omega), trivial⟩ ?_)
      refine AWP.ret ?_
      refine FI (.agg [.sc (.int .i64 (n)), .sl [] 0 .nil]) ?_
      refine Shrink.dataK [] (True) (.agg [.sc (.int .i64 (n)), .sl [] 0 .nil]) (by kernel_rfl) trivial ?_ rfl
      kernel_rfl
    · obtain ⟨g1, g2, g3, g4, g5⟩ := roughE_kids hb
      simp only [size, sizes] at hN
      have i1 := ih n1 k1 (d - 1) (l - n) (by rw [size]; omega) g4 (by omega)
      have i2 := ih n2 k2 (d - 1) (l - n) (by rw [size]; omega) g5 (by omega)
      have r1 := roughE_n (roughE_norm _ _ _ g4)
      have r2 := roughE_n (roughE_norm _ _ _ g5)
      have b1 := bin_len (roughE_bin _ _ _ (roughE_norm _ _ _ g4))
      have b2 := bin_len (roughE_bin _ _ _ (roughE_norm _ _ _ g5))
      rw [tcs2]
      refine EvD.body Try.func66 rfl rfl rfl ?_
      refine AWP.seq ?_
      refine TO ⟨[.agg [(I6 n), .sl [(I6 n1), tl k1, (I6 n2), tl k2] 2 .any]] ++ UU 22, []⟩ ?_
      refine AWP.reg (RT 2 ?_)
      refine AWP.seq (AWP.seq (KL [0] ⟨[U6, .ptr 0 0, .ptr 1 0] ++ UU 20, [⟨[(I6 n), .sl [(I6 n1), tl k1, (I6 n2), tl k2] 2 .any], 2, .fresh⟩, ⟨[(I6 0), .sl [] 0 .nil], 2, .fresh⟩]⟩ ?_))
      refine AWP.reg (RI (True ∧ 1 < 2 ∧ True ∧ True ∧ True) ⟨trivial, (by omega), trivial, trivial, trivial⟩ ?_)
      refine KL [3, 4, 5] ⟨[U6, .ptr 0 0, .ptr 1 0, U6, U6, U6, (B6 false)] ++ UU 16, [⟨[(I6 n), .sl [(I6 n1), tl k1, (I6 n2), tl k2] 2 .any], 2, .fresh⟩, ⟨[(I6 0), .sl [] 0 .nil], 2, .fresh⟩]⟩ ?_
      refine CN false (fun h => nomatch h) (fun _ => ?_)
      refine AWP.skip (AWP.seq ?_)
      refine AWP.drawB mixed (fun o => if [].contains (o.dst.getD 0) then 1 else if [].contains (o.dst.getD 0) then 2 else if [0, 16, 21, 22].contains (o.dst.getD 0) then 3 else 0) 0 2 (fun x => [⟨[(I6 n), .sl [(I6 n1), tl k1, (I6 n2), tl k2] 2 .any], 2, .fresh⟩, ⟨x 1, 2, .fresh⟩]) ⟨[U6, .ptr 0 0, .ptr 1 0, U6, U6, U6, (B6 false)] ++ UU 16, [⟨[(I6 n), .sl [(I6 n1), tl k1, (I6 n2), tl k2] 2 .any], 2, .fresh⟩, ⟨[(I6 0), .sl [] 0 .nil], 2, .fresh⟩]⟩ (by kernel_rfl) ⟨by kernel_rfl, by kernel_rfl⟩ (by kernel_rfl) ?_
      refine DerZ.preI 6 ((True) ∧ (((0 : Nat) < (2 : Nat)) ∧ ((True) ∧ (((1 : Nat) < (2 : Nat)) ∧ (((((0 : Int) ≤ (0 : Int)) ∧ ((0 : Int) < (2 : Int))) ∧ ((2 : Nat) ≤ (4 : Nat))) ∧ (((2 : Nat) ≤ (2 : Nat)) ∧ (True))))))) (by intro x ext; kernel_rfl) ⟨trivial, ⟨(by omega), ⟨trivial, ⟨(by omega), ⟨⟨⟨(by omega), (by omega)⟩, (by omega)⟩, ⟨(by omega), trivial⟩⟩⟩⟩⟩⟩ ?_
      refine DerZ.callDI (i1) ⟨by kernel_rfl, by kernel_rfl⟩ ?_
      refine DerZ.preI 4 ((True) ∧ (((1 : Nat) < (2 : Nat)) ∧ (((((0 : Int) ≤ (1 : Int)) ∧ ((1 : Int) < (2 : Int))) ∧ ((4 : Nat) ≤ (4 : Nat))) ∧ (((2 : Nat) ≤ (2 : Nat)) ∧ (True))))) (by intro x ext; kernel_rfl) ⟨trivial, ⟨(by omega), ⟨⟨⟨(by omega), (by omega)⟩, (by omega)⟩, ⟨(by omega), trivial⟩⟩⟩⟩ ?_
      refine DerZ.callDI (i2) ⟨by kernel_rfl, by kernel_rfl⟩ ?_
      refine DerZ.callD (node n (T.n (normE (T.mk n1 k1))) (T.n (normE (T.mk n2 k2))) (T.ks (normE (T.mk n1 k1))) (T.ks (normE (T.mk n2 k2))) ⟨(by omega), ⟨(by omega), ⟨(by omega), ⟨(by omega), ⟨(by omega), (by omega)⟩⟩⟩⟩⟩ ⟨(by omega), (by omega)⟩) ⟨[U6, .ptr 0 0, .ptr 1 0, U6, U6, U6, (B6 false), U6, U6, U6, .ptr 0 0, (I6 n), .ptr 0 1, .sl [(I6 n1), tl k1, (I6 n2), tl k2] 2 .any, .dptr [(I6 n1), tl k1], .agg [(I6 n1), tl k1], .agg [(I6 (T.n (normE (T.mk n1 k1)))), tl (T.ks (normE (T.mk n1 k1)))], .ptr 0 1, .sl [(I6 n1), tl k1, (I6 n2), tl k2] 2 .any, .dptr [(I6 n2), tl k2], .agg [(I6 n2), tl k2], .agg [(I6 (T.n (normE (T.mk n2 k2)))), tl (T.ks (normE (T.mk n2 k2)))], .agg [(I6 (T.n (nodeE n (T.mk (T.n (normE (T.mk n1 k1))) (T.ks (normE (T.mk n1 k1)))) (T.mk (T.n (normE (T.mk n2 k2))) (T.ks (normE (T.mk n2 k2))))))), .sl (tcs (T.ks (nodeE n (T.mk (T.n (normE (T.mk n1 k1))) (T.ks (normE (T.mk n1 k1)))) (T.mk (T.n (normE (T.mk n2 k2))) (T.ks (normE (T.mk n2 k2))))))) (List.length (T.ks (nodeE n (T.mk (T.n (normE (T.mk n1 k1))) (T.ks (normE (T.mk n1 k1)))) (T.mk (T.n (normE (T.mk n2 k2))) (T.ks (normE (T.mk n2 k2))))))) .any]], [⟨[(I6 n), .sl [(I6 n1), tl k1, (I6 n2), tl k2] 2 .any], 2, .fresh⟩, ⟨[(I6 0), .sl [] 0 .nil], 2, .fresh⟩]⟩ ⟨by kernel_rfl, by kernel_rfl, by kernel_rfl⟩ ?_
      rw [Go.Tr.T.mk_eta (normE (T.mk n1 k1))]
      rw [Go.Tr.T.mk_eta (normE (T.mk n2 k2))]
      refine DerZ.effI 2 ((2 : Nat) ≤ (2 : Nat)) (by kernel_rfl) ⟨⟨by kernel_rfl, by kernel_rfl⟩, by kernel_rfl⟩ (by omega) ?_
      refine DerZ.nil ?_
      refine AWP.ret FA
theorem er_rough (N : Nat) : ∀ (n : Int) (ks : List T) (d l : Int), size (.mk n ks) ≤ N → 0 ≤ d → d ≤ 1000 → 0 ≤ l → l ≤ 2000000000 → EvD Try.prog 68 [.agg [.sc (.int .i64 n), .sl (tcs ks) ks.length .any], .sc (.int .i64 d), .sc (.int .i64 l)] (.sc (.bool (roughE d l (.mk n ks)))) := by
  induction N with
  | zero => intro n ks d l h; rw [size] at h; omega
  | succ N ih =>
    intro n ks d l hN h0 h1 h2 h3
    by_cases e0 : ks.length = 0
    · obtain rfl := List.eq_nil_of_length_eq_zero e0
      refine EvD.body Try.func68 rfl rfl rfl ?_
      refine AWP.seq ?_
      refine TO ⟨[.agg [(I6 n), .sl [] 0 .any], (I6 d), (I6 l)] ++ UU 51, []⟩ ?_
      refine AWP.reg (RT 2 ?_)
      refine AWP.seq (AWP.seq (KL [0] ⟨[U6, (I6 d), (I6 l), .ptr 0 0, U6, U6, (B6 false)] ++ UU 47, [⟨[(I6 n), .sl [] 0 .any], 2, .fresh⟩]⟩ ?_))
      refine AWP.reg (PI 4 (True ∧ 0 < 2 ∧ True ∧ True ∧ True) ⟨trivial, (by omega), trivial, trivial, trivial⟩ ?_)
      refine DerQ.to ⟨[U6, (I6 d), (I6 l), .ptr 0 0, U6, U6, (B6 false), .ptr 0 0, (I6 n), (B6 (decide (n < 0))), (B6 (decide (n < 0)))] ++ UU 43, [⟨[(I6 n), .sl [] 0 .any], 2, .fresh⟩]⟩ (by kernel_rfl) ?_
      cases h4 : (decide (n < 0))
      · have h4' := of_decide_eq_false h4
        refine RI (True ∧ 0 < 2 ∧ True ∧ True ∧ True ∧ True) ⟨trivial, (by omega), trivial, trivial, trivial, trivial⟩ ?_
        refine KL (NN 7 8) ⟨[U6, (I6 d), (I6 l), .ptr 0 0, U6, U6, (B6 false)] ++ UU 8 ++ [(B6 (decide (n > l)))] ++ UU 38, [⟨[(I6 n), .sl [] 0 .any], 2, .fresh⟩]⟩ ?_
        refine CN (decide (n > l)) (fun h5 => ?_) (fun h5 => ?_)
        · have h5' := of_decide_eq_true h5
          refine SQ (RT 1 ?_)
          refine AWP.ret ?_
          refine FI (.sc (.bool false)) ?_
          refine Shrink.all ?_ rfl
          (congr 2; rw [Bool.eq_iff_iff]; simp only [roughE, decide_eq_true_eq, Bool.false_eq_true, false_iff, true_iff, Bool.and_eq_true, Bool.or_eq_true, Bool.not_eq_true', Bool.not_eq_true, Bool.not_eq_false', decide_eq_false_iff_not, iff_true, iff_false, beq_iff_eq, beq_eq_false_iff_ne, ge_iff_le, gt_iff_lt, ne_eq, bne_iff_ne, not_true_eq_false, not_false_eq_true] at *; omega; done)
        · have h5' := of_decide_eq_false h5
          refine AWP.skip (AWP.seq (SQ (RI (True ∧ 1 < 2 ∧ True ∧ True ∧ True) ⟨trivial, (by omega), trivial, trivial, trivial⟩ ?_)))
          refine KL [15, 16, 17, 18] ⟨[U6, (I6 d), (I6 l), .ptr 0 0, U6, U6, (B6 false)] ++ UU 12 ++ [(B6 true)] ++ UU 34, [⟨[(I6 n), .sl [] 0 .any], 2, .fresh⟩]⟩ ?_
          refine CN true (fun _ => ?_) (fun h => nomatch h)
          refine SQ (RT 1 ?_)
          refine AWP.ret ?_
          refine FI (.sc (.bool true)) ?_
          refine Shrink.all ?_ rfl
          (congr 2; rw [Bool.eq_iff_iff]; simp only [roughE, decide_eq_true_eq, Bool.false_eq_true, false_iff, true_iff, Bool.and_eq_true, Bool.or_eq_true, Bool.not_eq_true', Bool.not_eq_true, Bool.not_eq_false', decide_eq_false_iff_not, iff_true, iff_false, beq_iff_eq, beq_eq_false_iff_ne, ge_iff_le, gt_iff_lt, ne_eq, bne_iff_ne, not_true_eq_false, not_false_eq_true] at *; omega; done)
      · have h4' := of_decide_eq_true h4
        refine RT 1 ?_
        refine KL (NN 7 8) ⟨[U6, (I6 d), (I6 l), .ptr 0 0, U6, U6, (B6 false)] ++ UU 8 ++ [(B6 true)] ++ UU 38, [⟨[(I6 n), .sl [] 0 .any], 2, .fresh⟩]⟩ ?_
        refine CN true (fun _ => ?_) (fun h => nomatch h)
        refine SQ (RT 1 ?_)
        refine AWP.ret ?_
        refine FI (.sc (.bool false)) ?_
        refine Shrink.all ?_ rfl
        (congr 2; rw [Bool.eq_iff_iff]; simp only [roughE, decide_eq_true_eq, Bool.false_eq_true, false_iff, true_iff, Bool.and_eq_true, Bool.or_eq_true, Bool.not_eq_true', Bool.not_eq_true, Bool.not_eq_false', decide_eq_false_iff_not, iff_true, iff_false, beq_iff_eq, beq_eq_false_iff_ne, ge_iff_le, gt_iff_lt, ne_eq, bne_iff_ne, not_true_eq_false, not_false_eq_true] at *; omega; done)
    · by_cases e2 : ks.length = 2
      · obtain ⟨n1, k1, n2, k2, rfl⟩ := two_of e2
        simp only [size, sizes] at hN
        rw [tcs2]
        by_cases hc : 0 ≤ n ∧ n ≤ l ∧ d ≠ 0
        · have q1 := ih n1 k1 (d - 1) (l - n) (by rw [size]; omega) (by omega) (by omega) (by omega) (by omega)
          have q2 := ih n2 k2 (d - 1) (l - n) (by rw [size]; omega) (by omega) (by omega) (by omega) (by omega)
          refine EvD.body Try.func68 rfl rfl rfl ?_
          refine AWP.seq ?_
          refine TO ⟨[.agg [(I6 n), .sl [(I6 n1), tl k1, (I6 n2), tl k2] 2 .any], (I6 d), (I6 l)] ++ UU 51, []⟩ ?_
          refine AWP.reg (RT 2 ?_)
          refine AWP.seq (AWP.seq (KL [0] ⟨[U6, (I6 d), (I6 l), .ptr 0 0, U6, U6, (B6 false)] ++ UU 47, [⟨[(I6 n), .sl [(I6 n1), tl k1, (I6 n2), tl k2] 2 .any], 2, .fresh⟩]⟩ ?_))
          refine AWP.reg (PI 4 (True ∧ 0 < 2 ∧ True ∧ True ∧ True) ⟨trivial, (by omega), trivial, trivial, trivial⟩ ?_)
          refine DerQ.to ⟨[U6, (I6 d), (I6 l), .ptr 0 0, U6, U6, (B6 false), .ptr 0 0, (I6 n), (B6 (decide (n < 0))), (B6 (decide (n < 0)))] ++ UU 43, [⟨[(I6 n), .sl [(I6 n1), tl k1, (I6 n2), tl k2] 2 .any], 2, .fresh⟩]⟩ (by kernel_rfl) ?_
          cases h4 : (decide (n < 0))
          · have h4' := of_decide_eq_false h4
            refine RI (True ∧ 0 < 2 ∧ True ∧ True ∧ True ∧ True) ⟨trivial, (by omega), trivial, trivial, trivial, trivial⟩ ?_
            refine KL (NN 7 8) ⟨[U6, (I6 d), (I6 l), .ptr 0 0, U6, U6, (B6 false)] ++ UU 8 ++ [(B6 (decide (n > l)))] ++ UU 38, [⟨[(I6 n), .sl [(I6 n1), tl k1, (I6 n2), tl k2] 2 .any], 2, .fresh⟩]⟩ ?_
            refine CN (decide (n > l)) (fun h5 => ?_) (fun h5 => ?_)
            · have h5' := of_decide_eq_true h5
              exfalso; omega
            · have h5' := of_decide_eq_false h5
              refine AWP.skip (AWP.seq (SQ (RI (True ∧ 1 < 2 ∧ True ∧ True ∧ True) ⟨trivial, (by omega), trivial, trivial, trivial⟩ ?_)))
              refine KL [15, 16, 17, 18] ⟨[U6, (I6 d), (I6 l), .ptr 0 0, U6, U6, (B6 false)] ++ UU 12 ++ [(B6 false)] ++ UU 34, [⟨[(I6 n), .sl [(I6 n1), tl k1, (I6 n2), tl k2] 2 .any], 2, .fresh⟩]⟩ ?_
              refine CN false (fun h => nomatch h) (fun _ => ?_)
              refine AWP.skip (AWP.seq ?_)
              refine AWP.drawX mixed (fun o => [39, 52].contains (o.dst.getD 0)) (by kernel_rfl) ?_
              refine DerX.preI 9 ((True) ∧ (((1 : Nat) < (2 : Nat)) ∧ ((True) ∧ ((True) ∧ ((True) ∧ ((True) ∧ ((True) ∧ ((True) ∧ ((True) ∧ (True)))))))))) (by intro ext; kernel_rfl) ⟨trivial, ⟨(by omega), ⟨trivial, ⟨trivial, ⟨trivial, ⟨trivial, ⟨trivial, ⟨trivial, ⟨trivial, trivial⟩⟩⟩⟩⟩⟩⟩⟩⟩ ?_
              refine AWP.toX ⟨[U6, (I6 d), (I6 l), .ptr 0 0, U6, U6, (B6 false)] ++ UU 12 ++ [(B6 false), .ptr 0 1, .sl [(I6 n1), tl k1, (I6 n2), tl k2] 2 .any, (I6 2), (B6 true), (B6 true), (I6 d), (B6 (decide (d > 0))), (B6 (decide (d > 0))), (B6 (decide (d > 0)))] ++ UU 25, [⟨[(I6 n), .sl [(I6 n1), tl k1, (I6 n2), tl k2] 2 .any], 2, .fresh⟩]⟩ (by kernel_rfl) ?_
              cases h6 : (decide (d > 0))
              · have h6' := of_decide_eq_false h6
                exfalso; omega
              · have h6' := of_decide_eq_true h6
                refine DerX.pre 10 ((True) ∧ (((1 : Nat) < (2 : Nat)) ∧ (((((0 : Int) ≤ (0 : Int)) ∧ ((0 : Int) < (2 : Int))) ∧ ((2 : Nat) ≤ (4 : Nat))) ∧ (((2 : Nat) ≤ (2 : Nat)) ∧ ((True) ∧ ((True) ∧ ((True) ∧ ((True) ∧ (((0 : Nat) < (2 : Nat)) ∧ ((True) ∧ (True))))))))))) [.ptr 0 1, .sl [(I6 n1), tl k1, (I6 n2), tl k2] 2 .any, .dptr [(I6 n1), tl k1], .agg [(I6 n1), tl k1], (I6 d), (I6 (IntKind.wrap IntKind.i64 (d - 1))), (I6 l), .ptr 0 0, (I6 n), (I6 (IntKind.wrap IntKind.i64 (l - n)))] ⟨[U6, (I6 d), (I6 l), .ptr 0 0, U6, U6, (B6 false)] ++ UU 12 ++ [(B6 false), .ptr 0 1, .sl [(I6 n1), tl k1, (I6 n2), tl k2] 2 .any, (I6 2), (B6 true), (B6 true), (I6 d), (B6 true), (B6 true), (B6 true), .ptr 0 1, .sl [(I6 n1), tl k1, (I6 n2), tl k2] 2 .any, .dptr [(I6 n1), tl k1], .agg [(I6 n1), tl k1], (I6 d), (I6 (IntKind.wrap IntKind.i64 (d - 1))), (I6 l), .ptr 0 0, (I6 n), (I6 (IntKind.wrap IntKind.i64 (l - n)))] ++ UU 15, [⟨[(I6 n), .sl [(I6 n1), tl k1, (I6 n2), tl k2] 2 .any], 2, .fresh⟩]⟩ (by intro ext; kernel_rfl) (by kernel_rfl) ⟨trivial, ⟨(by omega), ⟨⟨⟨(by omega), (by omega)⟩, (by omega)⟩, ⟨(by omega), ⟨trivial, ⟨trivial, ⟨trivial, ⟨trivial, ⟨(by omega), ⟨trivial, trivial⟩⟩⟩⟩⟩⟩⟩⟩⟩⟩ ?_
                rw [IntWalk.i64_in (d - 1) (by omega)]
                rw [IntWalk.i64_in (l - n) (by omega)]
                refine DerX.callDI (q1) ⟨by kernel_rfl, by kernel_rfl⟩ ?_
                refine DerX.preI 2 ((True) ∧ ((True) ∧ (True))) (by intro ext; kernel_rfl) ⟨trivial, ⟨trivial, trivial⟩⟩ ?_
                refine AWP.toX ⟨[U6, (I6 d), (I6 l), .ptr 0 0, U6, U6, (B6 false)] ++ UU 12 ++ [(B6 false), .ptr 0 1, .sl [(I6 n1), tl k1, (I6 n2), tl k2] 2 .any, (I6 2), (B6 true), (B6 true), (I6 d), (B6 true), (B6 true), (B6 true), .ptr 0 1, .sl [(I6 n1), tl k1, (I6 n2), tl k2] 2 .any, .dptr [(I6 n1), tl k1], .agg [(I6 n1), tl k1], (I6 d), (I6 (d - 1)), (I6 l), .ptr 0 0, (I6 n), (I6 (l - n)), (B6 (roughE (d - 1) (l - n) (T.mk n1 k1))), (B6 (roughE (d - 1) (l - n) (T.mk n1 k1))), (B6 (roughE (d - 1) (l - n) (T.mk n1 k1)))] ++ UU 12, [⟨[(I6 n), .sl [(I6 n1), tl k1, (I6 n2), tl k2] 2 .any], 2, .fresh⟩]⟩ (by kernel_rfl) ?_
                cases h7 : (roughE (d - 1) (l - n) (T.mk n1 k1))
                · refine DerX.preI 13 ((True) ∧ ((True) ∧ (True))) (by intro ext; kernel_rfl) ⟨trivial, ⟨trivial, trivial⟩⟩ ?_
                  refine DerX.nil ?_
                  refine AWP.ret ?_
                  refine FI (.sc (.bool false)) ?_
                  refine Shrink.all ?_ rfl
                  (simp [roughE, hc, *]; done)
                · refine DerX.pre 10 ((True) ∧ (((1 : Nat) < (2 : Nat)) ∧ (((((0 : Int) ≤ (1 : Int)) ∧ ((1 : Int) < (2 : Int))) ∧ ((4 : Nat) ≤ (4 : Nat))) ∧ (((2 : Nat) ≤ (2 : Nat)) ∧ ((True) ∧ ((True) ∧ ((True) ∧ ((True) ∧ (((0 : Nat) < (2 : Nat)) ∧ ((True) ∧ (True))))))))))) [.ptr 0 1, .sl [(I6 n1), tl k1, (I6 n2), tl k2] 2 .any, .dptr [(I6 n2), tl k2], .agg [(I6 n2), tl k2], (I6 d), (I6 (IntKind.wrap IntKind.i64 (d - 1))), (I6 l), .ptr 0 0, (I6 n), (I6 (IntKind.wrap IntKind.i64 (l - n)))] ⟨[U6, (I6 d), (I6 l), .ptr 0 0, U6, U6, (B6 false)] ++ UU 12 ++ [(B6 false), .ptr 0 1, .sl [(I6 n1), tl k1, (I6 n2), tl k2] 2 .any, (I6 2), (B6 true), (B6 true), (I6 d), (B6 true), (B6 true), (B6 true), .ptr 0 1, .sl [(I6 n1), tl k1, (I6 n2), tl k2] 2 .any, .dptr [(I6 n1), tl k1], .agg [(I6 n1), tl k1], (I6 d), (I6 (d - 1)), (I6 l), .ptr 0 0, (I6 n), (I6 (l - n)), (B6 true), (B6 true), (B6 true), .ptr 0 1, .sl [(I6 n1), tl k1, (I6 n2), tl k2] 2 .any, .dptr [(I6 n2), tl k2], .agg [(I6 n2), tl k2], (I6 d), (I6 (IntKind.wrap IntKind.i64 (d - 1))), (I6 l), .ptr 0 0, (I6 n), (I6 (IntKind.wrap IntKind.i64 (l - n))), U6, .undef], [⟨[(I6 n), .sl [(I6 n1), tl k1, (I6 n2), tl k2] 2 .any], 2, .fresh⟩]⟩ (by intro ext; kernel_rfl) (by kernel_rfl) ⟨trivial, ⟨(by omega), ⟨⟨⟨(by omega), (by omega)⟩, (by omega)⟩, ⟨(by omega), ⟨trivial, ⟨trivial, ⟨trivial, ⟨trivial, ⟨(by omega), ⟨trivial, trivial⟩⟩⟩⟩⟩⟩⟩⟩⟩⟩ ?_
                  rw [IntWalk.i64_in (d - 1) (by omega)]
                  rw [IntWalk.i64_in (l - n) (by omega)]
                  refine DerX.callDI (q2) ⟨by kernel_rfl, by kernel_rfl⟩ ?_
                  refine DerX.preI 2 ((True) ∧ ((True) ∧ (True))) (by intro ext; kernel_rfl) ⟨trivial, ⟨trivial, trivial⟩⟩ ?_
                  refine DerX.nil ?_
                  refine AWP.ret ?_
                  refine FI (.sc (.bool (roughE (d - 1) (l - n) (T.mk n2 k2)))) ?_
                  refine Shrink.all ?_ rfl
                  (simp [roughE, hc, *]; done)
          · have h4' := of_decide_eq_true h4
            exfalso; omega
        · refine EvD.body Try.func68 rfl rfl rfl ?_
          refine AWP.seq ?_
          refine TO ⟨[.agg [(I6 n), .sl [(I6 n1), tl k1, (I6 n2), tl k2] 2 .any], (I6 d), (I6 l)] ++ UU 51, []⟩ ?_
          refine AWP.reg (RT 2 ?_)
          refine AWP.seq (AWP.seq (KL [0] ⟨[U6, (I6 d), (I6 l), .ptr 0 0, U6, U6, (B6 false)] ++ UU 47, [⟨[(I6 n), .sl [(I6 n1), tl k1, (I6 n2), tl k2] 2 .any], 2, .fresh⟩]⟩ ?_))
          refine AWP.reg (PI 4 (True ∧ 0 < 2 ∧ True ∧ True ∧ True) ⟨trivial, (by omega), trivial, trivial, trivial⟩ ?_)
          refine DerQ.to ⟨[U6, (I6 d), (I6 l), .ptr 0 0, U6, U6, (B6 false), .ptr 0 0, (I6 n), (B6 (decide (n < 0))), (B6 (decide (n < 0)))] ++ UU 43, [⟨[(I6 n), .sl [(I6 n1), tl k1, (I6 n2), tl k2] 2 .any], 2, .fresh⟩]⟩ (by kernel_rfl) ?_
          cases h4 : (decide (n < 0))
          · have h4' := of_decide_eq_false h4
            refine RI (True ∧ 0 < 2 ∧ True ∧ True ∧ True ∧ True) ⟨trivial, (by omega), trivial, trivial, trivial, trivial⟩ ?_
            refine KL (NN 7 8) ⟨[U6, (I6 d), (I6 l), .ptr 0 0, U6, U6, (B6 false)] ++ UU 8 ++ [(B6 (decide (n > l)))] ++ UU 38, [⟨[(I6 n), .sl [(I6 n1), tl k1, (I6 n2), tl k2] 2 .any], 2, .fresh⟩]⟩ ?_
            refine CN (decide (n > l)) (fun h5 => ?_) (fun h5 => ?_)
            · have h5' := of_decide_eq_true h5
              refine SQ (RT 1 ?_)
              refine AWP.ret ?_
              refine FI (.sc (.bool false)) ?_
              refine Shrink.all ?_ rfl
              (simp only [roughE]; rw [decide_eq_false hc]; rfl; done)
            · have h5' := of_decide_eq_false h5
              refine AWP.skip (AWP.seq (SQ (RI (True ∧ 1 < 2 ∧ True ∧ True ∧ True) ⟨trivial, (by omega), trivial, trivial, trivial⟩ ?_)))
              refine KL [15, 16, 17, 18] ⟨[U6, (I6 d), (I6 l), .ptr 0 0, U6, U6, (B6 false)] ++ UU 12 ++ [(B6 false)] ++ UU 34, [⟨[(I6 n), .sl [(I6 n1), tl k1, (I6 n2), tl k2] 2 .any], 2, .fresh⟩]⟩ ?_
              refine CN false (fun h => nomatch h) (fun _ => ?_)
              refine AWP.skip (AWP.seq ?_)
              refine AWP.drawX mixed (fun o => [39, 52].contains (o.dst.getD 0)) (by kernel_rfl) ?_
              refine DerX.preI 9 ((True) ∧ (((1 : Nat) < (2 : Nat)) ∧ ((True) ∧ ((True) ∧ ((True) ∧ ((True) ∧ ((True) ∧ ((True) ∧ ((True) ∧ (True)))))))))) (by intro ext; kernel_rfl) ⟨trivial, ⟨(by omega), ⟨trivial, ⟨trivial, ⟨trivial, ⟨trivial, ⟨trivial, ⟨trivial, ⟨trivial, trivial⟩⟩⟩⟩⟩⟩⟩⟩⟩ ?_
              refine AWP.toX ⟨[U6, (I6 d), (I6 l), .ptr 0 0, U6, U6, (B6 false)] ++ UU 12 ++ [(B6 false), .ptr 0 1, .sl [(I6 n1), tl k1, (I6 n2), tl k2] 2 .any, (I6 2), (B6 true), (B6 true), (I6 d), (B6 (decide (d > 0))), (B6 (decide (d > 0))), (B6 (decide (d > 0)))] ++ UU 25, [⟨[(I6 n), .sl [(I6 n1), tl k1, (I6 n2), tl k2] 2 .any], 2, .fresh⟩]⟩ (by kernel_rfl) ?_
              cases h6 : (decide (d > 0))
              · have h6' := of_decide_eq_false h6
                refine DerX.preI 26 ((True) ∧ ((True) ∧ ((True) ∧ ((True) ∧ (True))))) (by intro ext; kernel_rfl) ⟨trivial, ⟨trivial, ⟨trivial, ⟨trivial, trivial⟩⟩⟩⟩ ?_
                refine DerX.nil ?_
                refine AWP.ret ?_
                refine FI (.sc (.bool false)) ?_
                refine Shrink.all ?_ rfl
                (simp only [roughE]; rw [decide_eq_false hc]; rfl; done)
              · have h6' := of_decide_eq_true h6
                exfalso; omega
          · have h4' := of_decide_eq_true h4
            refine RT 1 ?_
            refine KL (NN 7 8) ⟨[U6, (I6 d), (I6 l), .ptr 0 0, U6, U6, (B6 false)] ++ UU 8 ++ [(B6 true)] ++ UU 38, [⟨[(I6 n), .sl [(I6 n1), tl k1, (I6 n2), tl k2] 2 .any], 2, .fresh⟩]⟩ ?_
            refine CN true (fun _ => ?_) (fun h => nomatch h)
            refine SQ (RT 1 ?_)
            refine AWP.ret ?_
            refine FI (.sc (.bool false)) ?_
            refine Shrink.all ?_ rfl
            (simp only [roughE]; rw [decide_eq_false hc]; rfl; done)
      · refine EvD.body Try.func68 rfl rfl rfl ?_
        refine AWP.seq ?_
        refine TO ⟨[.agg [(I6 n), tl ks], (I6 d), (I6 l)] ++ UU 51, []⟩ ?_
        refine AWP.reg (RT 2 ?_)
        refine AWP.seq (AWP.seq (KL [0] ⟨[U6, (I6 d), (I6 l), .ptr 0 0, U6, U6, (B6 false)] ++ UU 47, [⟨[(I6 n), tl ks], 2, .fresh⟩]⟩ ?_))
        refine AWP.reg (PI 4 (True ∧ 0 < 2 ∧ True ∧ True ∧ True) ⟨trivial, (by omega), trivial, trivial, trivial⟩ ?_)
        refine DerQ.to ⟨[U6, (I6 d), (I6 l), .ptr 0 0, U6, U6, (B6 false), .ptr 0 0, (I6 n), (B6 (decide (n < 0))), (B6 (decide (n < 0)))] ++ UU 43, [⟨[(I6 n), tl ks], 2, .fresh⟩]⟩ (by kernel_rfl) ?_
        cases h4 : (decide (n < 0))
        · have h4' := of_decide_eq_false h4
          refine RI (True ∧ 0 < 2 ∧ True ∧ True ∧ True ∧ True) ⟨trivial, (by omega), trivial, trivial, trivial, trivial⟩ ?_
          refine KL (NN 7 8) ⟨[U6, (I6 d), (I6 l), .ptr 0 0, U6, U6, (B6 false)] ++ UU 8 ++ [(B6 (decide (n > l)))] ++ UU 38, [⟨[(I6 n), tl ks], 2, .fresh⟩]⟩ ?_
          refine CN (decide (n > l)) (fun h5 => ?_) (fun h5 => ?_)
          · have h5' := of_decide_eq_true h5
            refine SQ (RT 1 ?_)
            refine AWP.ret ?_
            refine FI (.sc (.bool false)) ?_
            refine Shrink.all ?_ rfl
            (rw [roughE_no e0 e2]; done)
          · have h5' := of_decide_eq_false h5
            refine AWP.skip (AWP.seq (SQ (RI (True ∧ 1 < 2 ∧ True ∧ True ∧ True) ⟨trivial, (by omega), trivial, trivial, trivial⟩ ?_)))
            refine KL [15, 16, 17, 18] ⟨[U6, (I6 d), (I6 l), .ptr 0 0, U6, U6, (B6 false)] ++ UU 12 ++ [(B6 ((↑(List.length ks) : Int) == 0))] ++ UU 34, [⟨[(I6 n), tl ks], 2, .fresh⟩]⟩ ?_
            refine CN ((↑(List.length ks) : Int) == 0) (fun h6 => ?_) (fun h6 => ?_)
            · have h6' := eq_of_beq h6
              exfalso; omega
            · have h6' := ne_of_beq_false h6
              refine AWP.skip (AWP.seq ?_)
              refine AWP.drawX mixed (fun o => [39, 52].contains (o.dst.getD 0)) (by kernel_rfl) ?_
              refine DerX.preI 5 ((True) ∧ (((1 : Nat) < (2 : Nat)) ∧ ((True) ∧ ((True) ∧ ((True) ∧ (True)))))) (by intro ext; kernel_rfl) ⟨trivial, ⟨(by omega), ⟨trivial, ⟨trivial, ⟨trivial, trivial⟩⟩⟩⟩⟩ ?_
              refine AWP.toX ⟨[U6, (I6 d), (I6 l), .ptr 0 0, U6, U6, (B6 false)] ++ UU 12 ++ [(B6 ((↑(List.length ks) : Int) == 0)), .ptr 0 1, tl ks, (I6 (↑(List.length ks) : Int)), (B6 ((↑(List.length ks) : Int) == 2)), (B6 ((↑(List.length ks) : Int) == 2))] ++ UU 29, [⟨[(I6 n), tl ks], 2, .fresh⟩]⟩ (by kernel_rfl) ?_
              cases h7 : ((↑(List.length ks) : Int) == 2)
              · have h7' := ne_of_beq_false h7
                refine DerX.preI 30 ((True) ∧ ((True) ∧ ((True) ∧ ((True) ∧ ((True) ∧ ((True) ∧ (True))))))) (by intro ext; kernel_rfl) ⟨trivial, ⟨trivial, ⟨trivial, ⟨trivial, ⟨trivial, ⟨trivial, trivial⟩⟩⟩⟩⟩⟩ ?_
                refine DerX.nil ?_
                refine AWP.ret ?_
                refine FI (.sc (.bool false)) ?_
                refine Shrink.all ?_ rfl
                (rw [roughE_no e0 e2]; done)
              · have h7' := eq_of_beq h7
                exfalso; omega
        · have h4' := of_decide_eq_true h4
          refine RT 1 ?_
          refine KL (NN 7 8) ⟨[U6, (I6 d), (I6 l), .ptr 0 0, U6, U6, (B6 false)] ++ UU 8 ++ [(B6 true)] ++ UU 38, [⟨[(I6 n), tl ks], 2, .fresh⟩]⟩ ?_
          refine CN true (fun _ => ?_) (fun h => nomatch h)
          refine SQ (RT 1 ?_)
          refine AWP.ret ?_
          refine FI (.sc (.bool false)) ?_
          refine Shrink.all ?_ rfl
          (rw [roughE_no e0 e2]; done)
theorem er_norm (N : Nat) : ∀ (n : Int) (ks : List T) (d l : Int), size (.mk n ks) ≤ N → roughE d l (.mk n ks) = true → l ≤ 2000000000 → EvD Try.prog 69 [.agg [.sc (.int .i64 n), .sl (tcs ks) ks.length .any]] (ag (normE (.mk n ks))) := by
  induction N with
  | zero => intro n ks d l h; rw [size] at h; omega
  | succ N ih =>
    intro n ks d l hN hb hl
    rcases bin_case (roughE_bin _ _ _ hb) with rfl | ⟨n1, k1, n2, k2, rfl⟩
    · refine EvD.body Try.func69 rfl rfl rfl ?_
      refine AWP.seq ?_
      refine TO ⟨[.agg [(I6 n), .sl [] 0 .any]] ++ UU 22, []⟩ ?_
      refine AWP.reg (RT 2 ?_)
      refine AWP.seq (AWP.seq (KL [0] ⟨[U6, .ptr 0 0, .ptr 1 0] ++ UU 20, [⟨[(I6 n), .sl [] 0 .any], 2, .fresh⟩, ⟨[(I6 0), .sl [] 0 .nil], 2, .fresh⟩]⟩ ?_))
      refine AWP.reg (RI (True ∧ 1 < 2 ∧ True ∧ True ∧ True) ⟨trivial, (by omega), trivial, trivial, trivial⟩ ?_)
      refine KL [3, 4, 5] ⟨[U6, .ptr 0 0, .ptr 1 0, U6, U6, U6, (B6 true)] ++ UU 16, [⟨[(I6 n), .sl [] 0 .any], 2, .fresh⟩, ⟨[(I6 0), .sl [] 0 .nil], 2, .fresh⟩]⟩ ?_
      refine CN true (fun _ => ?_) (fun h => nomatch h)
      refine SQ (PI 2 (True ∧ 0 < 2 ∧ True) ⟨trivial, (by omega), trivial⟩ ?_)
      refine CD (r_leaf n) ?_
      refine RI (2 ≤ 2 ∧ True) ⟨(by omega), trivial⟩ ?_
      refine AWP.ret FA
    · obtain ⟨g1, g2, g3, g4, g5⟩ := roughE_kids hb
      simp only [size, sizes] at hN
      have i1 := ih n1 k1 (d - 1) (l - n) (by rw [size]; omega) g4 (by omega)
      have i2 := ih n2 k2 (d - 1) (l - n) (by rw [size]; omega) g5 (by omega)
      have r1 := roughE_n (roughE_norm _ _ _ g4)
      have r2 := roughE_n (roughE_norm _ _ _ g5)
      have b1 := bin_len (roughE_bin _ _ _ (roughE_norm _ _ _ g4))
      have b2 := bin_len (roughE_bin _ _ _ (roughE_norm _ _ _ g5))
      rw [tcs2]
      refine EvD.body Try.func69 rfl rfl rfl ?_
      refine AWP.seq ?_
      refine TO ⟨[.agg [(I6 n), .sl [(I6 n1), tl k1, (I6 n2), tl k2] 2 .any]] ++ UU 22, []⟩ ?_
      refine AWP.reg (RT 2 ?_)
      refine AWP.seq (AWP.seq (KL [0] ⟨[U6, .ptr 0 0, .ptr 1 0] ++ UU 20, [⟨[(I6 n), .sl [(I6 n1), tl k1, (I6 n2), tl k2] 2 .any], 2, .fresh⟩, ⟨[(I6 0), .sl [] 0 .nil], 2, .fresh⟩]⟩ ?_))
      refine AWP.reg (RI (True ∧ 1 < 2 ∧ True ∧ True ∧ True) ⟨trivial, (by omega), trivial, trivial, trivial⟩ ?_)
      refine KL [3, 4, 5] ⟨[U6, .ptr 0 0, .ptr 1 0, U6, U6, U6, (B6 false)] ++ UU 16, [⟨[(I6 n), .sl [(I6 n1), tl k1, (I6 n2), tl k2] 2 .any], 2, .fresh⟩, ⟨[(I6 0), .sl [] 0 .nil], 2, .fresh⟩]⟩ ?_
      refine CN false (fun h => nomatch h) (fun _ => ?_)
      refine AWP.skip (AWP.seq ?_)
      refine AWP.drawB mixed (fun o => if [].contains (o.dst.getD 0) then 1 else if [].contains (o.dst.getD 0) then 2 else if [0, 16, 21, 22].contains (o.dst.getD 0) then 3 else 0) 0 2 (fun x => [⟨[(I6 n), .sl [(I6 n1), tl k1, (I6 n2), tl k2] 2 .any], 2, .fresh⟩, ⟨x 1, 2, .fresh⟩]) ⟨[U6, .ptr 0 0, .ptr 1 0, U6, U6, U6, (B6 false)] ++ UU 16, [⟨[(I6 n), .sl [(I6 n1), tl k1, (I6 n2), tl k2] 2 .any], 2, .fresh⟩, ⟨[(I6 0), .sl [] 0 .nil], 2, .fresh⟩]⟩ (by kernel_rfl) ⟨by kernel_rfl, by kernel_rfl⟩ (by kernel_rfl) ?_
      refine DerZ.preI 6 ((True) ∧ (((0 : Nat) < (2 : Nat)) ∧ ((True) ∧ (((1 : Nat) < (2 : Nat)) ∧ (((((0 : Int) ≤ (0 : Int)) ∧ ((0 : Int) < (2 : Int))) ∧ ((2 : Nat) ≤ (4 : Nat))) ∧ (((2 : Nat) ≤ (2 : Nat)) ∧ (True))))))) (by intro x ext; kernel_rfl) ⟨trivial, ⟨(by omega), ⟨trivial, ⟨(by omega), ⟨⟨⟨(by omega), (by omega)⟩, (by omega)⟩, ⟨(by omega), trivial⟩⟩⟩⟩⟩⟩ ?_
      refine DerZ.callDI (i1) ⟨by kernel_rfl, by kernel_rfl⟩ ?_
      refine DerZ.preI 4 ((True) ∧ (((1 : Nat) < (2 : Nat)) ∧ (((((0 : Int) ≤ (1 : Int)) ∧ ((1 : Int) < (2 : Int))) ∧ ((4 : Nat) ≤ (4 : Nat))) ∧ (((2 : Nat) ≤ (2 : Nat)) ∧ (True))))) (by intro x ext; kernel_rfl) ⟨trivial, ⟨(by omega), ⟨⟨⟨(by omega), (by omega)⟩, (by omega)⟩, ⟨(by omega), trivial⟩⟩⟩⟩ ?_
      refine DerZ.callDI (i2) ⟨by kernel_rfl, by kernel_rfl⟩ ?_
      refine DerZ.callD (r_node n (T.n (normE (T.mk n1 k1))) (T.n (normE (T.mk n2 k2))) (T.ks (normE (T.mk n1 k1))) (T.ks (normE (T.mk n2 k2))) ⟨(by omega), ⟨(by omega), ⟨(by omega), ⟨(by omega), ⟨(by omega), (by omega)⟩⟩⟩⟩⟩ ⟨(by omega), (by omega)⟩) ⟨[U6, .ptr 0 0, .ptr 1 0, U6, U6, U6, (B6 false), U6, U6, U6, .ptr 0 0, (I6 n), .ptr 0 1, .sl [(I6 n1), tl k1, (I6 n2), tl k2] 2 .any, .dptr [(I6 n1), tl k1], .agg [(I6 n1), tl k1], .agg [(I6 (T.n (normE (T.mk n1 k1)))), tl (T.ks (normE (T.mk n1 k1)))], .ptr 0 1, .sl [(I6 n1), tl k1, (I6 n2), tl k2] 2 .any, .dptr [(I6 n2), tl k2], .agg [(I6 n2), tl k2], .agg [(I6 (T.n (normE (T.mk n2 k2)))), tl (T.ks (normE (T.mk n2 k2)))], .agg [(I6 (T.n (nodeE n (T.mk (T.n (normE (T.mk n1 k1))) (T.ks (normE (T.mk n1 k1)))) (T.mk (T.n (normE (T.mk n2 k2))) (T.ks (normE (T.mk n2 k2))))))), .sl (tcs (T.ks (nodeE n (T.mk (T.n (normE (T.mk n1 k1))) (T.ks (normE (T.mk n1 k1)))) (T.mk (T.n (normE (T.mk n2 k2))) (T.ks (normE (T.mk n2 k2))))))) (List.length (T.ks (nodeE n (T.mk (T.n (normE (T.mk n1 k1))) (T.ks (normE (T.mk n1 k1)))) (T.mk (T.n (normE (T.mk n2 k2))) (T.ks (normE (T.mk n2 k2))))))) .any]], [⟨[(I6 n), .sl [(I6 n1), tl k1, (I6 n2), tl k2] 2 .any], 2, .fresh⟩, ⟨[(I6 0), .sl [] 0 .nil], 2, .fresh⟩]⟩ ⟨by kernel_rfl, by kernel_rfl, by kernel_rfl⟩ ?_
      rw [Go.Tr.T.mk_eta (normE (T.mk n1 k1))]
      rw [Go.Tr.T.mk_eta (normE (T.mk n2 k2))]
      refine DerZ.effI 2 ((2 : Nat) ≤ (2 : Nat)) (by kernel_rfl) ⟨⟨by kernel_rfl, by kernel_rfl⟩, by kernel_rfl⟩ (by omega) ?_
      refine DerZ.nil ?_
      refine AWP.ret FA
theorem e_check (n : Int) (ks : List T) (hN : size (.mk n ks) ≤ 1000000) : EvD Try.prog 18 [.agg [.sc (.int .i64 n), .sl (tcs ks) ks.length .any]] (.sc (.bool (checkE (.mk n ks)))) := by
  have hs := size_normE (.mk n ks)
  have q := e_rough 1000000 n ks 16 1073741824 hN (by omega) (by omega) (by omega) (by omega)
  cases hr : roughE 16 1073741824 (.mk n ks)
  · rw [hr] at q
    refine EvD.body Try.func18 rfl rfl rfl ?_
    refine AWP.seq ?_
    refine TO ⟨[.agg [(I6 n), tl ks]] ++ UU 10, []⟩ ?_
    refine AWP.reg (RT 2 ?_)
    refine AWP.seq (KL [0] ⟨[U6, .ptr 0 0, (B6 false)] ++ UU 8, [⟨[(I6 n), tl ks], 2, .fresh⟩]⟩ ?_)
    refine AWP.drawX mixed (fun o => [8, 9, 4].contains (o.dst.getD 0)) (by kernel_rfl) ?_
    refine DerX.quietI ((2 : Nat) ≤ (2 : Nat)) (by intro ext; kernel_rfl) (by kernel_rfl) (by omega) ?_
    refine DerX.callDI (q) ⟨by kernel_rfl, by kernel_rfl⟩ ?_
    refine DerX.preI 7 ((True) ∧ ((True) ∧ ((True) ∧ (True)))) (by intro ext; kernel_rfl) ⟨trivial, ⟨trivial, ⟨trivial, trivial⟩⟩⟩ ?_
    refine DerX.nil ?_
    refine AWP.ret ?_
    refine FI (.sc (.bool false)) ?_
    refine Shrink.all ?_ rfl
    (simp [checkE, hr]; done)
  · rw [hr] at q
    have q2 := e_norm 1000000 n ks 16 1073741824 hN hr (by omega)
    refine EvD.body Try.func18 rfl rfl rfl ?_
    refine AWP.seq ?_
    refine TO ⟨[.agg [(I6 n), tl ks]] ++ UU 10, []⟩ ?_
    refine AWP.reg (RT 2 ?_)
    refine AWP.seq (KL [0] ⟨[U6, .ptr 0 0, (B6 false)] ++ UU 8, [⟨[(I6 n), tl ks], 2, .fresh⟩]⟩ ?_)
    refine AWP.drawX mixed (fun o => [4, 8, 9].contains (o.dst.getD 0)) (by kernel_rfl) ?_
    refine DerX.quietI ((2 : Nat) ≤ (2 : Nat)) (by intro ext; kernel_rfl) (by kernel_rfl) (by omega) ?_
    refine DerX.callDI (q) ⟨by kernel_rfl, by kernel_rfl⟩ ?_
    refine DerX.preI 3 ((True) ∧ (((2 : Nat) ≤ (2 : Nat)) ∧ (((2 : Nat) ≤ (2 : Nat)) ∧ (True)))) (by intro ext; kernel_rfl) ⟨trivial, ⟨(by omega), ⟨(by omega), trivial⟩⟩⟩ ?_
    refine DerX.callDI (q2) ⟨by kernel_rfl, by kernel_rfl⟩ ?_
    refine DerX.callD (same67 1000000 (by omega) n (T.n (normE (T.mk n ks))) ks (T.ks (normE (T.mk n ks))) (by omega)) ⟨[U6, .ptr 0 0, (B6 false), .agg [(I6 n), tl ks], (B6 true), (B6 true), .agg [(I6 n), tl ks], .agg [(I6 n), tl ks], .agg [(I6 (T.n (normE (T.mk n ks)))), tl (T.ks (normE (T.mk n ks)))], (B6 (beqT (T.mk n ks) (T.mk (T.n (normE (T.mk n ks))) (T.ks (normE (T.mk n ks)))))), .undef], [⟨[(I6 n), tl ks], 2, .fresh⟩]⟩ ⟨by kernel_rfl, by kernel_rfl, by kernel_rfl⟩ ?_
    rw [Go.Tr.T.mk_eta (normE (T.mk n ks))]
    refine DerX.preI 2 ((True) ∧ ((True) ∧ (True))) (by intro ext; kernel_rfl) ⟨trivial, ⟨trivial, trivial⟩⟩ ?_
    refine DerX.nil ?_
    refine AWP.ret ?_
    refine FI (.sc (.bool (beqT (T.mk n ks) (normE (T.mk n ks))))) ?_
    refine Shrink.all ?_ rfl
    (simp [checkE, hr]; done)
theorem er_check (n : Int) (ks : List T) (hN : size (.mk n ks) ≤ 1000000) : EvD Try.prog 23 [.agg [.sc (.int .i64 n), .sl (tcs ks) ks.length .any]] (.sc (.bool (checkE (.mk n ks)))) := by
  have hs := size_normE (.mk n ks)
  have q := er_rough 1000000 n ks 16 1073741824 hN (by omega) (by omega) (by omega) (by omega)
  cases hr : roughE 16 1073741824 (.mk n ks)
  · rw [hr] at q
    refine EvD.body Try.func23 rfl rfl rfl ?_
    refine AWP.seq ?_
    refine TO ⟨[.agg [(I6 n), tl ks]] ++ UU 10, []⟩ ?_
    refine AWP.reg (RT 2 ?_)
    refine AWP.seq (KL [0] ⟨[U6, .ptr 0 0, (B6 false)] ++ UU 8, [⟨[(I6 n), tl ks], 2, .fresh⟩]⟩ ?_)
    refine AWP.drawX mixed (fun o => [7, 9, 4].contains (o.dst.getD 0)) (by kernel_rfl) ?_
    refine DerX.quietI ((2 : Nat) ≤ (2 : Nat)) (by intro ext; kernel_rfl) (by kernel_rfl) (by omega) ?_
    refine DerX.callDI (q) ⟨by kernel_rfl, by kernel_rfl⟩ ?_
    refine DerX.preI 7 ((True) ∧ ((True) ∧ ((True) ∧ (True)))) (by intro ext; kernel_rfl) ⟨trivial, ⟨trivial, ⟨trivial, trivial⟩⟩⟩ ?_
    refine DerX.nil ?_
    refine AWP.ret ?_
    refine FI (.sc (.bool false)) ?_
    refine Shrink.all ?_ rfl
    (simp [checkE, hr]; done)
  · rw [hr] at q
    have q2 := er_norm 1000000 n ks 16 1073741824 hN hr (by omega)
    refine EvD.body Try.func23 rfl rfl rfl ?_
    refine AWP.seq ?_
    refine TO ⟨[.agg [(I6 n), tl ks]] ++ UU 10, []⟩ ?_
    refine AWP.reg (RT 2 ?_)
    refine AWP.seq (KL [0] ⟨[U6, .ptr 0 0, (B6 false)] ++ UU 8, [⟨[(I6 n), tl ks], 2, .fresh⟩]⟩ ?_)
    refine AWP.drawX mixed (fun o => [4, 7, 9].contains (o.dst.getD 0)) (by kernel_rfl) ?_
    refine DerX.quietI ((2 : Nat) ≤ (2 : Nat)) (by intro ext; kernel_rfl) (by kernel_rfl) (by omega) ?_
    refine DerX.callDI (q) ⟨by kernel_rfl, by kernel_rfl⟩ ?_
    refine DerX.preI 2 ((True) ∧ (((2 : Nat) ≤ (2 : Nat)) ∧ (True))) (by intro ext; kernel_rfl) ⟨trivial, ⟨(by omega), trivial⟩⟩ ?_
    refine DerX.callDI (q2) ⟨by kernel_rfl, by kernel_rfl⟩ ?_
    refine DerX.quietI ((2 : Nat) ≤ (2 : Nat)) (by intro ext; kernel_rfl) (by kernel_rfl) (by omega) ?_
    refine DerX.callD (r_same 1000000 (by omega) (T.n (normE (T.mk n ks))) n (T.ks (normE (T.mk n ks))) ks (by (rw [T.mk_eta]; omega))) ⟨[U6, .ptr 0 0, (B6 false), .agg [(I6 n), tl ks], (B6 true), (B6 true), .agg [(I6 n), tl ks], .agg [(I6 (T.n (normE (T.mk n ks)))), tl (T.ks (normE (T.mk n ks)))], .agg [(I6 n), tl ks], (B6 (beqT (T.mk (T.n (normE (T.mk n ks))) (T.ks (normE (T.mk n ks)))) (T.mk n ks))), .undef], [⟨[(I6 n), tl ks], 2, .fresh⟩]⟩ ⟨by kernel_rfl, by kernel_rfl, by kernel_rfl⟩ ?_
    rw [Go.Tr.T.mk_eta (normE (T.mk n ks))]
    refine DerX.preI 2 ((True) ∧ ((True) ∧ (True))) (by intro ext; kernel_rfl) ⟨trivial, ⟨trivial, trivial⟩⟩ ?_
    refine DerX.nil ?_
    refine AWP.ret ?_
    refine FI (.sc (.bool (beqT (normE (T.mk n ks)) (T.mk n ks)))) ?_
    refine Shrink.all ?_ rfl
    (simp [checkE, hr, beqT_comm]; done)
theorem e_Norm (n : Int) (ks : List T) (hN : size (.mk n ks) ≤ 1000000) : EvD Try.prog 17 [.agg [.sc (.int .i64 n), .sl (tcs ks) ks.length .any]] (.tup [ag (normEP (.mk n ks)).1, .sc (.int .i64 (normEP (.mk n ks)).2)]) := by
  have q := e_rough 1000000 n ks 16 1073741824 hN (by omega) (by omega) (by omega) (by omega)
  cases hr : roughE 16 1073741824 (.mk n ks)
  · rw [hr] at q
    refine EvD.body Try.func17 rfl rfl rfl ?_
    refine AWP.seq ?_
    refine TO ⟨[.agg [(I6 n), tl ks]] ++ UU 9, []⟩ ?_
    refine AWP.reg (RT 3 ?_)
    refine AWP.seq (AWP.seq (KL [0] ⟨[U6, .ptr 0 0, .ptr 1 0, (I6 0)] ++ UU 6, [⟨[(I6 n), tl ks], 2, .fresh⟩, ⟨[(I6 0), .sl [] 0 .nil], 2, .fresh⟩]⟩ ?_))
    refine AWP.reg (PI 1 (2 ≤ 2 ∧ True) ⟨(by omega), trivial⟩ ?_)
    refine CD (q) ?_
    refine RT 1 ?_
    refine KL [4, 5] ⟨[U6, .ptr 0 0, .ptr 1 0, (I6 0), U6, U6, (B6 true), U6, U6, .undef], [⟨[(I6 n), tl ks], 2, .fresh⟩, ⟨[(I6 0), .sl [] 0 .nil], 2, .fresh⟩]⟩ ?_
    refine CN true (fun _ => ?_) (fun h => nomatch h)
    refine SQ (RI (True ∧ 2 ≤ 2 ∧ True ∧ True) ⟨trivial, (by omega), trivial, trivial⟩ ?_)
    refine AWP.ret ?_
    refine FI (.tup [.agg [.sc (.int .i64 0), .sl [] 0 .nil], .sc (.int .i64 3)]) ?_
    refine Shrink.dataK [] (True) (.tup [.agg [.sc (.int .i64 0), .sl [] 0 .nil], .sc (.int .i64 3)]) (by kernel_rfl) trivial ?_ rfl
    (rw [normEP, if_neg (by rw [hr]; exact Bool.false_ne_true)]; rfl; done)
  · rw [hr] at q
    have q2 := e_norm 1000000 n ks 16 1073741824 hN hr (by omega)
    refine EvD.body Try.func17 rfl rfl rfl ?_
    refine AWP.seq ?_
    refine TO ⟨[.agg [(I6 n), tl ks]] ++ UU 9, []⟩ ?_
    refine AWP.reg (RT 3 ?_)
    refine AWP.seq (AWP.seq (KL [0] ⟨[U6, .ptr 0 0, .ptr 1 0, (I6 0)] ++ UU 6, [⟨[(I6 n), tl ks], 2, .fresh⟩, ⟨[(I6 0), .sl [] 0 .nil], 2, .fresh⟩]⟩ ?_))
    refine AWP.reg (PI 1 (2 ≤ 2 ∧ True) ⟨(by omega), trivial⟩ ?_)
    refine CD (q) ?_
    refine RT 1 ?_
    refine KL [4, 5] ⟨[U6, .ptr 0 0, .ptr 1 0, (I6 0), U6, U6, (B6 false), U6, U6, .undef], [⟨[(I6 n), tl ks], 2, .fresh⟩, ⟨[(I6 0), .sl [] 0 .nil], 2, .fresh⟩]⟩ ?_
    refine CN false (fun h => nomatch h) (fun _ => ?_)
    refine AWP.skip (SQ (PI 1 (2 ≤ 2 ∧ True) ⟨(by omega), trivial⟩ ?_))
    refine CD (q2) ?_
    refine RI (2 ≤ 2 ∧ True ∧ True) ⟨(by omega), trivial, trivial⟩ ?_
    refine AWP.ret ?_
    refine FI (.tup [.agg [.sc (.int .i64 (T.n (normE (T.mk n ks)))), .sl (tcs (T.ks (normE (T.mk n ks)))) (List.length (T.ks (normE (T.mk n ks)))) .any], .sc (.int .i64 0)]) ?_
    refine Shrink.dataK [] (True) (.tup [.agg [.sc (.int .i64 (T.n (normE (T.mk n ks)))), .sl (tcs (T.ks (normE (T.mk n ks)))) (List.length (T.ks (normE (T.mk n ks)))) .any], .sc (.int .i64 0)]) (by kernel_rfl) trivial ?_ rfl
    (rw [normEP, if_pos hr]; rfl; done)
theorem kids (n : Int) (ks : List T) (d l : Int) (h : roughE d l (.mk n ks) = true) (hl : l ≤ 2000000000) : EvD Try.prog 109 [.agg [.sc (.int .i64 n), .sl (tcs ks) ks.length .any]] (.agg [.sc (.int .i64 (kidE (.mk n ks) 0).n), .sl (tcs (kidE (.mk n ks) 0).ks) (kidE (.mk n ks) 0).ks.length .any, .sc (.int .i64 (kidE (.mk n ks) 1).n), .sl (tcs (kidE (.mk n ks) 1).ks) (kidE (.mk n ks) 1).ks.length .any]) := by
  have hn := roughE_n h
  simp only [T.n_mk] at hn
  rcases bin_case (roughE_bin _ _ _ h) with rfl | ⟨n1, k1, n2, k2, rfl⟩
  · refine EvD.body Try.func109 rfl rfl rfl ?_
    refine AWP.seq ?_
    refine TO ⟨[.agg [(I6 n), .sl [] 0 .any]] ++ UU 30, []⟩ ?_
    refine AWP.reg (RT 2 ?_)
    refine AWP.seq (KL [0] ⟨[U6, .ptr 0 0, .ptr 1 0] ++ UU 28, [⟨[(I6 n), .sl [] 0 .any], 2, .fresh⟩, ⟨[(I6 0), .sl [] 0 .nil, (I6 0), .sl [] 0 .nil], 2, .fresh⟩]⟩ ?_)
    refine AWP.reg (PI 2 (True ∧ 0 < 2 ∧ True) ⟨trivial, (by omega), trivial⟩ ?_)
    refine CD (lift n) ?_
    refine RT 1 ?_
    refine AWP.seq (AWP.seq (KL [4, 5, 6] ⟨[U6, .ptr 0 0, .ptr 1 0, .fn 123 [.dptr [(I6 n)]]] ++ UU 27, [⟨[(I6 n), .sl [] 0 .any], 2, .fresh⟩, ⟨[(I6 0), .sl [] 0 .nil, (I6 0), .sl [] 0 .nil], 2, .fresh⟩]⟩ ?_))
    refine AWP.reg (RI (True ∧ 1 < 2 ∧ True ∧ True ∧ True) ⟨trivial, (by omega), trivial, trivial, trivial⟩ ?_)
    refine KL [7, 8, 9] ⟨[U6, .ptr 0 0, .ptr 1 0, .fn 123 [.dptr [(I6 n)]]] ++ UU 6 ++ [(B6 true)] ++ UU 20, [⟨[(I6 n), .sl [] 0 .any], 2, .fresh⟩, ⟨[(I6 0), .sl [] 0 .nil, (I6 0), .sl [] 0 .nil], 2, .fresh⟩]⟩ ?_
    refine CN true (fun _ => ?_) (fun h => nomatch h)
    refine SQ (PT 2 2 ?_)
    refine DerQ.callEI (lift1 ((0 : Int)) n [] ((0 : Nat)) ⟨(by omega), (by omega)⟩) ⟨by kernel_rfl, by kernel_rfl⟩ ?_
    refine PT 2 2 ?_
    refine DerQ.callEI (lift1 ((0 : Int)) n [] ((0 : Nat)) ⟨(by omega), (by omega)⟩) ⟨by kernel_rfl, by kernel_rfl⟩ ?_
    refine RI (True ∧ 4 ≤ 4 ∧ True) ⟨trivial, (by omega), trivial⟩ ?_
    refine AWP.ret ?_
    refine FI (.agg [.sc (.int .i64 (0 + n)), .sl [] 0 .any, .sc (.int .i64 (0 + n)), .sl [] 0 .any]) ?_
    refine Shrink.dataK [] (True) (.agg [.sc (.int .i64 (0 + n)), .sl [] 0 .any, .sc (.int .i64 (0 + n)), .sl [] 0 .any]) (by kernel_rfl) trivial ?_ rfl
    (rw [kidE_leaf (by rfl), kidE_leaf (by rfl)]; simp only [T.n_mk, T.ks_mk, Int.zero_add]; rfl; done)
  · obtain ⟨g1, g2, g3, g4, g5⟩ := roughE_kids h
    have m1 := roughE_n g4
    have m2 := roughE_n g5
    simp only [T.n_mk] at m1 m2
    rw [tcs2]
    refine EvD.body Try.func109 rfl rfl rfl ?_
    refine AWP.seq ?_
    refine TO ⟨[.agg [(I6 n), .sl [(I6 n1), tl k1, (I6 n2), tl k2] 2 .any]] ++ UU 30, []⟩ ?_
    refine AWP.reg (RT 2 ?_)
    refine AWP.seq (KL [0] ⟨[U6, .ptr 0 0, .ptr 1 0] ++ UU 28, [⟨[(I6 n), .sl [(I6 n1), tl k1, (I6 n2), tl k2] 2 .any], 2, .fresh⟩, ⟨[(I6 0), .sl [] 0 .nil, (I6 0), .sl [] 0 .nil], 2, .fresh⟩]⟩ ?_)
    refine AWP.reg (PI 2 (True ∧ 0 < 2 ∧ True) ⟨trivial, (by omega), trivial⟩ ?_)
    refine CD (lift n) ?_
    refine RT 1 ?_
    refine AWP.seq (AWP.seq (KL [4, 5, 6] ⟨[U6, .ptr 0 0, .ptr 1 0, .fn 123 [.dptr [(I6 n)]]] ++ UU 27, [⟨[(I6 n), .sl [(I6 n1), tl k1, (I6 n2), tl k2] 2 .any], 2, .fresh⟩, ⟨[(I6 0), .sl [] 0 .nil, (I6 0), .sl [] 0 .nil], 2, .fresh⟩]⟩ ?_))
    refine AWP.reg (RI (True ∧ 1 < 2 ∧ True ∧ True ∧ True) ⟨trivial, (by omega), trivial, trivial, trivial⟩ ?_)
    refine KL [7, 8, 9] ⟨[U6, .ptr 0 0, .ptr 1 0, .fn 123 [.dptr [(I6 n)]]] ++ UU 6 ++ [(B6 false)] ++ UU 20, [⟨[(I6 n), .sl [(I6 n1), tl k1, (I6 n2), tl k2] 2 .any], 2, .fresh⟩, ⟨[(I6 0), .sl [] 0 .nil, (I6 0), .sl [] 0 .nil], 2, .fresh⟩]⟩ ?_
    refine CN false (fun h => nomatch h) (fun _ => ?_)
    refine AWP.skip (AWP.seq ?_)
    refine AWP.drawB mixed (fun o => if [].contains (o.dst.getD 0) then 1 else if [23, 29].contains (o.dst.getD 0) then 2 else if [0].contains (o.dst.getD 0) then 3 else 0) 0 2 (fun x => [⟨[(I6 n), .sl [(I6 n1), tl k1, (I6 n2), tl k2] 2 .any], 2, .fresh⟩, ⟨x 1, 2, .fresh⟩]) ⟨[U6, .ptr 0 0, .ptr 1 0, .fn 123 [.dptr [(I6 n)]]] ++ UU 6 ++ [(B6 false)] ++ UU 20, [⟨[(I6 n), .sl [(I6 n1), tl k1, (I6 n2), tl k2] 2 .any], 2, .fresh⟩, ⟨[(I6 0), .sl [] 0 .nil, (I6 0), .sl [] 0 .nil], 2, .fresh⟩]⟩ (by kernel_rfl) ⟨by kernel_rfl, by kernel_rfl⟩ (by kernel_rfl) ?_
    refine DerZ.preI 5 ((True) ∧ ((True) ∧ (((1 : Nat) < (2 : Nat)) ∧ (((((0 : Int) ≤ (0 : Int)) ∧ ((0 : Int) < (2 : Int))) ∧ ((2 : Nat) ≤ (4 : Nat))) ∧ (((2 : Nat) ≤ (2 : Nat)) ∧ (True)))))) (by intro x ext; kernel_rfl) ⟨trivial, ⟨trivial, ⟨(by omega), ⟨⟨⟨(by omega), (by omega)⟩, (by omega)⟩, ⟨(by omega), trivial⟩⟩⟩⟩⟩ ?_
    refine DerZ.callDI (lift1 n1 n (tcs k1) (List.length k1) ⟨(by omega), (by omega)⟩) ⟨by kernel_rfl, by kernel_rfl⟩ ?_
    refine DerZ.preI 5 ((True) ∧ ((True) ∧ (((1 : Nat) < (2 : Nat)) ∧ (((((0 : Int) ≤ (1 : Int)) ∧ ((1 : Int) < (2 : Int))) ∧ ((4 : Nat) ≤ (4 : Nat))) ∧ (((2 : Nat) ≤ (2 : Nat)) ∧ (True)))))) (by intro x ext; kernel_rfl) ⟨trivial, ⟨trivial, ⟨(by omega), ⟨⟨⟨(by omega), (by omega)⟩, (by omega)⟩, ⟨(by omega), trivial⟩⟩⟩⟩⟩ ?_
    refine DerZ.callDI (lift1 n2 n (tcs k2) (List.length k2) ⟨(by omega), (by omega)⟩) ⟨by kernel_rfl, by kernel_rfl⟩ ?_
    refine DerZ.quietI (True) (by intro x ext; kernel_rfl) (by kernel_rfl) trivial ?_
    refine DerZ.effI 2 ((4 : Nat) ≤ (4 : Nat)) (by kernel_rfl) ⟨⟨by kernel_rfl, by kernel_rfl⟩, by kernel_rfl⟩ (by omega) ?_
    refine DerZ.nil ?_
    refine AWP.ret FA
end Go.Tr
