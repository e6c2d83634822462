/- Walks and laws. -/
import Derived.Test.YtgpikfncinkjlaaId2
import Derived.Test.YtgpikfncinkjlaaLibB
set_option maxRecDepth 100000
set_option maxHeartbeats 0
set_option linter.unusedSimpArgs false
set_option linter.unusedVariables false
namespace Go.Tr
open Go Go.Abs Go.Proofs
theorem sum (N : Nat) (hN9 : N ≤ 100000) : ∀ (n m : Int) (ks ls : List T), size (.mk n ks) + size (.mk m ls) ≤ N → binT (.mk n ks) = true → binT (.mk m ls) = true → EvD Try.prog 92 [.agg [.sc (.int .i64 n), .sl (tcs ks) ks.length .any], .agg [.sc (.int .i64 m), .sl (tcs ls) ls.length .any]] (.tup [ag (sumI (.mk n ks) (.mk m ls)).1, .sc (.bool (sumI (.mk n ks) (.mk m ls)).2)]) := by
  induction N with
  | zero => intro n m ks ls h; rw [size] at h; omega
  | succ N ih =>
    intro n m ks ls hN ha hb
    have ih := ih (by omega)
    rcases bin_case ha with rfl | ⟨n1, k1, n2, k2, rfl⟩
    · refine EvD.body Try.func92 rfl rfl rfl ?_
      refine AWP.seq ?_
      refine TO ⟨[.agg [(I6 n), .sl [] 0 .any], .agg [(I6 m), tl ls]] ++ UU 62, []⟩ ?_
      refine AWP.reg (RT 4 ?_)
      refine AWP.seq (AWP.block (AWP.seq (KL [0, 1] ⟨[U6, U6, .ptr 0 0, .ptr 1 0, .ptr 2 0, (B6 false)] ++ UU 58, [⟨[(I6 n), .sl [] 0 .any], 2, .fresh⟩, ⟨[(I6 m), tl ls], 2, .fresh⟩, ⟨[(I6 0), .sl [] 0 .nil], 2, .fresh⟩]⟩ ?_)))
      refine AWP.reg (PI 1 (2 ≤ 2 ∧ True) ⟨(by omega), trivial⟩ ?_)
      refine CD (is n ((0 : Int)) [] ((0 : Nat))) ?_
      refine RT 1 ?_
      refine KL [11, 12] ⟨[U6, U6, .ptr 0 0, .ptr 1 0, .ptr 2 0, (B6 false), U6, U6, U6, U6, (B6 (decide (0 = 0 ∧ n = 0)))] ++ UU 53, [⟨[(I6 n), .sl [] 0 .any], 2, .fresh⟩, ⟨[(I6 m), tl ls], 2, .fresh⟩, ⟨[(I6 0), .sl [] 0 .nil], 2, .fresh⟩]⟩ ?_
      refine CN (decide (0 = 0 ∧ n = 0)) (fun h1 => ?_) (fun h1 => ?_)
      · have h1' := of_decide_eq_true h1
        refine SQ (RI (2 ≤ 2 ∧ 2 ≤ 2 ∧ True ∧ True) ⟨(by omega), (by omega), trivial, trivial⟩ ?_)
        refine AWP.ret ?_
        refine FI (.tup [.agg [.sc (.int .i64 (m)), .sl (tcs ls) (List.length ls) .any], .sc (.bool true)]) ?_
        refine Shrink.dataK [] (True) (.tup [.agg [.sc (.int .i64 (m)), .sl (tcs ls) (List.length ls) .any], .sc (.bool true)]) (by kernel_rfl) trivial ?_ rfl
        (rw [sum_l, if_pos (by omega)]; rfl; done)
      · have h1' := of_decide_eq_false h1
        refine SQ (PI 1 (2 ≤ 2 ∧ True) ⟨(by omega), trivial⟩ ?_)
        refine CD (is m ((0 : Int)) (tcs ls) (List.length ls)) ?_
        refine RT 1 ?_
        refine KL [10, 15, 16] ⟨[U6, U6, .ptr 0 0, .ptr 1 0, .ptr 2 0, (B6 false)] ++ UU 8 ++ [(B6 (decide (List.length ls = 0 ∧ m = 0)))] ++ UU 49, [⟨[(I6 n), .sl [] 0 .any], 2, .fresh⟩, ⟨[(I6 m), tl ls], 2, .fresh⟩, ⟨[(I6 0), .sl [] 0 .nil], 2, .fresh⟩]⟩ ?_
        refine CN (decide (List.length ls = 0 ∧ m = 0)) (fun h2 => ?_) (fun h2 => ?_)
        · have h2' := of_decide_eq_true h2
          refine SQ (RI (2 ≤ 2 ∧ 2 ≤ 2 ∧ True ∧ True) ⟨(by omega), (by omega), trivial, trivial⟩ ?_)
          refine AWP.ret ?_
          refine FI (.tup [.agg [.sc (.int .i64 (n)), .sl [] 0 .any], .sc (.bool true)]) ?_
          refine Shrink.dataK [] (True) (.tup [.agg [.sc (.int .i64 (n)), .sl [] 0 .any], .sc (.bool true)]) (by kernel_rfl) trivial ?_ rfl
          (rw [sum_l, if_neg (by omega), if_pos (by omega)]; rfl; done)
        · have h2' := of_decide_eq_false h2
          refine SQ (RI (True ∧ 1 < 2 ∧ True ∧ True ∧ True ∧ True ∧ True ∧ True) ⟨trivial, (by omega), trivial, trivial, trivial, trivial, trivial, trivial⟩ ?_)
          refine KL ([14] ++ NN 19 10) ⟨[U6, U6, .ptr 0 0, .ptr 1 0, .ptr 2 0, (B6 false)] ++ UU 12 ++ [(B6 true)] ++ UU 45, [⟨[(I6 n), .sl [] 0 .any], 2, .fresh⟩, ⟨[(I6 m), tl ls], 2, .fresh⟩, ⟨[(I6 0), .sl [] 0 .nil], 2, .fresh⟩]⟩ ?_
          refine CN true (fun _ => ?_) (fun h => nomatch h)
          refine SQ (RI (True ∧ 2 ≤ 2 ∧ True ∧ True) ⟨trivial, (by omega), trivial, trivial⟩ ?_)
          refine AWP.ret ?_
          refine FI (.tup [.agg [.sc (.int .i64 0), .sl [] 0 .nil], .sc (.bool false)]) ?_
          refine Shrink.dataK [] (True) (.tup [.agg [.sc (.int .i64 0), .sl [] 0 .nil], .sc (.bool false)]) (by kernel_rfl) trivial ?_ rfl
          (rw [sum_l, if_neg (by omega), if_neg (by omega)]; rfl; done)
    · rcases bin_case hb with rfl | ⟨m1, l1, m2, l2, rfl⟩
      · rw [tcs2]
        refine EvD.body Try.func92 rfl rfl rfl ?_
        refine AWP.seq ?_
        refine TO ⟨[.agg [(I6 n), .sl [(I6 n1), tl k1, (I6 n2), tl k2] 2 .any], .agg [(I6 m), .sl [] 0 .any]] ++ UU 62, []⟩ ?_
        refine AWP.reg (RT 4 ?_)
        refine AWP.seq (AWP.block (AWP.seq (KL [0, 1] ⟨[U6, U6, .ptr 0 0, .ptr 1 0, .ptr 2 0, (B6 false)] ++ UU 58, [⟨[(I6 n), .sl [(I6 n1), tl k1, (I6 n2), tl k2] 2 .any], 2, .fresh⟩, ⟨[(I6 m), .sl [] 0 .any], 2, .fresh⟩, ⟨[(I6 0), .sl [] 0 .nil], 2, .fresh⟩]⟩ ?_)))
        refine AWP.reg (PI 1 (2 ≤ 2 ∧ True) ⟨(by omega), trivial⟩ ?_)
        refine CD (is n ((0 : Int)) [(I6 n1), tl k1, (I6 n2), tl k2] ((2 : Nat))) ?_
        refine RT 1 ?_
        refine KL [11, 12] ⟨[U6, U6, .ptr 0 0, .ptr 1 0, .ptr 2 0, (B6 false), U6, U6, U6, U6, (B6 false)] ++ UU 53, [⟨[(I6 n), .sl [(I6 n1), tl k1, (I6 n2), tl k2] 2 .any], 2, .fresh⟩, ⟨[(I6 m), .sl [] 0 .any], 2, .fresh⟩, ⟨[(I6 0), .sl [] 0 .nil], 2, .fresh⟩]⟩ ?_
        refine CN false (fun h => nomatch h) (fun _ => ?_)
        refine SQ (PI 1 (2 ≤ 2 ∧ True) ⟨(by omega), trivial⟩ ?_)
        refine CD (is m ((0 : Int)) [] ((0 : Nat))) ?_
        refine RT 1 ?_
        refine KL [10, 15, 16] ⟨[U6, U6, .ptr 0 0, .ptr 1 0, .ptr 2 0, (B6 false)] ++ UU 8 ++ [(B6 (decide (0 = 0 ∧ m = 0)))] ++ UU 49, [⟨[(I6 n), .sl [(I6 n1), tl k1, (I6 n2), tl k2] 2 .any], 2, .fresh⟩, ⟨[(I6 m), .sl [] 0 .any], 2, .fresh⟩, ⟨[(I6 0), .sl [] 0 .nil], 2, .fresh⟩]⟩ ?_
        refine CN (decide (0 = 0 ∧ m = 0)) (fun h1 => ?_) (fun h1 => ?_)
        · have h1' := of_decide_eq_true h1
          refine SQ (RI (2 ≤ 2 ∧ 2 ≤ 2 ∧ True ∧ True) ⟨(by omega), (by omega), trivial, trivial⟩ ?_)
          refine AWP.ret ?_
          refine FI (.tup [.agg [.sc (.int .i64 (n)), .sl [.sc (.int .i64 (n1)), .sl (tcs k1) (List.length k1) .any, .sc (.int .i64 (n2)), .sl (tcs k2) (List.length k2) .any] 2 .any], .sc (.bool true)]) ?_
          refine Shrink.dataK [] (True) (.tup [.agg [.sc (.int .i64 (n)), .sl [.sc (.int .i64 (n1)), .sl (tcs k1) (List.length k1) .any, .sc (.int .i64 (n2)), .sl (tcs k2) (List.length k2) .any] 2 .any], .sc (.bool true)]) (by kernel_rfl) trivial ?_ rfl
          (rw [sum_r, if_pos (by omega)]; rfl; done)
        · have h1' := of_decide_eq_false h1
          refine SQ (RI (True ∧ 1 < 2 ∧ True ∧ True ∧ True ∧ True ∧ 1 < 2 ∧ True ∧ True ∧ True ∧ True ∧ True) ⟨trivial, (by omega), trivial, trivial, trivial, trivial, (by omega), trivial, trivial, trivial, trivial, trivial⟩ ?_)
          refine KL ([14] ++ NN 19 10) ⟨[U6, U6, .ptr 0 0, .ptr 1 0, .ptr 2 0, (B6 false)] ++ UU 12 ++ [(B6 true)] ++ UU 45, [⟨[(I6 n), .sl [(I6 n1), tl k1, (I6 n2), tl k2] 2 .any], 2, .fresh⟩, ⟨[(I6 m), .sl [] 0 .any], 2, .fresh⟩, ⟨[(I6 0), .sl [] 0 .nil], 2, .fresh⟩]⟩ ?_
          refine CN true (fun _ => ?_) (fun h => nomatch h)
          refine SQ (RI (True ∧ 2 ≤ 2 ∧ True ∧ True) ⟨trivial, (by omega), trivial, trivial⟩ ?_)
          refine AWP.ret ?_
          refine FI (.tup [.agg [.sc (.int .i64 0), .sl [] 0 .nil], .sc (.bool false)]) ?_
          refine Shrink.dataK [] (True) (.tup [.agg [.sc (.int .i64 0), .sl [] 0 .nil], .sc (.bool false)]) (by kernel_rfl) trivial ?_ rfl
          (rw [sum_r, if_neg (by omega)]; rfl; done)
      · obtain ⟨ha1, ha2⟩ := bin_kids ha
        obtain ⟨hb1, hb2⟩ := bin_kids hb
        simp only [size, sizes] at hN
        rw [tcs2, tcs2]
        refine EvD.body Try.func92 rfl rfl rfl ?_
        refine AWP.seq ?_
        refine TO ⟨[.agg [(I6 n), .sl [(I6 n1), tl k1, (I6 n2), tl k2] 2 .any], .agg [(I6 m), .sl [(I6 m1), tl l1, (I6 m2), tl l2] 2 .any]] ++ UU 62, []⟩ ?_
        refine AWP.reg (RT 4 ?_)
        refine AWP.seq (AWP.block (AWP.seq (KL [0, 1] ⟨[U6, U6, .ptr 0 0, .ptr 1 0, .ptr 2 0, (B6 false)] ++ UU 58, [⟨[(I6 n), .sl [(I6 n1), tl k1, (I6 n2), tl k2] 2 .any], 2, .fresh⟩, ⟨[(I6 m), .sl [(I6 m1), tl l1, (I6 m2), tl l2] 2 .any], 2, .fresh⟩, ⟨[(I6 0), .sl [] 0 .nil], 2, .fresh⟩]⟩ ?_)))
        refine AWP.reg (PI 1 (2 ≤ 2 ∧ True) ⟨(by omega), trivial⟩ ?_)
        refine CD (is n ((0 : Int)) [(I6 n1), tl k1, (I6 n2), tl k2] ((2 : Nat))) ?_
        refine RT 1 ?_
        refine KL [11, 12] ⟨[U6, U6, .ptr 0 0, .ptr 1 0, .ptr 2 0, (B6 false), U6, U6, U6, U6, (B6 false)] ++ UU 53, [⟨[(I6 n), .sl [(I6 n1), tl k1, (I6 n2), tl k2] 2 .any], 2, .fresh⟩, ⟨[(I6 m), .sl [(I6 m1), tl l1, (I6 m2), tl l2] 2 .any], 2, .fresh⟩, ⟨[(I6 0), .sl [] 0 .nil], 2, .fresh⟩]⟩ ?_
        refine CN false (fun h => nomatch h) (fun _ => ?_)
        refine SQ (PI 1 (2 ≤ 2 ∧ True) ⟨(by omega), trivial⟩ ?_)
        refine CD (is m ((0 : Int)) [(I6 m1), tl l1, (I6 m2), tl l2] ((2 : Nat))) ?_
        refine RT 1 ?_
        refine KL [10, 15, 16] ⟨[U6, U6, .ptr 0 0, .ptr 1 0, .ptr 2 0, (B6 false)] ++ UU 8 ++ [(B6 false)] ++ UU 49, [⟨[(I6 n), .sl [(I6 n1), tl k1, (I6 n2), tl k2] 2 .any], 2, .fresh⟩, ⟨[(I6 m), .sl [(I6 m1), tl l1, (I6 m2), tl l2] 2 .any], 2, .fresh⟩, ⟨[(I6 0), .sl [] 0 .nil], 2, .fresh⟩]⟩ ?_
        refine CN false (fun h => nomatch h) (fun _ => ?_)
        refine SQ (RI (True ∧ 1 < 2 ∧ True ∧ True ∧ True ∧ True ∧ 1 < 2 ∧ True ∧ True ∧ True ∧ True ∧ True) ⟨trivial, (by omega), trivial, trivial, trivial, trivial, (by omega), trivial, trivial, trivial, trivial, trivial⟩ ?_)
        refine KL ([14] ++ NN 19 10) ⟨[U6, U6, .ptr 0 0, .ptr 1 0, .ptr 2 0, (B6 false)] ++ UU 12 ++ [(B6 false)] ++ UU 45, [⟨[(I6 n), .sl [(I6 n1), tl k1, (I6 n2), tl k2] 2 .any], 2, .fresh⟩, ⟨[(I6 m), .sl [(I6 m1), tl l1, (I6 m2), tl l2] 2 .any], 2, .fresh⟩, ⟨[(I6 0), .sl [] 0 .nil], 2, .fresh⟩]⟩ ?_
        refine CN false (fun h => nomatch h) (fun _ => ?_)
        refine AWP.skip (AWP.seq ?_)
        refine AWP.drawX mixed (fun o => [6, 0].contains (o.dst.getD 0)) (by kernel_rfl) ?_
        refine DerX.preI 8 ((True) ∧ (((1 : Nat) < (2 : Nat)) ∧ (((((0 : Int) ≤ (0 : Int)) ∧ ((0 : Int) < (2 : Int))) ∧ ((2 : Nat) ≤ (4 : Nat))) ∧ (((2 : Nat) ≤ (2 : Nat)) ∧ ((True) ∧ (((1 : Nat) < (2 : Nat)) ∧ (((((0 : Int) ≤ (0 : Int)) ∧ ((0 : Int) < (2 : Int))) ∧ ((2 : Nat) ≤ (4 : Nat))) ∧ (((2 : Nat) ≤ (2 : Nat)) ∧ (True))))))))) (by intro ext; kernel_rfl) ⟨trivial, ⟨(by omega), ⟨⟨⟨(by omega), (by omega)⟩, (by omega)⟩, ⟨(by omega), ⟨trivial, ⟨(by omega), ⟨⟨⟨(by omega), (by omega)⟩, (by omega)⟩, ⟨(by omega), trivial⟩⟩⟩⟩⟩⟩⟩⟩ ?_
        refine DerX.callDI (ih n1 m1 k1 l1 (by (rw [size, size]; omega)) (by omega) (by omega)) ⟨by kernel_rfl, by kernel_rfl⟩ ?_
        refine DerX.preI 3 ((True) ∧ ((True) ∧ ((True) ∧ (True)))) (by intro ext; kernel_rfl) ⟨trivial, ⟨trivial, ⟨trivial, trivial⟩⟩⟩ ?_
        refine DerX.effI (True) (by kernel_rfl) ⟨by kernel_rfl, by kernel_rfl, by kernel_rfl⟩ trivial ?_
        refine DerX.effI ((2 : Nat) ≤ (2 : Nat)) (by kernel_rfl) ⟨by kernel_rfl, by kernel_rfl, by kernel_rfl⟩ (by omega) ?_
        refine DerX.quietI (True) (by intro ext; kernel_rfl) (by kernel_rfl) trivial ?_
        refine DerX.nil ?_
        refine AWP.seq (KL ([18] ++ NN 30 12) ⟨[U6, U6, .ptr 0 0, .ptr 1 0, .ptr 2 0, (B6 false), .ptr 3 0, (B6 ((sumI (T.mk n1 k1) (T.mk m1 l1)).2))] ++ UU 56, [⟨[(I6 n), .sl [(I6 n1), tl k1, (I6 n2), tl k2] 2 .any], 2, .fresh⟩, ⟨[(I6 m), .sl [(I6 m1), tl l1, (I6 m2), tl l2] 2 .any], 2, .fresh⟩, ⟨[(I6 0), .sl [] 0 .nil], 2, .fresh⟩, ⟨[(I6 (T.n (sumI (T.mk n1 k1) (T.mk m1 l1)).1)), tl (T.ks (sumI (T.mk n1 k1) (T.mk m1 l1)).1)], 2, .fresh⟩]⟩ ?_)
        refine AWP.drawX mixed (fun o => [8, 0].contains (o.dst.getD 0)) (by kernel_rfl) ?_
        refine DerX.preI 8 ((True) ∧ (((1 : Nat) < (2 : Nat)) ∧ (((((0 : Int) ≤ (1 : Int)) ∧ ((1 : Int) < (2 : Int))) ∧ ((4 : Nat) ≤ (4 : Nat))) ∧ (((2 : Nat) ≤ (2 : Nat)) ∧ ((True) ∧ (((1 : Nat) < (2 : Nat)) ∧ (((((0 : Int) ≤ (1 : Int)) ∧ ((1 : Int) < (2 : Int))) ∧ ((4 : Nat) ≤ (4 : Nat))) ∧ (((2 : Nat) ≤ (2 : Nat)) ∧ (True))))))))) (by intro ext; kernel_rfl) ⟨trivial, ⟨(by omega), ⟨⟨⟨(by omega), (by omega)⟩, (by omega)⟩, ⟨(by omega), ⟨trivial, ⟨(by omega), ⟨⟨⟨(by omega), (by omega)⟩, (by omega)⟩, ⟨(by omega), trivial⟩⟩⟩⟩⟩⟩⟩⟩ ?_
        refine DerX.callDI (ih n2 m2 k2 l2 (by (rw [size, size]; omega)) (by omega) (by omega)) ⟨by kernel_rfl, by kernel_rfl⟩ ?_
        refine DerX.preI 3 ((True) ∧ ((True) ∧ ((True) ∧ (True)))) (by intro ext; kernel_rfl) ⟨trivial, ⟨trivial, ⟨trivial, trivial⟩⟩⟩ ?_
        refine DerX.effI (True) (by kernel_rfl) ⟨by kernel_rfl, by kernel_rfl, by kernel_rfl⟩ trivial ?_
        refine DerX.effI ((2 : Nat) ≤ (2 : Nat)) (by kernel_rfl) ⟨by kernel_rfl, by kernel_rfl, by kernel_rfl⟩ (by omega) ?_
        refine DerX.quietI (True) (by intro ext; kernel_rfl) (by kernel_rfl) trivial ?_
        refine DerX.nil ?_
        refine AWP.seq (AWP.seq (KL ([2, 3] ++ NN 42 12) ⟨[U6, U6, U6, U6, .ptr 2 0, (B6 false), .ptr 3 0, (B6 ((sumI (T.mk n1 k1) (T.mk m1 l1)).2)), .ptr 4 0, (B6 ((sumI (T.mk n2 k2) (T.mk m2 l2)).2))] ++ UU 54, [⟨[(I6 n), .sl [(I6 n1), tl k1, (I6 n2), tl k2] 2 .any], 2, .fresh⟩, ⟨[(I6 m), .sl [(I6 m1), tl l1, (I6 m2), tl l2] 2 .any], 2, .fresh⟩, ⟨[(I6 0), .sl [] 0 .nil], 2, .fresh⟩, ⟨[(I6 (T.n (sumI (T.mk n1 k1) (T.mk m1 l1)).1)), tl (T.ks (sumI (T.mk n1 k1) (T.mk m1 l1)).1)], 2, .fresh⟩, ⟨[(I6 (T.n (sumI (T.mk n2 k2) (T.mk m2 l2)).1)), tl (T.ks (sumI (T.mk n2 k2) (T.mk m2 l2)).1)], 2, .fresh⟩]⟩ ?_))
        refine AWP.reg (PT 3 3 ?_)
        refine DerQ.to ⟨[U6, U6, U6, U6, .ptr 2 0, (B6 false), .ptr 3 0, (B6 ((sumI (T.mk n1 k1) (T.mk m1 l1)).2)), .ptr 4 0, (B6 ((sumI (T.mk n2 k2) (T.mk m2 l2)).2))] ++ UU 44 ++ [(B6 ((sumI (T.mk n1 k1) (T.mk m1 l1)).2)), (B6 (!(sumI (T.mk n1 k1) (T.mk m1 l1)).2)), (B6 (!(sumI (T.mk n1 k1) (T.mk m1 l1)).2))] ++ UU 7, [⟨[(I6 n), .sl [(I6 n1), tl k1, (I6 n2), tl k2] 2 .any], 2, .fresh⟩, ⟨[(I6 m), .sl [(I6 m1), tl l1, (I6 m2), tl l2] 2 .any], 2, .fresh⟩, ⟨[(I6 0), .sl [] 0 .nil], 2, .fresh⟩, ⟨[(I6 (T.n (sumI (T.mk n1 k1) (T.mk m1 l1)).1)), tl (T.ks (sumI (T.mk n1 k1) (T.mk m1 l1)).1)], 2, .fresh⟩, ⟨[(I6 (T.n (sumI (T.mk n2 k2) (T.mk m2 l2)).1)), tl (T.ks (sumI (T.mk n2 k2) (T.mk m2 l2)).1)], 2, .fresh⟩]⟩ (by kernel_rfl) ?_
        cases h1 : (!(sumI (T.mk n1 k1) (T.mk m1 l1)).2)
        · have h1' := h1
          simp only [Bool.and_eq_true, Bool.and_eq_false_iff, Bool.or_eq_true, Bool.or_eq_false_iff, Bool.not_eq_true', Bool.not_eq_false', beq_iff_eq, beq_eq_false_iff_ne, decide_eq_true_eq, decide_eq_false_iff_not, ne_eq] at h1'
          refine RT 3 ?_
          refine KL ([7, 9] ++ NN 54 5) ⟨[U6, U6, U6, U6, .ptr 2 0, (B6 false), .ptr 3 0, U6, .ptr 4 0] ++ UU 50 ++ [(B6 (!(sumI (T.mk n2 k2) (T.mk m2 l2)).2)), U6, U6, U6, .undef], [⟨[(I6 n), .sl [(I6 n1), tl k1, (I6 n2), tl k2] 2 .any], 2, .fresh⟩, ⟨[(I6 m), .sl [(I6 m1), tl l1, (I6 m2), tl l2] 2 .any], 2, .fresh⟩, ⟨[(I6 0), .sl [] 0 .nil], 2, .fresh⟩, ⟨[(I6 (T.n (sumI (T.mk n1 k1) (T.mk m1 l1)).1)), tl (T.ks (sumI (T.mk n1 k1) (T.mk m1 l1)).1)], 2, .fresh⟩, ⟨[(I6 (T.n (sumI (T.mk n2 k2) (T.mk m2 l2)).1)), tl (T.ks (sumI (T.mk n2 k2) (T.mk m2 l2)).1)], 2, .fresh⟩]⟩ ?_
          refine CN (!(sumI (T.mk n2 k2) (T.mk m2 l2)).2) (fun h2 => ?_) (fun h2 => ?_)
          · have h2' := h2
            simp only [Bool.and_eq_true, Bool.and_eq_false_iff, Bool.or_eq_true, Bool.or_eq_false_iff, Bool.not_eq_true', Bool.not_eq_false', beq_iff_eq, beq_eq_false_iff_ne, decide_eq_true_eq, decide_eq_false_iff_not, ne_eq] at h2'
            refine SQ (RI (True ∧ 2 ≤ 2 ∧ True ∧ True) ⟨trivial, (by omega), trivial, trivial⟩ ?_)
            refine AWP.ret ?_
            refine FI (.tup [.agg [.sc (.int .i64 0), .sl [] 0 .nil], .sc (.bool false)]) ?_
            refine Shrink.dataK [] (True) (.tup [.agg [.sc (.int .i64 0), .sl [] 0 .nil], .sc (.bool false)]) (by kernel_rfl) trivial ?_ rfl
            (rw [sum_2, if_neg] <;> first | rfl | simp_all; done)
          · have h2' := h2
            simp only [Bool.and_eq_true, Bool.and_eq_false_iff, Bool.or_eq_true, Bool.or_eq_false_iff, Bool.not_eq_true', Bool.not_eq_false', beq_iff_eq, beq_eq_false_iff_ne, decide_eq_true_eq, decide_eq_false_iff_not, ne_eq] at h2'
            refine AWP.skip (SQ (PI 2 (2 ≤ 2 ∧ 2 ≤ 2 ∧ True) ⟨(by omega), (by omega), trivial⟩ ?_))
            refine DerQ.callD (short (T.n (sumI (T.mk n1 k1) (T.mk m1 l1)).1) (T.n (sumI (T.mk n2 k2) (T.mk m2 l2)).1) (T.ks (sumI (T.mk n1 k1) (T.mk m1 l1)).1) (T.ks (sumI (T.mk n2 k2) (T.mk m2 l2)).1)) ⟨[U6, U6, U6, U6, .ptr 2 0, (B6 false), .ptr 3 0, U6, .ptr 4 0] ++ UU 50 ++ [(B6 (!(sumI (T.mk n2 k2) (T.mk m2 l2)).2)), U6, .agg [(I6 (T.n (sumI (T.mk n1 k1) (T.mk m1 l1)).1)), tl (T.ks (sumI (T.mk n1 k1) (T.mk m1 l1)).1)], .agg [(I6 (T.n (sumI (T.mk n2 k2) (T.mk m2 l2)).1)), tl (T.ks (sumI (T.mk n2 k2) (T.mk m2 l2)).1)], .agg [(I6 (T.n (shortI (T.mk (T.n (sumI (T.mk n1 k1) (T.mk m1 l1)).1) (T.ks (sumI (T.mk n1 k1) (T.mk m1 l1)).1)) (T.mk (T.n (sumI (T.mk n2 k2) (T.mk m2 l2)).1) (T.ks (sumI (T.mk n2 k2) (T.mk m2 l2)).1))))), .sl (tcs (T.ks (shortI (T.mk (T.n (sumI (T.mk n1 k1) (T.mk m1 l1)).1) (T.ks (sumI (T.mk n1 k1) (T.mk m1 l1)).1)) (T.mk (T.n (sumI (T.mk n2 k2) (T.mk m2 l2)).1) (T.ks (sumI (T.mk n2 k2) (T.mk m2 l2)).1))))) (List.length (T.ks (shortI (T.mk (T.n (sumI (T.mk n1 k1) (T.mk m1 l1)).1) (T.ks (sumI (T.mk n1 k1) (T.mk m1 l1)).1)) (T.mk (T.n (sumI (T.mk n2 k2) (T.mk m2 l2)).1) (T.ks (sumI (T.mk n2 k2) (T.mk m2 l2)).1))))) .any]], [⟨[(I6 n), .sl [(I6 n1), tl k1, (I6 n2), tl k2] 2 .any], 2, .fresh⟩, ⟨[(I6 m), .sl [(I6 m1), tl l1, (I6 m2), tl l2] 2 .any], 2, .fresh⟩, ⟨[(I6 0), .sl [] 0 .nil], 2, .fresh⟩, ⟨[(I6 (T.n (sumI (T.mk n1 k1) (T.mk m1 l1)).1)), tl (T.ks (sumI (T.mk n1 k1) (T.mk m1 l1)).1)], 2, .fresh⟩, ⟨[(I6 (T.n (sumI (T.mk n2 k2) (T.mk m2 l2)).1)), tl (T.ks (sumI (T.mk n2 k2) (T.mk m2 l2)).1)], 2, .fresh⟩]⟩ ⟨by kernel_rfl, by kernel_rfl, by kernel_rfl⟩ ?_
            rw [Go.Tr.T.mk_eta ((sumI (T.mk n1 k1) (T.mk m1 l1)).fst)]
            rw [Go.Tr.T.mk_eta ((sumI (T.mk n2 k2) (T.mk m2 l2)).fst)]
            refine RI (2 ≤ 2 ∧ True ∧ True) ⟨(by omega), trivial, trivial⟩ ?_
            refine AWP.ret ?_
            refine FI (.tup [.agg [.sc (.int .i64 (T.n (shortI (sumI (T.mk n1 k1) (T.mk m1 l1)).1 (sumI (T.mk n2 k2) (T.mk m2 l2)).1))), .sl (tcs (T.ks (shortI (sumI (T.mk n1 k1) (T.mk m1 l1)).1 (sumI (T.mk n2 k2) (T.mk m2 l2)).1))) (List.length (T.ks (shortI (sumI (T.mk n1 k1) (T.mk m1 l1)).1 (sumI (T.mk n2 k2) (T.mk m2 l2)).1))) .any], .sc (.bool true)]) ?_
            refine Shrink.dataK [] (True) (.tup [.agg [.sc (.int .i64 (T.n (shortI (sumI (T.mk n1 k1) (T.mk m1 l1)).1 (sumI (T.mk n2 k2) (T.mk m2 l2)).1))), .sl (tcs (T.ks (shortI (sumI (T.mk n1 k1) (T.mk m1 l1)).1 (sumI (T.mk n2 k2) (T.mk m2 l2)).1))) (List.length (T.ks (shortI (sumI (T.mk n1 k1) (T.mk m1 l1)).1 (sumI (T.mk n2 k2) (T.mk m2 l2)).1))) .any], .sc (.bool true)]) (by kernel_rfl) trivial ?_ rfl
            (rw [sum_2, if_pos] <;> first | rfl | (constructor <;> assumption) | simp_all; done)
        · have h1' := h1
          simp only [Bool.and_eq_true, Bool.and_eq_false_iff, Bool.or_eq_true, Bool.or_eq_false_iff, Bool.not_eq_true', Bool.not_eq_false', beq_iff_eq, beq_eq_false_iff_ne, decide_eq_true_eq, decide_eq_false_iff_not, ne_eq] at h1'
          refine RT 1 ?_
          refine KL ([7, 9] ++ NN 54 5) ⟨[U6, U6, U6, U6, .ptr 2 0, (B6 false), .ptr 3 0, U6, .ptr 4 0] ++ UU 50 ++ [(B6 true), U6, U6, U6, .undef], [⟨[(I6 n), .sl [(I6 n1), tl k1, (I6 n2), tl k2] 2 .any], 2, .fresh⟩, ⟨[(I6 m), .sl [(I6 m1), tl l1, (I6 m2), tl l2] 2 .any], 2, .fresh⟩, ⟨[(I6 0), .sl [] 0 .nil], 2, .fresh⟩, ⟨[(I6 (T.n (sumI (T.mk n1 k1) (T.mk m1 l1)).1)), tl (T.ks (sumI (T.mk n1 k1) (T.mk m1 l1)).1)], 2, .fresh⟩, ⟨[(I6 (T.n (sumI (T.mk n2 k2) (T.mk m2 l2)).1)), tl (T.ks (sumI (T.mk n2 k2) (T.mk m2 l2)).1)], 2, .fresh⟩]⟩ ?_
          refine CN true (fun _ => ?_) (fun h => nomatch h)
          refine SQ (RI (True ∧ 2 ≤ 2 ∧ True ∧ True) ⟨trivial, (by omega), trivial, trivial⟩ ?_)
          refine AWP.ret ?_
          refine FI (.tup [.agg [.sc (.int .i64 0), .sl [] 0 .nil], .sc (.bool false)]) ?_
          refine Shrink.dataK [] (True) (.tup [.agg [.sc (.int .i64 0), .sl [] 0 .nil], .sc (.bool false)]) (by kernel_rfl) trivial ?_ rfl
          (rw [sum_2, if_neg] <;> first | rfl | simp_all; done)
theorem Sum (n m : Int) (ks ls : List T) (hN : size (.mk n ks) ≤ 1000) (hM : size (.mk m ls) ≤ 1000) : EvD Try.prog 37 [.agg [.sc (.int .i64 n), .sl (tcs ks) ks.length .any], .agg [.sc (.int .i64 m), .sl (tcs ls) ls.length .any]] (.tup [ag (sumP (.mk n ks) (.mk m ls)).1, .sc (.int .i64 (sumP (.mk n ks) (.mk m ls)).2)]) := by
  have q1 := check n ks (by omega)
  have q2 := check m ls (by omega)
  by_cases hr : checkI (.mk n ks) = true ∧ checkI (.mk m ls) = true
  · rw [hr.1] at q1
    rw [hr.2] at q2
    have q3 := sum 100000 (by omega) n m ks ls (by omega) (check_bin hr.1) (check_bin hr.2)
    cases hs : (sumI (.mk n ks) (.mk m ls)).2
    · rw [hs] at q3
      refine EvD.body Try.func37 rfl rfl rfl ?_
      refine AWP.seq ?_
      refine TO ⟨[.agg [(I6 n), tl ks], .agg [(I6 m), tl ls]] ++ UU 25, []⟩ ?_
      refine AWP.reg (RT 4 ?_)
      refine AWP.seq (AWP.seq (KL [0, 1] ⟨[U6, U6, .ptr 0 0, .ptr 1 0, .ptr 2 0, (I6 0)] ++ UU 21, [⟨[(I6 n), tl ks], 2, .fresh⟩, ⟨[(I6 m), tl ls], 2, .fresh⟩, ⟨[(I6 0), .sl [] 0 .nil], 2, .fresh⟩]⟩ ?_))
      refine AWP.reg (PI 1 (2 ≤ 2 ∧ True) ⟨(by omega), trivial⟩ ?_)
      refine CD (q1) ?_
      refine PI 3 (True ∧ True ∧ 2 ≤ 2 ∧ True) ⟨trivial, trivial, (by omega), trivial⟩ ?_
      refine CD (q2) ?_
      refine RT 2 ?_
      refine KL (NN 8 7) ⟨[U6, U6, .ptr 0 0, .ptr 1 0, .ptr 2 0, (I6 0)] ++ UU 9 ++ [(B6 false)] ++ UU 11, [⟨[(I6 n), tl ks], 2, .fresh⟩, ⟨[(I6 m), tl ls], 2, .fresh⟩, ⟨[(I6 0), .sl [] 0 .nil], 2, .fresh⟩]⟩ ?_
      refine CN false (fun h => nomatch h) (fun _ => ?_)
      refine AWP.skip (SQ (PI 2 (2 ≤ 2 ∧ 2 ≤ 2 ∧ True) ⟨(by omega), (by omega), trivial⟩ ?_))
      refine CD (q3) ?_
      refine RI (True ∧ True ∧ True ∧ True ∧ 2 ≤ 2 ∧ True ∧ True) ⟨trivial, trivial, trivial, trivial, (by omega), trivial, trivial⟩ ?_
      refine AWP.seq (AWP.seq (KL ([2, 3, 15] ++ NN 17 6) ⟨[U6, U6, U6, U6, .ptr 2 0, (I6 0), .ptr 3 0, (B6 false)] ++ UU 19, [⟨[(I6 n), tl ks], 2, .fresh⟩, ⟨[(I6 m), tl ls], 2, .fresh⟩, ⟨[(I6 0), .sl [] 0 .nil], 2, .fresh⟩, ⟨[(I6 (T.n (sumI (T.mk n ks) (T.mk m ls)).1)), tl (T.ks (sumI (T.mk n ks) (T.mk m ls)).1)], 2, .fresh⟩]⟩ ?_))
      refine AWP.reg (RT 2 ?_)
      refine KL [7, 23] ⟨[U6, U6, U6, U6, .ptr 2 0, (I6 0), .ptr 3 0] ++ UU 17 ++ [(B6 true), U6, .undef], [⟨[(I6 n), tl ks], 2, .fresh⟩, ⟨[(I6 m), tl ls], 2, .fresh⟩, ⟨[(I6 0), .sl [] 0 .nil], 2, .fresh⟩, ⟨[(I6 (T.n (sumI (T.mk n ks) (T.mk m ls)).1)), tl (T.ks (sumI (T.mk n ks) (T.mk m ls)).1)], 2, .fresh⟩]⟩ ?_
      refine CN true (fun _ => ?_) (fun h => nomatch h)
      refine SQ (RI (True ∧ 2 ≤ 2 ∧ True ∧ True) ⟨trivial, (by omega), trivial, trivial⟩ ?_)
      refine AWP.ret ?_
      refine FI (.tup [.agg [.sc (.int .i64 0), .sl [] 0 .nil], .sc (.int .i64 42)]) ?_
      refine Shrink.dataK [] (True) (.tup [.agg [.sc (.int .i64 0), .sl [] 0 .nil], .sc (.int .i64 42)]) (by kernel_rfl) trivial ?_ rfl
      (rw [sumP, if_pos hr, if_neg (by rw [hs]; exact Bool.false_ne_true)]; rfl; done)
    · rw [hs] at q3
      refine EvD.body Try.func37 rfl rfl rfl ?_
      refine AWP.seq ?_
      refine TO ⟨[.agg [(I6 n), tl ks], .agg [(I6 m), tl ls]] ++ UU 25, []⟩ ?_
      refine AWP.reg (RT 4 ?_)
      refine AWP.seq (AWP.seq (KL [0, 1] ⟨[U6, U6, .ptr 0 0, .ptr 1 0, .ptr 2 0, (I6 0)] ++ UU 21, [⟨[(I6 n), tl ks], 2, .fresh⟩, ⟨[(I6 m), tl ls], 2, .fresh⟩, ⟨[(I6 0), .sl [] 0 .nil], 2, .fresh⟩]⟩ ?_))
      refine AWP.reg (PI 1 (2 ≤ 2 ∧ True) ⟨(by omega), trivial⟩ ?_)
      refine CD (q1) ?_
      refine PI 3 (True ∧ True ∧ 2 ≤ 2 ∧ True) ⟨trivial, trivial, (by omega), trivial⟩ ?_
      refine CD (q2) ?_
      refine RT 2 ?_
      refine KL (NN 8 7) ⟨[U6, U6, .ptr 0 0, .ptr 1 0, .ptr 2 0, (I6 0)] ++ UU 9 ++ [(B6 false)] ++ UU 11, [⟨[(I6 n), tl ks], 2, .fresh⟩, ⟨[(I6 m), tl ls], 2, .fresh⟩, ⟨[(I6 0), .sl [] 0 .nil], 2, .fresh⟩]⟩ ?_
      refine CN false (fun h => nomatch h) (fun _ => ?_)
      refine AWP.skip (SQ (PI 2 (2 ≤ 2 ∧ 2 ≤ 2 ∧ True) ⟨(by omega), (by omega), trivial⟩ ?_))
      refine CD (q3) ?_
      refine RI (True ∧ True ∧ True ∧ True ∧ 2 ≤ 2 ∧ True ∧ True) ⟨trivial, trivial, trivial, trivial, (by omega), trivial, trivial⟩ ?_
      refine AWP.seq (AWP.seq (KL ([2, 3, 15] ++ NN 17 6) ⟨[U6, U6, U6, U6, .ptr 2 0, (I6 0), .ptr 3 0, (B6 true)] ++ UU 19, [⟨[(I6 n), tl ks], 2, .fresh⟩, ⟨[(I6 m), tl ls], 2, .fresh⟩, ⟨[(I6 0), .sl [] 0 .nil], 2, .fresh⟩, ⟨[(I6 (T.n (sumI (T.mk n ks) (T.mk m ls)).1)), tl (T.ks (sumI (T.mk n ks) (T.mk m ls)).1)], 2, .fresh⟩]⟩ ?_))
      refine AWP.reg (RT 2 ?_)
      refine KL [7, 23] ⟨[U6, U6, U6, U6, .ptr 2 0, (I6 0), .ptr 3 0] ++ UU 17 ++ [(B6 false), U6, .undef], [⟨[(I6 n), tl ks], 2, .fresh⟩, ⟨[(I6 m), tl ls], 2, .fresh⟩, ⟨[(I6 0), .sl [] 0 .nil], 2, .fresh⟩, ⟨[(I6 (T.n (sumI (T.mk n ks) (T.mk m ls)).1)), tl (T.ks (sumI (T.mk n ks) (T.mk m ls)).1)], 2, .fresh⟩]⟩ ?_
      refine CN false (fun h => nomatch h) (fun _ => ?_)
      refine AWP.skip (SQ (RI (2 ≤ 2 ∧ 2 ≤ 2 ∧ True ∧ True) ⟨(by omega), (by omega), trivial, trivial⟩ ?_))
      refine AWP.ret ?_
      refine FI (.tup [.agg [.sc (.int .i64 (T.n (sumI (T.mk n ks) (T.mk m ls)).1)), .sl (tcs (T.ks (sumI (T.mk n ks) (T.mk m ls)).1)) (List.length (T.ks (sumI (T.mk n ks) (T.mk m ls)).1)) .any], .sc (.int .i64 0)]) ?_
      refine Shrink.dataK [] (True) (.tup [.agg [.sc (.int .i64 (T.n (sumI (T.mk n ks) (T.mk m ls)).1)), .sl (tcs (T.ks (sumI (T.mk n ks) (T.mk m ls)).1)) (List.length (T.ks (sumI (T.mk n ks) (T.mk m ls)).1)) .any], .sc (.int .i64 0)]) (by kernel_rfl) trivial ?_ rfl
      (rw [sumP, if_pos hr, if_pos hs]; rfl; done)
  · cases h1 : checkI (.mk n ks)
    · rw [h1] at q1
      refine EvD.body Try.func37 rfl rfl rfl ?_
      refine AWP.seq ?_
      refine TO ⟨[.agg [(I6 n), tl ks], .agg [(I6 m), tl ls]] ++ UU 25, []⟩ ?_
      refine AWP.reg (RT 4 ?_)
      refine AWP.seq (AWP.seq (KL [0, 1] ⟨[U6, U6, .ptr 0 0, .ptr 1 0, .ptr 2 0, (I6 0)] ++ UU 21, [⟨[(I6 n), tl ks], 2, .fresh⟩, ⟨[(I6 m), tl ls], 2, .fresh⟩, ⟨[(I6 0), .sl [] 0 .nil], 2, .fresh⟩]⟩ ?_))
      refine AWP.reg (PI 1 (2 ≤ 2 ∧ True) ⟨(by omega), trivial⟩ ?_)
      refine CD (q1) ?_
      refine RT 3 ?_
      refine KL (NN 8 7) ⟨[U6, U6, .ptr 0 0, .ptr 1 0, .ptr 2 0, (I6 0)] ++ UU 9 ++ [(B6 true)] ++ UU 11, [⟨[(I6 n), tl ks], 2, .fresh⟩, ⟨[(I6 m), tl ls], 2, .fresh⟩, ⟨[(I6 0), .sl [] 0 .nil], 2, .fresh⟩]⟩ ?_
      refine CN true (fun _ => ?_) (fun h => nomatch h)
      refine SQ (RI (True ∧ 2 ≤ 2 ∧ True ∧ True) ⟨trivial, (by omega), trivial, trivial⟩ ?_)
      refine AWP.ret ?_
      refine FI (.tup [.agg [.sc (.int .i64 0), .sl [] 0 .nil], .sc (.int .i64 3)]) ?_
      refine Shrink.dataK [] (True) (.tup [.agg [.sc (.int .i64 0), .sl [] 0 .nil], .sc (.int .i64 3)]) (by kernel_rfl) trivial ?_ rfl
      (rw [sumP, if_neg hr]; rfl; done)
    · rw [h1] at q1
      rw [show checkI (.mk m ls) = false by simpa [h1] using hr] at q2
      refine EvD.body Try.func37 rfl rfl rfl ?_
      refine AWP.seq ?_
      refine TO ⟨[.agg [(I6 n), tl ks], .agg [(I6 m), tl ls]] ++ UU 25, []⟩ ?_
      refine AWP.reg (RT 4 ?_)
      refine AWP.seq (AWP.seq (KL [0, 1] ⟨[U6, U6, .ptr 0 0, .ptr 1 0, .ptr 2 0, (I6 0)] ++ UU 21, [⟨[(I6 n), tl ks], 2, .fresh⟩, ⟨[(I6 m), tl ls], 2, .fresh⟩, ⟨[(I6 0), .sl [] 0 .nil], 2, .fresh⟩]⟩ ?_))
      refine AWP.reg (PI 1 (2 ≤ 2 ∧ True) ⟨(by omega), trivial⟩ ?_)
      refine CD (q1) ?_
      refine PI 3 (True ∧ True ∧ 2 ≤ 2 ∧ True) ⟨trivial, trivial, (by omega), trivial⟩ ?_
      refine CD (q2) ?_
      refine RT 2 ?_
      refine KL (NN 8 7) ⟨[U6, U6, .ptr 0 0, .ptr 1 0, .ptr 2 0, (I6 0)] ++ UU 9 ++ [(B6 true)] ++ UU 11, [⟨[(I6 n), tl ks], 2, .fresh⟩, ⟨[(I6 m), tl ls], 2, .fresh⟩, ⟨[(I6 0), .sl [] 0 .nil], 2, .fresh⟩]⟩ ?_
      refine CN true (fun _ => ?_) (fun h => nomatch h)
      refine SQ (RI (True ∧ 2 ≤ 2 ∧ True ∧ True) ⟨trivial, (by omega), trivial, trivial⟩ ?_)
      refine AWP.ret ?_
      refine FI (.tup [.agg [.sc (.int .i64 0), .sl [] 0 .nil], .sc (.int .i64 3)]) ?_
      refine Shrink.dataK [] (True) (.tup [.agg [.sc (.int .i64 0), .sl [] 0 .nil], .sc (.int .i64 3)]) (by kernel_rfl) trivial ?_ rfl
      (rw [sumP, if_neg hr]; rfl; done)
theorem Split (n : Int) (ks : List T) (hN : size (.mk n ks) ≤ 1000) : EvD Try.prog 35 [.agg [.sc (.int .i64 n), .sl (tcs ks) ks.length .any]] (.tup [ag (splitP (.mk n ks)).1, ag (splitP (.mk n ks)).2.1, .sc (.int .i64 (splitP (.mk n ks)).2.2)]) := by
  have q1 := check n ks (by omega)
  cases hr : checkI (.mk n ks)
  · rw [hr] at q1
    refine EvD.body Try.func35 rfl rfl rfl ?_
    refine AWP.seq ?_
    refine TO ⟨[.agg [(I6 n), tl ks]] ++ UU 34, []⟩ ?_
    refine AWP.reg (RT 4 ?_)
    refine AWP.seq (AWP.block (AWP.seq (KL [0] ⟨[U6, .ptr 0 0, .ptr 1 0, .ptr 2 0, (I6 0)] ++ UU 30, [⟨[(I6 n), tl ks], 2, .fresh⟩, ⟨[(I6 0), .sl [] 0 .nil], 2, .fresh⟩, ⟨[(I6 0), .sl [] 0 .nil], 2, .fresh⟩]⟩ ?_)))
    refine AWP.reg (PI 1 (2 ≤ 2 ∧ True) ⟨(by omega), trivial⟩ ?_)
    refine CD (q1) ?_
    refine RT 2 ?_
    refine KL [8, 9, 10] ⟨[U6, .ptr 0 0, .ptr 1 0, .ptr 2 0, (I6 0), U6, U6, (B6 true)] ++ UU 27, [⟨[(I6 n), tl ks], 2, .fresh⟩, ⟨[(I6 0), .sl [] 0 .nil], 2, .fresh⟩, ⟨[(I6 0), .sl [] 0 .nil], 2, .fresh⟩]⟩ ?_
    refine CN true (fun _ => ?_) (fun h => nomatch h)
    refine SQ (RI (True ∧ True ∧ 2 ≤ 2 ∧ 2 ≤ 2 ∧ True ∧ True) ⟨trivial, trivial, (by omega), (by omega), trivial, trivial⟩ ?_)
    refine AWP.ret ?_
    refine FI (.tup [.agg [.sc (.int .i64 0), .sl [] 0 .nil], .agg [.sc (.int .i64 0), .sl [] 0 .nil], .sc (.int .i64 3)]) ?_
    refine Shrink.dataK [] (True) (.tup [.agg [.sc (.int .i64 0), .sl [] 0 .nil], .agg [.sc (.int .i64 0), .sl [] 0 .nil], .sc (.int .i64 3)]) (by kernel_rfl) trivial ?_ rfl
    (rw [splitP, if_neg (by rw [hr]; exact Bool.false_ne_true)]; rfl; done)
  · rw [hr] at q1
    have q3 := halves 100000 n ks (by omega) (check_bin hr)
    have hh := halves_size (.mk n ks)
    have hd := halves_bin (.mk n ks) (check_bin hr)
    refine EvD.body Try.func35 rfl rfl rfl ?_
    refine AWP.seq ?_
    refine TO ⟨[.agg [(I6 n), tl ks]] ++ UU 34, []⟩ ?_
    refine AWP.reg (RT 4 ?_)
    refine AWP.seq (AWP.block (AWP.seq (KL [0] ⟨[U6, .ptr 0 0, .ptr 1 0, .ptr 2 0, (I6 0)] ++ UU 30, [⟨[(I6 n), tl ks], 2, .fresh⟩, ⟨[(I6 0), .sl [] 0 .nil], 2, .fresh⟩, ⟨[(I6 0), .sl [] 0 .nil], 2, .fresh⟩]⟩ ?_)))
    refine AWP.reg (PI 1 (2 ≤ 2 ∧ True) ⟨(by omega), trivial⟩ ?_)
    refine CD (q1) ?_
    refine RT 2 ?_
    refine KL [8, 9, 10] ⟨[U6, .ptr 0 0, .ptr 1 0, .ptr 2 0, (I6 0), U6, U6, (B6 false)] ++ UU 27, [⟨[(I6 n), tl ks], 2, .fresh⟩, ⟨[(I6 0), .sl [] 0 .nil], 2, .fresh⟩, ⟨[(I6 0), .sl [] 0 .nil], 2, .fresh⟩]⟩ ?_
    refine CN false (fun h => nomatch h) (fun _ => ?_)
    refine SQ (PI 1 (2 ≤ 2 ∧ True) ⟨(by omega), trivial⟩ ?_)
    refine CD (is n ((0 : Int)) (tcs ks) (List.length ks)) ?_
    refine RT 1 ?_
    refine KL [7, 14, 15] ⟨[U6, .ptr 0 0, .ptr 1 0, .ptr 2 0, (I6 0)] ++ UU 8 ++ [(B6 (decide (List.length ks = 0 ∧ n = 0)))] ++ UU 21, [⟨[(I6 n), tl ks], 2, .fresh⟩, ⟨[(I6 0), .sl [] 0 .nil], 2, .fresh⟩, ⟨[(I6 0), .sl [] 0 .nil], 2, .fresh⟩]⟩ ?_
    refine CN (decide (List.length ks = 0 ∧ n = 0)) (fun h1 => ?_) (fun h1 => ?_)
    · have h1' := of_decide_eq_true h1
      refine SQ (RI (True ∧ True ∧ 2 ≤ 2 ∧ 2 ≤ 2 ∧ True ∧ True) ⟨trivial, trivial, (by omega), (by omega), trivial, trivial⟩ ?_)
      refine AWP.ret ?_
      refine FI (.tup [.agg [.sc (.int .i64 0), .sl [] 0 .nil], .agg [.sc (.int .i64 0), .sl [] 0 .nil], .sc (.int .i64 7)]) ?_
      refine Shrink.dataK [] (True) (.tup [.agg [.sc (.int .i64 0), .sl [] 0 .nil], .agg [.sc (.int .i64 0), .sl [] 0 .nil], .sc (.int .i64 7)]) (by kernel_rfl) trivial ?_ rfl
      (rw [splitP, if_pos hr, if_pos (by unfold isT; simp only [T.ks_mk, T.n_mk]; omega)]; rfl; done)
    · have h1' := of_decide_eq_false h1
      refine AWP.skip (SQ (PI 1 (2 ≤ 2 ∧ True) ⟨(by omega), trivial⟩ ?_))
      refine CD (q3) ?_
      refine RI (True ∧ True ∧ True ∧ True ∧ True ∧ 2 ≤ 2 ∧ 2 ≤ 2 ∧ True) ⟨trivial, trivial, trivial, trivial, trivial, (by omega), (by omega), trivial⟩ ?_
      refine AWP.seq (AWP.seq (KL ([1, 13] ++ NN 18 5) ⟨[U6, U6, .ptr 1 0, .ptr 2 0, (I6 0), .ptr 3 0, .ptr 4 0] ++ UU 28, [⟨[(I6 n), tl ks], 2, .fresh⟩, ⟨[(I6 0), .sl [] 0 .nil], 2, .fresh⟩, ⟨[(I6 0), .sl [] 0 .nil], 2, .fresh⟩, ⟨[(I6 (T.n (halvesI (T.mk n ks)).1)), tl (T.ks (halvesI (T.mk n ks)).1)], 2, .fresh⟩, ⟨[(I6 (T.n (halvesI (T.mk n ks)).2)), tl (T.ks (halvesI (T.mk n ks)).2)], 2, .fresh⟩]⟩ ?_))
      refine AWP.reg (PI 1 (2 ≤ 2 ∧ True) ⟨(by omega), trivial⟩ ?_)
      refine DerQ.callD (rough 100000 (T.n (halvesI (T.mk n ks)).1) (T.ks (halvesI (T.mk n ks)).1) ((16 : Int)) (by first | (rw [T.mk_eta]; omega) | (rw [T.mk_eta]; exact hd.1) | (rw [T.mk_eta]; exact hd.2)) (by omega) (by omega)) ⟨[U6, U6, .ptr 1 0, .ptr 2 0, (I6 0), .ptr 3 0, .ptr 4 0] ++ UU 16 ++ [.agg [(I6 (T.n (halvesI (T.mk n ks)).1)), tl (T.ks (halvesI (T.mk n ks)).1)], (B6 (roughI 16 (T.mk (T.n (halvesI (T.mk n ks)).1) (T.ks (halvesI (T.mk n ks)).1))))] ++ UU 10, [⟨[(I6 n), tl ks], 2, .fresh⟩, ⟨[(I6 0), .sl [] 0 .nil], 2, .fresh⟩, ⟨[(I6 0), .sl [] 0 .nil], 2, .fresh⟩, ⟨[(I6 (T.n (halvesI (T.mk n ks)).1)), tl (T.ks (halvesI (T.mk n ks)).1)], 2, .fresh⟩, ⟨[(I6 (T.n (halvesI (T.mk n ks)).2)), tl (T.ks (halvesI (T.mk n ks)).2)], 2, .fresh⟩]⟩ ⟨by kernel_rfl, by kernel_rfl, by kernel_rfl⟩ ?_
      rw [Go.Tr.T.mk_eta ((halvesI (T.mk n ks)).fst)]
      refine PT 2 2 ?_
      refine DerQ.to ⟨[U6, U6, .ptr 1 0, .ptr 2 0, (I6 0), .ptr 3 0, .ptr 4 0] ++ UU 16 ++ [.agg [(I6 (T.n (halvesI (T.mk n ks)).1)), tl (T.ks (halvesI (T.mk n ks)).1)], (B6 (roughI 16 (halvesI (T.mk n ks)).1)), (B6 (!roughI 16 (halvesI (T.mk n ks)).1)), (B6 (!roughI 16 (halvesI (T.mk n ks)).1))] ++ UU 8, [⟨[(I6 n), tl ks], 2, .fresh⟩, ⟨[(I6 0), .sl [] 0 .nil], 2, .fresh⟩, ⟨[(I6 0), .sl [] 0 .nil], 2, .fresh⟩, ⟨[(I6 (T.n (halvesI (T.mk n ks)).1)), tl (T.ks (halvesI (T.mk n ks)).1)], 2, .fresh⟩, ⟨[(I6 (T.n (halvesI (T.mk n ks)).2)), tl (T.ks (halvesI (T.mk n ks)).2)], 2, .fresh⟩]⟩ (by kernel_rfl) ?_
      cases h2 : (!roughI 16 (halvesI (T.mk n ks)).1)
      · have h2' := h2
        simp only [Bool.and_eq_true, Bool.and_eq_false_iff, Bool.or_eq_true, Bool.or_eq_false_iff, Bool.not_eq_true', Bool.not_eq_false', beq_iff_eq, beq_eq_false_iff_ne, decide_eq_true_eq, decide_eq_false_iff_not, ne_eq] at h2'
        refine PI 1 (2 ≤ 2 ∧ True) ⟨(by omega), trivial⟩ ?_
        refine DerQ.callD (rough 100000 (T.n (halvesI (T.mk n ks)).2) (T.ks (halvesI (T.mk n ks)).2) ((16 : Int)) (by first | (rw [T.mk_eta]; omega) | (rw [T.mk_eta]; exact hd.1) | (rw [T.mk_eta]; exact hd.2)) (by omega) (by omega)) ⟨[U6, U6, .ptr 1 0, .ptr 2 0, (I6 0), .ptr 3 0, .ptr 4 0] ++ UU 16 ++ [.agg [(I6 (T.n (halvesI (T.mk n ks)).1)), tl (T.ks (halvesI (T.mk n ks)).1)], (B6 (roughI 16 (halvesI (T.mk n ks)).1)), (B6 false), (B6 false), .agg [(I6 (T.n (halvesI (T.mk n ks)).2)), tl (T.ks (halvesI (T.mk n ks)).2)], (B6 (roughI 16 (T.mk (T.n (halvesI (T.mk n ks)).2) (T.ks (halvesI (T.mk n ks)).2))))] ++ UU 6, [⟨[(I6 n), tl ks], 2, .fresh⟩, ⟨[(I6 0), .sl [] 0 .nil], 2, .fresh⟩, ⟨[(I6 0), .sl [] 0 .nil], 2, .fresh⟩, ⟨[(I6 (T.n (halvesI (T.mk n ks)).1)), tl (T.ks (halvesI (T.mk n ks)).1)], 2, .fresh⟩, ⟨[(I6 (T.n (halvesI (T.mk n ks)).2)), tl (T.ks (halvesI (T.mk n ks)).2)], 2, .fresh⟩]⟩ ⟨by kernel_rfl, by kernel_rfl, by kernel_rfl⟩ ?_
        rw [Go.Tr.T.mk_eta ((halvesI (T.mk n ks)).snd)]
        refine RT 2 ?_
        refine KL (NN 23 7) ⟨[U6, U6, .ptr 1 0, .ptr 2 0, (I6 0), .ptr 3 0, .ptr 4 0] ++ UU 23 ++ [(B6 (!roughI 16 (halvesI (T.mk n ks)).2)), U6, U6, U6, .undef], [⟨[(I6 n), tl ks], 2, .fresh⟩, ⟨[(I6 0), .sl [] 0 .nil], 2, .fresh⟩, ⟨[(I6 0), .sl [] 0 .nil], 2, .fresh⟩, ⟨[(I6 (T.n (halvesI (T.mk n ks)).1)), tl (T.ks (halvesI (T.mk n ks)).1)], 2, .fresh⟩, ⟨[(I6 (T.n (halvesI (T.mk n ks)).2)), tl (T.ks (halvesI (T.mk n ks)).2)], 2, .fresh⟩]⟩ ?_
        refine CN (!roughI 16 (halvesI (T.mk n ks)).2) (fun h3 => ?_) (fun h3 => ?_)
        · have h3' := h3
          simp only [Bool.and_eq_true, Bool.and_eq_false_iff, Bool.or_eq_true, Bool.or_eq_false_iff, Bool.not_eq_true', Bool.not_eq_false', beq_iff_eq, beq_eq_false_iff_ne, decide_eq_true_eq, decide_eq_false_iff_not, ne_eq] at h3'
          refine SQ (RI (True ∧ True ∧ 2 ≤ 2 ∧ 2 ≤ 2 ∧ True ∧ True) ⟨trivial, trivial, (by omega), (by omega), trivial, trivial⟩ ?_)
          refine AWP.ret ?_
          refine FI (.tup [.agg [.sc (.int .i64 0), .sl [] 0 .nil], .agg [.sc (.int .i64 0), .sl [] 0 .nil], .sc (.int .i64 40)]) ?_
          refine Shrink.dataK [] (True) (.tup [.agg [.sc (.int .i64 0), .sl [] 0 .nil], .agg [.sc (.int .i64 0), .sl [] 0 .nil], .sc (.int .i64 40)]) (by kernel_rfl) trivial ?_ rfl
          (rw [splitP, if_pos hr, if_neg (by unfold isT; simp only [T.ks_mk, T.n_mk]; omega), if_neg (by simp_all)]; rfl; done)
        · have h3' := h3
          simp only [Bool.and_eq_true, Bool.and_eq_false_iff, Bool.or_eq_true, Bool.or_eq_false_iff, Bool.not_eq_true', Bool.not_eq_false', beq_iff_eq, beq_eq_false_iff_ne, decide_eq_true_eq, decide_eq_false_iff_not, ne_eq] at h3'
          refine AWP.skip (AWP.seq ?_)
          refine AWP.drawB mixed (fun o => if [].contains (o.dst.getD 0) then 1 else if [].contains (o.dst.getD 0) then 2 else if [0, 0].contains (o.dst.getD 0) then 3 else 0) 0 5 (fun x => [⟨[(I6 n), tl ks], 2, .fresh⟩, ⟨x 1, 2, .fresh⟩, ⟨x 2, 2, .fresh⟩, ⟨[(I6 (T.n (halvesI (T.mk n ks)).1)), tl (T.ks (halvesI (T.mk n ks)).1)], 2, .fresh⟩, ⟨[(I6 (T.n (halvesI (T.mk n ks)).2)), tl (T.ks (halvesI (T.mk n ks)).2)], 2, .fresh⟩]) ⟨[U6, U6, .ptr 1 0, .ptr 2 0, (I6 0), .ptr 3 0, .ptr 4 0] ++ UU 23 ++ [(B6 (!roughI 16 (halvesI (T.mk n ks)).2)), U6, U6, U6, .undef], [⟨[(I6 n), tl ks], 2, .fresh⟩, ⟨[(I6 0), .sl [] 0 .nil], 2, .fresh⟩, ⟨[(I6 0), .sl [] 0 .nil], 2, .fresh⟩, ⟨[(I6 (T.n (halvesI (T.mk n ks)).1)), tl (T.ks (halvesI (T.mk n ks)).1)], 2, .fresh⟩, ⟨[(I6 (T.n (halvesI (T.mk n ks)).2)), tl (T.ks (halvesI (T.mk n ks)).2)], 2, .fresh⟩]⟩ (by kernel_rfl) ⟨by kernel_rfl, by kernel_rfl⟩ (by kernel_rfl) ?_
          refine DerZ.preI 2 (((2 : Nat) ≤ (2 : Nat)) ∧ (((2 : Nat) ≤ (2 : Nat)) ∧ (True))) (by intro x ext; kernel_rfl) ⟨(by omega), ⟨(by omega), trivial⟩⟩ ?_
          refine DerZ.effI 5 ((2 : Nat) ≤ (2 : Nat)) (by kernel_rfl) ⟨⟨by kernel_rfl, by kernel_rfl⟩, by kernel_rfl⟩ (by omega) ?_
          refine DerZ.effI 5 ((2 : Nat) ≤ (2 : Nat)) (by kernel_rfl) ⟨⟨by kernel_rfl, by kernel_rfl⟩, by kernel_rfl⟩ (by omega) ?_
          refine DerZ.quietI (True) (by intro x ext; kernel_rfl) (by kernel_rfl) trivial ?_
          refine DerZ.nil ?_
          refine AWP.ret ?_
          refine FI (.tup [.agg [.sc (.int .i64 (T.n (halvesI (T.mk n ks)).1)), .sl (tcs (T.ks (halvesI (T.mk n ks)).1)) (List.length (T.ks (halvesI (T.mk n ks)).1)) .any], .agg [.sc (.int .i64 (T.n (halvesI (T.mk n ks)).2)), .sl (tcs (T.ks (halvesI (T.mk n ks)).2)) (List.length (T.ks (halvesI (T.mk n ks)).2)) .any], .sc (.int .i64 0)]) ?_
          refine Shrink.dataK [] (True) (.tup [.agg [.sc (.int .i64 (T.n (halvesI (T.mk n ks)).1)), .sl (tcs (T.ks (halvesI (T.mk n ks)).1)) (List.length (T.ks (halvesI (T.mk n ks)).1)) .any], .agg [.sc (.int .i64 (T.n (halvesI (T.mk n ks)).2)), .sl (tcs (T.ks (halvesI (T.mk n ks)).2)) (List.length (T.ks (halvesI (T.mk n ks)).2)) .any], .sc (.int .i64 0)]) (by kernel_rfl) trivial ?_ rfl
          (rw [splitP, if_pos hr, if_neg (by unfold isT; simp only [T.ks_mk, T.n_mk]; omega), if_pos (by simp_all)]; rfl; done)
      · have h2' := h2
        simp only [Bool.and_eq_true, Bool.and_eq_false_iff, Bool.or_eq_true, Bool.or_eq_false_iff, Bool.not_eq_true', Bool.not_eq_false', beq_iff_eq, beq_eq_false_iff_ne, decide_eq_true_eq, decide_eq_false_iff_not, ne_eq] at h2'
        refine RT 1 ?_
        refine KL (NN 23 7) ⟨[U6, U6, .ptr 1 0, .ptr 2 0, (I6 0), .ptr 3 0, .ptr 4 0] ++ UU 23 ++ [(B6 true), U6, U6, U6, .undef], [⟨[(I6 n), tl ks], 2, .fresh⟩, ⟨[(I6 0), .sl [] 0 .nil], 2, .fresh⟩, ⟨[(I6 0), .sl [] 0 .nil], 2, .fresh⟩, ⟨[(I6 (T.n (halvesI (T.mk n ks)).1)), tl (T.ks (halvesI (T.mk n ks)).1)], 2, .fresh⟩, ⟨[(I6 (T.n (halvesI (T.mk n ks)).2)), tl (T.ks (halvesI (T.mk n ks)).2)], 2, .fresh⟩]⟩ ?_
        refine CN true (fun _ => ?_) (fun h => nomatch h)
        refine SQ (RI (True ∧ True ∧ 2 ≤ 2 ∧ 2 ≤ 2 ∧ True ∧ True) ⟨trivial, trivial, (by omega), (by omega), trivial, trivial⟩ ?_)
        refine AWP.ret ?_
        refine FI (.tup [.agg [.sc (.int .i64 0), .sl [] 0 .nil], .agg [.sc (.int .i64 0), .sl [] 0 .nil], .sc (.int .i64 40)]) ?_
        refine Shrink.dataK [] (True) (.tup [.agg [.sc (.int .i64 0), .sl [] 0 .nil], .agg [.sc (.int .i64 0), .sl [] 0 .nil], .sc (.int .i64 40)]) (by kernel_rfl) trivial ?_ rfl
        (rw [splitP, if_pos hr, if_neg (by unfold isT; simp only [T.ks_mk, T.n_mk]; omega), if_neg (by simp_all)]; rfl; done)
theorem share (N : Nat) : ∀ (n : Int) (ks : List T) (k d : Int), size (.mk n ks) ≤ N → 0 ≤ k → k ≤ 65536 → roughI d (.mk n ks) = true → EvD Try.prog 95 [.agg [.sc (.int .i64 n), .sl (tcs ks) ks.length .any], .sc (.int .i64 k)] (.sc (.int .i64 (shareI (.mk n ks) k))) := by
  induction N with
  | zero => intro n ks k d h; rw [size] at h; omega
  | succ N ih =>
    intro n ks k d hN h0 h1 hr
    rcases bin_case (bin_of_rough _ _ hr) with rfl | ⟨n1, k1, n2, k2, rfl⟩
    · simp only [roughI, decide_eq_true_eq] at hr
      rcases hr with rfl | rfl
      · refine EvD.body Try.func95 rfl rfl rfl ?_
        refine AWP.seq ?_
        refine TO ⟨[.agg [(I6 0), .sl [] 0 .any], (I6 k)] ++ UU 26, []⟩ ?_
        refine AWP.reg (RT 2 ?_)
        refine AWP.seq (AWP.seq (KL [0] ⟨[U6, (I6 k), .ptr 0 0, U6, (I6 0)] ++ UU 23, [⟨[(I6 0), .sl [] 0 .any], 2, .fresh⟩]⟩ ?_))
        refine AWP.reg (RI (True ∧ 1 < 2 ∧ True ∧ True ∧ True) ⟨trivial, (by omega), trivial, trivial, trivial⟩ ?_)
        refine KL [5, 6, 7] ⟨[U6, (I6 k), .ptr 0 0, U6, (I6 0), U6, U6, U6, (B6 true)] ++ UU 19, [⟨[(I6 0), .sl [] 0 .any], 2, .fresh⟩]⟩ ?_
        refine CN true (fun _ => ?_) (fun h => nomatch h)
        refine SQ ?_
        refine DerQ.run (True ∧ 0 < 2 ∧ True ∧ True ∧ True ∧ True) ⟨[U6, (I6 k), .ptr 0 0, U6, (I6 (IntKind.wrap IntKind.i64 (0 * k))), U6, U6, U6, (B6 true), .ptr 0 0, (I6 0), (I6 k), (I6 (IntKind.wrap IntKind.i64 (0 * k)))] ++ UU 15, [⟨[(I6 0), .sl [] 0 .any], 2, .fresh⟩]⟩ (by kernel_rfl) ⟨trivial, (by omega), trivial, trivial, trivial, trivial⟩ ?_
        rw [IntWalk.i64_in (0 * k) (by omega)]
        refine KL (NN 8 5) ⟨[U6, (I6 k), .ptr 0 0, U6, (I6 (0 * k))] ++ UU 23, [⟨[(I6 0), .sl [] 0 .any], 2, .fresh⟩]⟩ ?_
        refine AWP.ret FA
      · refine EvD.body Try.func95 rfl rfl rfl ?_
        refine AWP.seq ?_
        refine TO ⟨[.agg [(I6 1), .sl [] 0 .any], (I6 k)] ++ UU 26, []⟩ ?_
        refine AWP.reg (RT 2 ?_)
        refine AWP.seq (AWP.seq (KL [0] ⟨[U6, (I6 k), .ptr 0 0, U6, (I6 0)] ++ UU 23, [⟨[(I6 1), .sl [] 0 .any], 2, .fresh⟩]⟩ ?_))
        refine AWP.reg (RI (True ∧ 1 < 2 ∧ True ∧ True ∧ True) ⟨trivial, (by omega), trivial, trivial, trivial⟩ ?_)
        refine KL [5, 6, 7] ⟨[U6, (I6 k), .ptr 0 0, U6, (I6 0), U6, U6, U6, (B6 true)] ++ UU 19, [⟨[(I6 1), .sl [] 0 .any], 2, .fresh⟩]⟩ ?_
        refine CN true (fun _ => ?_) (fun h => nomatch h)
        refine SQ ?_
        refine DerQ.run (True ∧ 0 < 2 ∧ True ∧ True ∧ True ∧ True) ⟨[U6, (I6 k), .ptr 0 0, U6, (I6 (IntKind.wrap IntKind.i64 (1 * k))), U6, U6, U6, (B6 true), .ptr 0 0, (I6 1), (I6 k), (I6 (IntKind.wrap IntKind.i64 (1 * k)))] ++ UU 15, [⟨[(I6 1), .sl [] 0 .any], 2, .fresh⟩]⟩ (by kernel_rfl) ⟨trivial, (by omega), trivial, trivial, trivial, trivial⟩ ?_
        rw [IntWalk.i64_in (1 * k) (by omega)]
        refine KL (NN 8 5) ⟨[U6, (I6 k), .ptr 0 0, U6, (I6 (1 * k))] ++ UU 23, [⟨[(I6 1), .sl [] 0 .any], 2, .fresh⟩]⟩ ?_
        refine AWP.ret FA
    · obtain ⟨_, _, r1, r2⟩ := rough_kids hr
      have b1 := share_bd _ _ (k / 2) r1 (by omega)
      have b2 := share_bd _ _ (k / 2) r2 (by omega)
      simp only [size, sizes] at hN
      rw [tcs2]
      refine EvD.body Try.func95 rfl rfl rfl ?_
      have ihd := fun (n : Int) (ks : List T) (k : Int) h0 h1 h2 (h3 : roughI (d - 1) (.mk n ks) = true) => ih n ks k (d - 1) h0 h1 h2 h3
      refine AWP.seq ?_
      refine TO ⟨[.agg [(I6 n), .sl [(I6 n1), tl k1, (I6 n2), tl k2] 2 .any], (I6 k)] ++ UU 26, []⟩ ?_
      refine AWP.reg (RT 2 ?_)
      refine AWP.seq (AWP.seq (KL [0] ⟨[U6, (I6 k), .ptr 0 0, U6, (I6 0)] ++ UU 23, [⟨[(I6 n), .sl [(I6 n1), tl k1, (I6 n2), tl k2] 2 .any], 2, .fresh⟩]⟩ ?_))
      refine AWP.reg (RI (True ∧ 1 < 2 ∧ True ∧ True ∧ True) ⟨trivial, (by omega), trivial, trivial, trivial⟩ ?_)
      refine KL [5, 6, 7] ⟨[U6, (I6 k), .ptr 0 0, U6, (I6 0), U6, U6, U6, (B6 false)] ++ UU 19, [⟨[(I6 n), .sl [(I6 n1), tl k1, (I6 n2), tl k2] 2 .any], 2, .fresh⟩]⟩ ?_
      refine CN false (fun h => nomatch h) (fun _ => ?_)
      refine AWP.skip (AWP.seq ?_)
      refine AWP.drawX mixed (fun o => [19, 26].contains (o.dst.getD 0)) (by kernel_rfl) ?_
      refine DerX.pre 6 ((True) ∧ (((1 : Nat) < (2 : Nat)) ∧ (((((0 : Int) ≤ (0 : Int)) ∧ ((0 : Int) < (2 : Int))) ∧ ((2 : Nat) ≤ (4 : Nat))) ∧ (((2 : Nat) ≤ (2 : Nat)) ∧ ((True) ∧ (((0 : Int) ≤ (1 : Int)) ∧ (True))))))) [.ptr 0 1, .sl [(I6 n1), tl k1, (I6 n2), tl k2] 2 .any, .dptr [(I6 n1), tl k1], .agg [(I6 n1), tl k1], (I6 k), (I6 (Int.fdiv k 2))] ⟨[U6, (I6 k), .ptr 0 0, U6, (I6 0), U6, U6, U6, (B6 false), U6, U6, U6, U6, .ptr 0 1, .sl [(I6 n1), tl k1, (I6 n2), tl k2] 2 .any, .dptr [(I6 n1), tl k1], .agg [(I6 n1), tl k1], (I6 k), (I6 (Int.fdiv k 2))] ++ UU 9, [⟨[(I6 n), .sl [(I6 n1), tl k1, (I6 n2), tl k2] 2 .any], 2, .fresh⟩]⟩ (by intro ext; kernel_rfl) (by kernel_rfl) ⟨trivial, ⟨(by omega), ⟨⟨⟨(by omega), (by omega)⟩, (by omega)⟩, ⟨(by omega), ⟨trivial, ⟨(by omega), trivial⟩⟩⟩⟩⟩⟩ ?_
      rw [Go.Tr.fdiv2 (k)]
      refine DerX.callDI (ihd n1 k1 (k / 2) (by (rw [size]; omega)) (by omega) (by omega) (by omega)) ⟨by kernel_rfl, by kernel_rfl⟩ ?_
      refine DerX.pre 6 ((True) ∧ (((1 : Nat) < (2 : Nat)) ∧ (((((0 : Int) ≤ (1 : Int)) ∧ ((1 : Int) < (2 : Int))) ∧ ((4 : Nat) ≤ (4 : Nat))) ∧ (((2 : Nat) ≤ (2 : Nat)) ∧ ((True) ∧ (((0 : Int) ≤ (1 : Int)) ∧ (True))))))) [.ptr 0 1, .sl [(I6 n1), tl k1, (I6 n2), tl k2] 2 .any, .dptr [(I6 n2), tl k2], .agg [(I6 n2), tl k2], (I6 k), (I6 (Int.fdiv k 2))] ⟨[U6, (I6 k), .ptr 0 0, U6, (I6 0), U6, U6, U6, (B6 false), U6, U6, U6, U6, .ptr 0 1, .sl [(I6 n1), tl k1, (I6 n2), tl k2] 2 .any, .dptr [(I6 n1), tl k1], .agg [(I6 n1), tl k1], (I6 k), (I6 (k / 2)), (I6 (shareI (T.mk n1 k1) (k / 2))), .ptr 0 1, .sl [(I6 n1), tl k1, (I6 n2), tl k2] 2 .any, .dptr [(I6 n2), tl k2], .agg [(I6 n2), tl k2], (I6 k), (I6 (Int.fdiv k 2)), U6, .undef], [⟨[(I6 n), .sl [(I6 n1), tl k1, (I6 n2), tl k2] 2 .any], 2, .fresh⟩]⟩ (by intro ext; kernel_rfl) (by kernel_rfl) ⟨trivial, ⟨(by omega), ⟨⟨⟨(by omega), (by omega)⟩, (by omega)⟩, ⟨(by omega), ⟨trivial, ⟨(by omega), trivial⟩⟩⟩⟩⟩⟩ ?_
      rw [Go.Tr.fdiv2 (k)]
      refine DerX.callDI (ihd n2 k2 (k / 2) (by (rw [size]; omega)) (by omega) (by omega) (by omega)) ⟨by kernel_rfl, by kernel_rfl⟩ ?_
      refine DerX.pre 2 (TT 2) [(I6 (IntKind.wrap IntKind.i64 (shareI (T.mk n1 k1) (k / 2) + shareI (T.mk n2 k2) (k / 2)))), (I6 (IntKind.wrap IntKind.i64 (shareI (T.mk n1 k1) (k / 2) + shareI (T.mk n2 k2) (k / 2))))] ⟨[U6, (I6 k), .ptr 0 0, U6, (I6 (IntKind.wrap IntKind.i64 (shareI (T.mk n1 k1) (k / 2) + shareI (T.mk n2 k2) (k / 2)))), U6, U6, U6, (B6 false), U6, U6, U6, U6, .ptr 0 1, .sl [(I6 n1), tl k1, (I6 n2), tl k2] 2 .any, .dptr [(I6 n1), tl k1], .agg [(I6 n1), tl k1], (I6 k), (I6 (k / 2)), (I6 (shareI (T.mk n1 k1) (k / 2))), .ptr 0 1, .sl [(I6 n1), tl k1, (I6 n2), tl k2] 2 .any, .dptr [(I6 n2), tl k2], .agg [(I6 n2), tl k2], (I6 k), (I6 (k / 2)), (I6 (shareI (T.mk n2 k2) (k / 2))), (I6 (IntKind.wrap IntKind.i64 (shareI (T.mk n1 k1) (k / 2) + shareI (T.mk n2 k2) (k / 2))))], [⟨[(I6 n), .sl [(I6 n1), tl k1, (I6 n2), tl k2] 2 .any], 2, .fresh⟩]⟩ (by intro ext; kernel_rfl) (by kernel_rfl) (tt 2) ?_
      rw [IntWalk.i64_in (shareI (T.mk n1 k1) (k / 2) + shareI (T.mk n2 k2) (k / 2)) (by omega)]
      refine DerX.nil ?_
      refine KL ([1, 2, 8] ++ NN 13 15) ⟨[U6, U6, U6, U6, (I6 (shareI (T.mk n1 k1) (k / 2) + shareI (T.mk n2 k2) (k / 2)))] ++ UU 23, [⟨[(I6 n), .sl [(I6 n1), tl k1, (I6 n2), tl k2] 2 .any], 2, .fresh⟩]⟩ ?_
      refine AWP.ret FA
theorem Share (n : Int) (ks : List T) (hN : size (.mk n ks) ≤ 1000) : EvD Try.prog 45 [.agg [.sc (.int .i64 n), .sl (tcs ks) ks.length .any]] (.sc (.int .i64 (shareP (.mk n ks)))) := by
  have q1 := check n ks (by omega)
  cases hr : checkI (.mk n ks)
  · rw [hr] at q1
    refine EvD.body Try.func45 rfl rfl rfl ?_
    refine AWP.seq ?_
    refine TO ⟨[.agg [(I6 n), tl ks]] ++ UU 7, []⟩ ?_
    refine AWP.reg (RT 2 ?_)
    refine AWP.seq (AWP.seq (KL [0] ⟨[U6, .ptr 0 0, (I6 0)] ++ UU 5, [⟨[(I6 n), tl ks], 2, .fresh⟩]⟩ ?_))
    refine AWP.reg (PI 1 (2 ≤ 2 ∧ True) ⟨(by omega), trivial⟩ ?_)
    refine CD (q1) ?_
    refine RT 1 ?_
    refine KL [3, 4] ⟨[U6, .ptr 0 0, (I6 0), U6, U6, (B6 true), U6, .undef], [⟨[(I6 n), tl ks], 2, .fresh⟩]⟩ ?_
    refine CN true (fun _ => ?_) (fun h => nomatch h)
    refine SQ (RT 1 ?_)
    refine AWP.ret ?_
    refine FI (.sc (.int .i64 0)) ?_
    refine Shrink.all ?_ rfl
    (rw [shareP, if_neg (by rw [hr]; exact Bool.false_ne_true)]; done)
  · rw [hr] at q1
    have q3 := share 1000 n ks 65536 16 (by omega) (by omega) (by omega) (check_rough hr)
    refine EvD.body Try.func45 rfl rfl rfl ?_
    refine AWP.seq ?_
    refine TO ⟨[.agg [(I6 n), tl ks]] ++ UU 7, []⟩ ?_
    refine AWP.reg (RT 2 ?_)
    refine AWP.seq (AWP.seq (KL [0] ⟨[U6, .ptr 0 0, (I6 0)] ++ UU 5, [⟨[(I6 n), tl ks], 2, .fresh⟩]⟩ ?_))
    refine AWP.reg (PI 1 (2 ≤ 2 ∧ True) ⟨(by omega), trivial⟩ ?_)
    refine CD (q1) ?_
    refine RT 1 ?_
    refine KL [3, 4] ⟨[U6, .ptr 0 0, (I6 0), U6, U6, (B6 false), U6, .undef], [⟨[(I6 n), tl ks], 2, .fresh⟩]⟩ ?_
    refine CN false (fun h => nomatch h) (fun _ => ?_)
    refine AWP.skip (SQ (PI 1 (2 ≤ 2 ∧ True) ⟨(by omega), trivial⟩ ?_))
    refine CD (q3) ?_
    refine RT 1 ?_
    refine AWP.ret ?_
    refine FI (.sc (.int .i64 (shareI (T.mk n ks) 65536))) ?_
    refine Shrink.all ?_ rfl
    (rw [shareP, if_pos hr]; done)
end Go.Tr
