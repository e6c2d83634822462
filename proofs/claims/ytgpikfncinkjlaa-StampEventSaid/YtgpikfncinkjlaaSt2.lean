/- Walks and laws. -/
import Derived.Test.YtgpikfncinkjlaaSt1
import Derived.Test.YtgpikfncinkjlaaLibB
set_option maxRecDepth 100000
set_option maxHeartbeats 0
set_option linter.unusedSimpArgs false
set_option linter.unusedVariables false
namespace Go.Tr
open Go Go.Abs Go.Proofs
theorem s_top (N : Nat) : ∀ (n : Int) (ks : List T) (d l : Int), size (.mk n ks) ≤ N → roughE d l (.mk n ks) = true → l ≤ 2000000000 → EvD Try.prog 99 [.agg [.sc (.int .i64 n), .sl (tcs ks) ks.length .any]] (.sc (.int .i64 (endE true (.mk n ks)))) := by
  induction N with
  | zero => intro n ks d l h; rw [size] at h; omega
  | succ N ih =>
    intro n ks d l hN hb hl
    rcases bin_case (roughE_bin _ _ _ hb) with rfl | ⟨n1, k1, n2, k2, rfl⟩
    · have hn := roughE_n hb
      simp only [T.n_mk] at hn
      refine EvD.body Try.func99 rfl rfl rfl ?_
      refine AWP.seq ?_
      refine TO ⟨[.agg [(I6 n), .sl [] 0 .any]] ++ UU 21, []⟩ ?_
      refine AWP.reg (RT 2 ?_)
      refine AWP.seq (KL [0] ⟨[U6, .ptr 0 0, (I6 0)] ++ UU 19, [⟨[(I6 n), .sl [] 0 .any], 2, .fresh⟩]⟩ ?_)
      refine AWP.reg (RT 1 ?_)
      refine AWP.seq (AWP.seq ?_)
      refine TO ⟨[U6, .ptr 0 0, (I6 0), (I6 0)] ++ UU 18, [⟨[(I6 n), .sl [] 0 .any], 2, .fresh⟩]⟩ ?_
      refine AWP.reg (RI (True ∧ 1 < 2 ∧ True ∧ True ∧ True) ⟨trivial, (by omega), trivial, trivial, trivial⟩ ?_)
      refine AWP.block (KL [6] ⟨[U6, .ptr 0 0, (I6 0), (I6 0), U6, U6, U6, .sl [] 0 .any, (I6 0), (I6 0)] ++ UU 12, [⟨[(I6 n), .sl [] 0 .any], 2, .fresh⟩]⟩ ?_)
      refine AWP.loopN 3 ?_
      refine AWP.turn ?_
      refine SQ (RT 1 ?_)
      refine AWP.seq ?_
      refine TO ⟨[U6, .ptr 0 0, (I6 0), (I6 0), U6, U6, U6, .sl [] 0 .any, (I6 0), (I6 0), (B6 false)] ++ UU 11, [⟨[(I6 n), .sl [] 0 .any], 2, .fresh⟩]⟩ ?_
      refine CN false (fun h => nomatch h) (fun _ => ?_)
      refine AWP.exit ?_
      refine AWP.seq (KL [7, 8, 9, 10] ⟨[U6, .ptr 0 0, (I6 0), (I6 0)] ++ UU 18, [⟨[(I6 n), .sl [] 0 .any], 2, .fresh⟩]⟩ ?_)
      refine AWP.reg ?_
      refine DerQ.run (True ∧ 0 < 2 ∧ True ∧ True ∧ True ∧ True) ⟨[U6, .ptr 0 0, (I6 (IntKind.wrap IntKind.i64 (n + 0))), (I6 0)] ++ UU 14 ++ [.ptr 0 0, (I6 n), (I6 0), (I6 (IntKind.wrap IntKind.i64 (n + 0)))], [⟨[(I6 n), .sl [] 0 .any], 2, .fresh⟩]⟩ (by kernel_rfl) ⟨trivial, (by omega), trivial, trivial, trivial, trivial⟩ ?_
      rw [IntWalk.i64_in (n + 0) (by omega)]
      refine KL [1, 3, 18, 19, 20, 21] ⟨[U6, U6, (I6 (n + 0))] ++ UU 19, [⟨[(I6 n), .sl [] 0 .any], 2, .fresh⟩]⟩ ?_
      refine AWP.ret ?_
      refine FI (.sc (.int .i64 (n + 0))) ?_
      refine Shrink.all ?_ rfl
      (rw [Int.add_zero]; rfl; done)
    · obtain ⟨g1, g2, g3, g4, g5⟩ := roughE_kids hb
      simp only [size, sizes] at hN
      have i1 := ih n1 k1 (d - 1) (l - n) (by rw [size]; omega) g4 (by omega)
      have i2 := ih n2 k2 (d - 1) (l - n) (by rw [size]; omega) g5 (by omega)
      have r1 := end_rng true _ _ _ g4
      have r2 := end_rng true _ _ _ g5
      rw [tcs2]
      refine EvD.body Try.func99 rfl rfl rfl ?_
      refine AWP.seq ?_
      refine TO ⟨[.agg [(I6 n), .sl [(I6 n1), tl k1, (I6 n2), tl k2] 2 .any]] ++ UU 21, []⟩ ?_
      refine AWP.reg (RT 2 ?_)
      refine AWP.seq (KL [0] ⟨[U6, .ptr 0 0, (I6 0)] ++ UU 19, [⟨[(I6 n), .sl [(I6 n1), tl k1, (I6 n2), tl k2] 2 .any], 2, .fresh⟩]⟩ ?_)
      refine AWP.reg (RT 1 ?_)
      refine AWP.seq (AWP.seq ?_)
      refine TO ⟨[U6, .ptr 0 0, (I6 0), (I6 0)] ++ UU 18, [⟨[(I6 n), .sl [(I6 n1), tl k1, (I6 n2), tl k2] 2 .any], 2, .fresh⟩]⟩ ?_
      refine AWP.reg (RI (True ∧ 1 < 2 ∧ True ∧ True ∧ True) ⟨trivial, (by omega), trivial, trivial, trivial⟩ ?_)
      refine AWP.block (KL [6] ⟨[U6, .ptr 0 0, (I6 0), (I6 0), U6, U6, U6, .sl [(I6 n1), tl k1, (I6 n2), tl k2] 2 .any, (I6 2), (I6 0)] ++ UU 12, [⟨[(I6 n), .sl [(I6 n1), tl k1, (I6 n2), tl k2] 2 .any], 2, .fresh⟩]⟩ ?_)
      refine AWP.loopN 3 ?_
      refine AWP.turn ?_
      refine SQ (RT 1 ?_)
      refine AWP.seq ?_
      refine TO ⟨[U6, .ptr 0 0, (I6 0), (I6 0), U6, U6, U6, .sl [(I6 n1), tl k1, (I6 n2), tl k2] 2 .any, (I6 2), (I6 0), (B6 true)] ++ UU 11, [⟨[(I6 n), .sl [(I6 n1), tl k1, (I6 n2), tl k2] 2 .any], 2, .fresh⟩]⟩ ?_
      refine CN true (fun _ => ?_) (fun h => nomatch h)
      refine AWP.skip (AWP.seq (AWP.block (SQ (RI (((((0 : Int) ≤ (0 : Int)) ∧ ((0 : Int) < (2 : Int))) ∧ ((2 : Nat) ≤ (4 : Nat))) ∧ 2 ≤ 2 ∧ True ∧ 2 ≤ 2 ∧ True) ⟨⟨⟨(by omega), (by omega)⟩, (by omega)⟩, (by omega), trivial, (by omega), trivial⟩ ?_))))
      refine TO ⟨[U6, .ptr 0 0, (I6 0), (I6 0), U6, .ptr 1 0, U6, .sl [(I6 n1), tl k1, (I6 n2), tl k2] 2 .any, (I6 2), (I6 0), (B6 true), .dptr [(I6 n1), tl k1], .agg [(I6 n1), tl k1]] ++ UU 9, [⟨[(I6 n), .sl [(I6 n1), tl k1, (I6 n2), tl k2] 2 .any], 2, .fresh⟩, ⟨[(I6 n1), tl k1], 2, .fresh⟩]⟩ ?_
      refine AWP.reg (PI 2 (True ∧ 2 ≤ 2 ∧ True) ⟨trivial, (by omega), trivial⟩ ?_)
      refine CD (i1) ?_
      refine DerQ.run (TT 2) ⟨[U6, .ptr 0 0, (I6 0), (I6 (if endE true (T.mk n1 k1) > 0 then endE true (T.mk n1 k1) else 0)), U6, .ptr 1 0, U6, .sl [(I6 n1), tl k1, (I6 n2), tl k2] 2 .any, (I6 2), (I6 0), (B6 true), .dptr [(I6 n1), tl k1], .agg [(I6 n1), tl k1], (I6 0), .agg [(I6 n1), tl k1], (I6 (endE true (T.mk n1 k1))), (I6 (if endE true (T.mk n1 k1) > 0 then endE true (T.mk n1 k1) else 0))] ++ UU 5, [⟨[(I6 n), .sl [(I6 n1), tl k1, (I6 n2), tl k2] 2 .any], 2, .fresh⟩, ⟨[(I6 n1), tl k1], 2, .fresh⟩]⟩ (by kernel_rfl) (tt 2) ?_
      rw [Go.Tr.max_if ((0 : Int)) (endE true (T.mk n1 k1))]
      refine AWP.reg (RT 2 ?_)
      refine AWP.turn ?_
      refine AWP.seq ?_
      refine TO ⟨[U6, .ptr 0 0, (I6 0), (I6 (max 0 (endE true (T.mk n1 k1)))), U6, .ptr 1 0, U6, .sl [(I6 n1), tl k1, (I6 n2), tl k2] 2 .any, (I6 2), (I6 1), (B6 true), .dptr [(I6 n1), tl k1], .agg [(I6 n1), tl k1], (I6 0), .agg [(I6 n1), tl k1], (I6 (endE true (T.mk n1 k1))), (I6 (max 0 (endE true (T.mk n1 k1)))), (I6 1), U6, U6, U6, .undef], [⟨[(I6 n), .sl [(I6 n1), tl k1, (I6 n2), tl k2] 2 .any], 2, .fresh⟩, ⟨[(I6 n1), tl k1], 2, .fresh⟩]⟩ ?_
      refine AWP.reg (RT 1 ?_)
      refine AWP.seq ?_
      refine TO ⟨[U6, .ptr 0 0, (I6 0), (I6 (max 0 (endE true (T.mk n1 k1)))), U6, .ptr 1 0, U6, .sl [(I6 n1), tl k1, (I6 n2), tl k2] 2 .any, (I6 2), (I6 1), (B6 true), .dptr [(I6 n1), tl k1], .agg [(I6 n1), tl k1], (I6 0), .agg [(I6 n1), tl k1], (I6 (endE true (T.mk n1 k1))), (I6 (max 0 (endE true (T.mk n1 k1)))), (I6 1), U6, U6, U6, .undef], [⟨[(I6 n), .sl [(I6 n1), tl k1, (I6 n2), tl k2] 2 .any], 2, .fresh⟩, ⟨[(I6 n1), tl k1], 2, .fresh⟩]⟩ ?_
      refine CN true (fun _ => ?_) (fun h => nomatch h)
      refine AWP.skip (AWP.seq (AWP.block (SQ (RI (((((0 : Int) ≤ (1 : Int)) ∧ ((1 : Int) < (2 : Int))) ∧ ((4 : Nat) ≤ (4 : Nat))) ∧ 2 ≤ 2 ∧ True ∧ 2 ≤ 2 ∧ True) ⟨⟨⟨(by omega), (by omega)⟩, (by omega)⟩, (by omega), trivial, (by omega), trivial⟩ ?_))))
      refine TO ⟨[U6, .ptr 0 0, (I6 0), (I6 (max 0 (endE true (T.mk n1 k1)))), U6, .ptr 2 0, U6, .sl [(I6 n1), tl k1, (I6 n2), tl k2] 2 .any, (I6 2), (I6 1), (B6 true), .dptr [(I6 n2), tl k2], .agg [(I6 n2), tl k2], (I6 0), .agg [(I6 n1), tl k1], (I6 (endE true (T.mk n1 k1))), (I6 (max 0 (endE true (T.mk n1 k1)))), (I6 1), U6, U6, U6, .undef], [⟨[(I6 n), .sl [(I6 n1), tl k1, (I6 n2), tl k2] 2 .any], 2, .fresh⟩, ⟨[(I6 n1), tl k1], 2, .fresh⟩, ⟨[(I6 n2), tl k2], 2, .fresh⟩]⟩ ?_
      refine AWP.reg (PI 2 (True ∧ 2 ≤ 2 ∧ True) ⟨trivial, (by omega), trivial⟩ ?_)
      refine CD (i2) ?_
      refine DerQ.run (TT 2) ⟨[U6, .ptr 0 0, (I6 0), (I6 (if endE true (T.mk n2 k2) > max 0 (endE true (T.mk n1 k1)) then endE true (T.mk n2 k2) else max 0 (endE true (T.mk n1 k1)))), U6, .ptr 2 0, U6, .sl [(I6 n1), tl k1, (I6 n2), tl k2] 2 .any, (I6 2), (I6 1), (B6 true), .dptr [(I6 n2), tl k2], .agg [(I6 n2), tl k2], (I6 (max 0 (endE true (T.mk n1 k1)))), .agg [(I6 n2), tl k2], (I6 (endE true (T.mk n2 k2))), (I6 (if endE true (T.mk n2 k2) > max 0 (endE true (T.mk n1 k1)) then endE true (T.mk n2 k2) else max 0 (endE true (T.mk n1 k1)))), (I6 1), U6, U6, U6, .undef], [⟨[(I6 n), .sl [(I6 n1), tl k1, (I6 n2), tl k2] 2 .any], 2, .fresh⟩, ⟨[(I6 n1), tl k1], 2, .fresh⟩, ⟨[(I6 n2), tl k2], 2, .fresh⟩]⟩ (by kernel_rfl) (tt 2) ?_
      rw [Go.Tr.max_if (max 0 (endE true (T.mk n1 k1))) (endE true (T.mk n2 k2))]
      refine AWP.reg (RT 2 ?_)
      refine AWP.turn ?_
      refine AWP.seq ?_
      refine TO ⟨[U6, .ptr 0 0, (I6 0), (I6 (max (max 0 (endE true (T.mk n1 k1))) (endE true (T.mk n2 k2)))), U6, .ptr 2 0, U6, .sl [(I6 n1), tl k1, (I6 n2), tl k2] 2 .any, (I6 2), (I6 2), (B6 true), .dptr [(I6 n2), tl k2], .agg [(I6 n2), tl k2], (I6 (max 0 (endE true (T.mk n1 k1)))), .agg [(I6 n2), tl k2], (I6 (endE true (T.mk n2 k2))), (I6 (max (max 0 (endE true (T.mk n1 k1))) (endE true (T.mk n2 k2)))), (I6 2), U6, U6, U6, .undef], [⟨[(I6 n), .sl [(I6 n1), tl k1, (I6 n2), tl k2] 2 .any], 2, .fresh⟩, ⟨[(I6 n1), tl k1], 2, .fresh⟩, ⟨[(I6 n2), tl k2], 2, .fresh⟩]⟩ ?_
      refine AWP.reg (RT 1 ?_)
      refine AWP.seq ?_
      refine TO ⟨[U6, .ptr 0 0, (I6 0), (I6 (max (max 0 (endE true (T.mk n1 k1))) (endE true (T.mk n2 k2)))), U6, .ptr 2 0, U6, .sl [(I6 n1), tl k1, (I6 n2), tl k2] 2 .any, (I6 2), (I6 2), (B6 false), .dptr [(I6 n2), tl k2], .agg [(I6 n2), tl k2], (I6 (max 0 (endE true (T.mk n1 k1)))), .agg [(I6 n2), tl k2], (I6 (endE true (T.mk n2 k2))), (I6 (max (max 0 (endE true (T.mk n1 k1))) (endE true (T.mk n2 k2)))), (I6 2), U6, U6, U6, .undef], [⟨[(I6 n), .sl [(I6 n1), tl k1, (I6 n2), tl k2] 2 .any], 2, .fresh⟩, ⟨[(I6 n1), tl k1], 2, .fresh⟩, ⟨[(I6 n2), tl k2], 2, .fresh⟩]⟩ ?_
      refine CN false (fun h => nomatch h) (fun _ => ?_)
      refine AWP.exit ?_
      refine AWP.seq (KL ([5] ++ NN 7 11) ⟨[U6, .ptr 0 0, (I6 0), (I6 (max (max 0 (endE true (T.mk n1 k1))) (endE true (T.mk n2 k2))))] ++ UU 18, [⟨[(I6 n), .sl [(I6 n1), tl k1, (I6 n2), tl k2] 2 .any], 2, .fresh⟩, ⟨[(I6 n1), tl k1], 2, .fresh⟩, ⟨[(I6 n2), tl k2], 2, .fresh⟩]⟩ ?_)
      refine AWP.reg ?_
      refine DerQ.run (True ∧ 0 < 2 ∧ True ∧ True ∧ True ∧ True) ⟨[U6, .ptr 0 0, (I6 (IntKind.wrap IntKind.i64 (n + max (max 0 (endE true (T.mk n1 k1))) (endE true (T.mk n2 k2))))), (I6 (max (max 0 (endE true (T.mk n1 k1))) (endE true (T.mk n2 k2))))] ++ UU 14 ++ [.ptr 0 0, (I6 n), (I6 (max (max 0 (endE true (T.mk n1 k1))) (endE true (T.mk n2 k2)))), (I6 (IntKind.wrap IntKind.i64 (n + max (max 0 (endE true (T.mk n1 k1))) (endE true (T.mk n2 k2)))))], [⟨[(I6 n), .sl [(I6 n1), tl k1, (I6 n2), tl k2] 2 .any], 2, .fresh⟩, ⟨[(I6 n1), tl k1], 2, .fresh⟩, ⟨[(I6 n2), tl k2], 2, .fresh⟩]⟩ (by kernel_rfl) ⟨trivial, (by omega), trivial, trivial, trivial, trivial⟩ ?_
      rw [IntWalk.i64_in (n + max (max 0 (endE true (T.mk n1 k1))) (endE true (T.mk n2 k2))) (by omega)]
      refine KL [1, 3, 18, 19, 20, 21] ⟨[U6, U6, (I6 (n + max (max 0 (endE true (T.mk n1 k1))) (endE true (T.mk n2 k2))))] ++ UU 19, [⟨[(I6 n), .sl [(I6 n1), tl k1, (I6 n2), tl k2] 2 .any], 2, .fresh⟩, ⟨[(I6 n1), tl k1], 2, .fresh⟩, ⟨[(I6 n2), tl k2], 2, .fresh⟩]⟩ ?_
      refine AWP.ret ?_
      refine FI (.sc (.int .i64 (n + max (max 0 (endE true (T.mk n1 k1))) (endE true (T.mk n2 k2))))) ?_
      refine Shrink.all ?_ rfl
      (rw [end_two, if_pos rfl]; congr 2; omega; done)
theorem s_deep (N : Nat) : ∀ (n : Int) (ks : List T), size (.mk n ks) ≤ N → N ≤ 100000 → binT (.mk n ks) = true → EvD Try.prog 100 [.agg [.sc (.int .i64 n), .sl (tcs ks) ks.length .any]] (.sc (.int .i64 (depthT (.mk n ks)))) := by
  induction N with
  | zero => intro n ks h; rw [size] at h; omega
  | succ N ih =>
    intro n ks hN h9 hb
    rcases bin_case hb with rfl | ⟨n1, k1, n2, k2, rfl⟩
    · refine EvD.body Try.func100 rfl rfl rfl ?_
      refine AWP.seq ?_
      refine TO ⟨[.agg [(I6 n), .sl [] 0 .any]] ++ UU 19, []⟩ ?_
      refine AWP.reg (RT 2 ?_)
      refine AWP.seq (KL [0] ⟨[U6, .ptr 0 0, (I6 0)] ++ UU 17, [⟨[(I6 n), .sl [] 0 .any], 2, .fresh⟩]⟩ ?_)
      refine AWP.reg (RT 1 ?_)
      refine AWP.seq (AWP.seq ?_)
      refine TO ⟨[U6, .ptr 0 0, (I6 0), (I6 0)] ++ UU 16, [⟨[(I6 n), .sl [] 0 .any], 2, .fresh⟩]⟩ ?_
      refine AWP.reg (RI (True ∧ 1 < 2 ∧ True ∧ True ∧ True) ⟨trivial, (by omega), trivial, trivial, trivial⟩ ?_)
      refine AWP.block (KL [1, 6] ⟨[U6, U6, (I6 0), (I6 0), U6, U6, U6, .sl [] 0 .any, (I6 0), (I6 0)] ++ UU 10, [⟨[(I6 n), .sl [] 0 .any], 2, .fresh⟩]⟩ ?_)
      refine AWP.loopN 3 ?_
      refine AWP.turn ?_
      refine SQ (RT 1 ?_)
      refine AWP.seq ?_
      refine TO ⟨[U6, U6, (I6 0), (I6 0), U6, U6, U6, .sl [] 0 .any, (I6 0), (I6 0), (B6 false)] ++ UU 9, [⟨[(I6 n), .sl [] 0 .any], 2, .fresh⟩]⟩ ?_
      refine CN false (fun h => nomatch h) (fun _ => ?_)
      refine AWP.exit ?_
      refine AWP.seq (KL [7, 8, 9, 10] ⟨[U6, U6, (I6 0), (I6 0)] ++ UU 16, [⟨[(I6 n), .sl [] 0 .any], 2, .fresh⟩]⟩ ?_)
      refine AWP.reg (RT 2 ?_)
      refine AWP.ret FA
    · have hb' := bin_kids hb
      simp only [size, sizes] at hN
      have i1 := ih n1 k1 (by rw [size]; omega) (by omega) hb'.1
      have i2 := ih n2 k2 (by rw [size]; omega) (by omega) hb'.2
      have d1 := depth_size (.mk n1 k1)
      have d2 := depth_size (.mk n2 k2)
      simp only [size] at d1 d2
      rw [tcs2]
      refine EvD.body Try.func100 rfl rfl rfl ?_
      refine AWP.seq ?_
      refine TO ⟨[.agg [(I6 n), .sl [(I6 n1), tl k1, (I6 n2), tl k2] 2 .any]] ++ UU 19, []⟩ ?_
      refine AWP.reg (RT 2 ?_)
      refine AWP.seq (KL [0] ⟨[U6, .ptr 0 0, (I6 0)] ++ UU 17, [⟨[(I6 n), .sl [(I6 n1), tl k1, (I6 n2), tl k2] 2 .any], 2, .fresh⟩]⟩ ?_)
      refine AWP.reg (RT 1 ?_)
      refine AWP.seq (AWP.seq ?_)
      refine TO ⟨[U6, .ptr 0 0, (I6 0), (I6 0)] ++ UU 16, [⟨[(I6 n), .sl [(I6 n1), tl k1, (I6 n2), tl k2] 2 .any], 2, .fresh⟩]⟩ ?_
      refine AWP.reg (RI (True ∧ 1 < 2 ∧ True ∧ True ∧ True) ⟨trivial, (by omega), trivial, trivial, trivial⟩ ?_)
      refine AWP.block (KL [1, 6] ⟨[U6, U6, (I6 0), (I6 0), U6, U6, U6, .sl [(I6 n1), tl k1, (I6 n2), tl k2] 2 .any, (I6 2), (I6 0)] ++ UU 10, [⟨[(I6 n), .sl [(I6 n1), tl k1, (I6 n2), tl k2] 2 .any], 2, .fresh⟩]⟩ ?_)
      refine AWP.loopN 3 ?_
      refine AWP.turn ?_
      refine SQ (RT 1 ?_)
      refine AWP.seq ?_
      refine TO ⟨[U6, U6, (I6 0), (I6 0), U6, U6, U6, .sl [(I6 n1), tl k1, (I6 n2), tl k2] 2 .any, (I6 2), (I6 0), (B6 true)] ++ UU 9, [⟨[(I6 n), .sl [(I6 n1), tl k1, (I6 n2), tl k2] 2 .any], 2, .fresh⟩]⟩ ?_
      refine CN true (fun _ => ?_) (fun h => nomatch h)
      refine AWP.skip (AWP.seq (AWP.block (SQ (RI (((((0 : Int) ≤ (0 : Int)) ∧ ((0 : Int) < (2 : Int))) ∧ ((2 : Nat) ≤ (4 : Nat))) ∧ 2 ≤ 2 ∧ True ∧ 2 ≤ 2 ∧ True) ⟨⟨⟨(by omega), (by omega)⟩, (by omega)⟩, (by omega), trivial, (by omega), trivial⟩ ?_))))
      refine TO ⟨[U6, U6, (I6 0), (I6 0), U6, .ptr 1 0, U6, .sl [(I6 n1), tl k1, (I6 n2), tl k2] 2 .any, (I6 2), (I6 0), (B6 true), .dptr [(I6 n1), tl k1], .agg [(I6 n1), tl k1]] ++ UU 7, [⟨[(I6 n), .sl [(I6 n1), tl k1, (I6 n2), tl k2] 2 .any], 2, .fresh⟩, ⟨[(I6 n1), tl k1], 2, .fresh⟩]⟩ ?_
      refine AWP.reg (PI 2 (True ∧ 2 ≤ 2 ∧ True) ⟨trivial, (by omega), trivial⟩ ?_)
      refine CD (i1) ?_
      refine DerQ.run (TT 3) ⟨[U6, U6, (I6 0), (I6 (if IntKind.wrap IntKind.i64 (1 + (↑(depthT (T.mk n1 k1)) : Int)) > 0 then IntKind.wrap IntKind.i64 (1 + (↑(depthT (T.mk n1 k1)) : Int)) else 0)), U6, .ptr 1 0, U6, .sl [(I6 n1), tl k1, (I6 n2), tl k2] 2 .any, (I6 2), (I6 0), (B6 true), .dptr [(I6 n1), tl k1], .agg [(I6 n1), tl k1], (I6 0), .agg [(I6 n1), tl k1], (I6 (↑(depthT (T.mk n1 k1)) : Int)), (I6 (IntKind.wrap IntKind.i64 (1 + (↑(depthT (T.mk n1 k1)) : Int)))), (I6 (if IntKind.wrap IntKind.i64 (1 + (↑(depthT (T.mk n1 k1)) : Int)) > 0 then IntKind.wrap IntKind.i64 (1 + (↑(depthT (T.mk n1 k1)) : Int)) else 0)), U6, .undef], [⟨[(I6 n), .sl [(I6 n1), tl k1, (I6 n2), tl k2] 2 .any], 2, .fresh⟩, ⟨[(I6 n1), tl k1], 2, .fresh⟩]⟩ (by kernel_rfl) (tt 3) ?_
      rw [IntWalk.i64_in (1 + (↑(depthT (T.mk n1 k1)) : Int)) (by omega)]
      rw [Go.Tr.max_if ((0 : Int)) (1 + (↑(depthT (T.mk n1 k1)) : Int))]
      refine AWP.reg (RT 2 ?_)
      refine AWP.turn ?_
      refine AWP.seq ?_
      refine TO ⟨[U6, U6, (I6 0), (I6 (max 0 (1 + (↑(depthT (T.mk n1 k1)) : Int)))), U6, .ptr 1 0, U6, .sl [(I6 n1), tl k1, (I6 n2), tl k2] 2 .any, (I6 2), (I6 1), (B6 true), .dptr [(I6 n1), tl k1], .agg [(I6 n1), tl k1], (I6 0), .agg [(I6 n1), tl k1], (I6 (↑(depthT (T.mk n1 k1)) : Int)), (I6 (1 + (↑(depthT (T.mk n1 k1)) : Int))), (I6 (max 0 (1 + (↑(depthT (T.mk n1 k1)) : Int)))), (I6 1), .undef], [⟨[(I6 n), .sl [(I6 n1), tl k1, (I6 n2), tl k2] 2 .any], 2, .fresh⟩, ⟨[(I6 n1), tl k1], 2, .fresh⟩]⟩ ?_
      refine AWP.reg (RT 1 ?_)
      refine AWP.seq ?_
      refine TO ⟨[U6, U6, (I6 0), (I6 (max 0 (1 + (↑(depthT (T.mk n1 k1)) : Int)))), U6, .ptr 1 0, U6, .sl [(I6 n1), tl k1, (I6 n2), tl k2] 2 .any, (I6 2), (I6 1), (B6 true), .dptr [(I6 n1), tl k1], .agg [(I6 n1), tl k1], (I6 0), .agg [(I6 n1), tl k1], (I6 (↑(depthT (T.mk n1 k1)) : Int)), (I6 (1 + (↑(depthT (T.mk n1 k1)) : Int))), (I6 (max 0 (1 + (↑(depthT (T.mk n1 k1)) : Int)))), (I6 1), .undef], [⟨[(I6 n), .sl [(I6 n1), tl k1, (I6 n2), tl k2] 2 .any], 2, .fresh⟩, ⟨[(I6 n1), tl k1], 2, .fresh⟩]⟩ ?_
      refine CN true (fun _ => ?_) (fun h => nomatch h)
      refine AWP.skip (AWP.seq (AWP.block (SQ (RI (((((0 : Int) ≤ (1 : Int)) ∧ ((1 : Int) < (2 : Int))) ∧ ((4 : Nat) ≤ (4 : Nat))) ∧ 2 ≤ 2 ∧ True ∧ 2 ≤ 2 ∧ True) ⟨⟨⟨(by omega), (by omega)⟩, (by omega)⟩, (by omega), trivial, (by omega), trivial⟩ ?_))))
      refine TO ⟨[U6, U6, (I6 0), (I6 (max 0 (1 + (↑(depthT (T.mk n1 k1)) : Int)))), U6, .ptr 2 0, U6, .sl [(I6 n1), tl k1, (I6 n2), tl k2] 2 .any, (I6 2), (I6 1), (B6 true), .dptr [(I6 n2), tl k2], .agg [(I6 n2), tl k2], (I6 0), .agg [(I6 n1), tl k1], (I6 (↑(depthT (T.mk n1 k1)) : Int)), (I6 (1 + (↑(depthT (T.mk n1 k1)) : Int))), (I6 (max 0 (1 + (↑(depthT (T.mk n1 k1)) : Int)))), (I6 1), .undef], [⟨[(I6 n), .sl [(I6 n1), tl k1, (I6 n2), tl k2] 2 .any], 2, .fresh⟩, ⟨[(I6 n1), tl k1], 2, .fresh⟩, ⟨[(I6 n2), tl k2], 2, .fresh⟩]⟩ ?_
      refine AWP.reg (PI 2 (True ∧ 2 ≤ 2 ∧ True) ⟨trivial, (by omega), trivial⟩ ?_)
      refine CD (i2) ?_
      refine DerQ.run (TT 3) ⟨[U6, U6, (I6 0), (I6 (if IntKind.wrap IntKind.i64 (1 + (↑(depthT (T.mk n2 k2)) : Int)) > max 0 (1 + (↑(depthT (T.mk n1 k1)) : Int)) then IntKind.wrap IntKind.i64 (1 + (↑(depthT (T.mk n2 k2)) : Int)) else max 0 (1 + (↑(depthT (T.mk n1 k1)) : Int)))), U6, .ptr 2 0, U6, .sl [(I6 n1), tl k1, (I6 n2), tl k2] 2 .any, (I6 2), (I6 1), (B6 true), .dptr [(I6 n2), tl k2], .agg [(I6 n2), tl k2], (I6 (max 0 (1 + (↑(depthT (T.mk n1 k1)) : Int)))), .agg [(I6 n2), tl k2], (I6 (↑(depthT (T.mk n2 k2)) : Int)), (I6 (IntKind.wrap IntKind.i64 (1 + (↑(depthT (T.mk n2 k2)) : Int)))), (I6 (if IntKind.wrap IntKind.i64 (1 + (↑(depthT (T.mk n2 k2)) : Int)) > max 0 (1 + (↑(depthT (T.mk n1 k1)) : Int)) then IntKind.wrap IntKind.i64 (1 + (↑(depthT (T.mk n2 k2)) : Int)) else max 0 (1 + (↑(depthT (T.mk n1 k1)) : Int)))), (I6 1), .undef], [⟨[(I6 n), .sl [(I6 n1), tl k1, (I6 n2), tl k2] 2 .any], 2, .fresh⟩, ⟨[(I6 n1), tl k1], 2, .fresh⟩, ⟨[(I6 n2), tl k2], 2, .fresh⟩]⟩ (by kernel_rfl) (tt 3) ?_
      rw [IntWalk.i64_in (1 + (↑(depthT (T.mk n2 k2)) : Int)) (by omega)]
      rw [Go.Tr.max_if (max 0 (1 + (↑(depthT (T.mk n1 k1)) : Int))) (1 + (↑(depthT (T.mk n2 k2)) : Int))]
      refine AWP.reg (RT 2 ?_)
      refine AWP.turn ?_
      refine AWP.seq ?_
      refine TO ⟨[U6, U6, (I6 0), (I6 (max (max 0 (1 + (↑(depthT (T.mk n1 k1)) : Int))) (1 + (↑(depthT (T.mk n2 k2)) : Int)))), U6, .ptr 2 0, U6, .sl [(I6 n1), tl k1, (I6 n2), tl k2] 2 .any, (I6 2), (I6 2), (B6 true), .dptr [(I6 n2), tl k2], .agg [(I6 n2), tl k2], (I6 (max 0 (1 + (↑(depthT (T.mk n1 k1)) : Int)))), .agg [(I6 n2), tl k2], (I6 (↑(depthT (T.mk n2 k2)) : Int)), (I6 (1 + (↑(depthT (T.mk n2 k2)) : Int))), (I6 (max (max 0 (1 + (↑(depthT (T.mk n1 k1)) : Int))) (1 + (↑(depthT (T.mk n2 k2)) : Int)))), (I6 2), .undef], [⟨[(I6 n), .sl [(I6 n1), tl k1, (I6 n2), tl k2] 2 .any], 2, .fresh⟩, ⟨[(I6 n1), tl k1], 2, .fresh⟩, ⟨[(I6 n2), tl k2], 2, .fresh⟩]⟩ ?_
      refine AWP.reg (RT 1 ?_)
      refine AWP.seq ?_
      refine TO ⟨[U6, U6, (I6 0), (I6 (max (max 0 (1 + (↑(depthT (T.mk n1 k1)) : Int))) (1 + (↑(depthT (T.mk n2 k2)) : Int)))), U6, .ptr 2 0, U6, .sl [(I6 n1), tl k1, (I6 n2), tl k2] 2 .any, (I6 2), (I6 2), (B6 false), .dptr [(I6 n2), tl k2], .agg [(I6 n2), tl k2], (I6 (max 0 (1 + (↑(depthT (T.mk n1 k1)) : Int)))), .agg [(I6 n2), tl k2], (I6 (↑(depthT (T.mk n2 k2)) : Int)), (I6 (1 + (↑(depthT (T.mk n2 k2)) : Int))), (I6 (max (max 0 (1 + (↑(depthT (T.mk n1 k1)) : Int))) (1 + (↑(depthT (T.mk n2 k2)) : Int)))), (I6 2), .undef], [⟨[(I6 n), .sl [(I6 n1), tl k1, (I6 n2), tl k2] 2 .any], 2, .fresh⟩, ⟨[(I6 n1), tl k1], 2, .fresh⟩, ⟨[(I6 n2), tl k2], 2, .fresh⟩]⟩ ?_
      refine CN false (fun h => nomatch h) (fun _ => ?_)
      refine AWP.exit ?_
      refine AWP.seq (KL ([5] ++ NN 7 12) ⟨[U6, U6, (I6 0), (I6 (max (max 0 (1 + (↑(depthT (T.mk n1 k1)) : Int))) (1 + (↑(depthT (T.mk n2 k2)) : Int))))] ++ UU 16, [⟨[(I6 n), .sl [(I6 n1), tl k1, (I6 n2), tl k2] 2 .any], 2, .fresh⟩, ⟨[(I6 n1), tl k1], 2, .fresh⟩, ⟨[(I6 n2), tl k2], 2, .fresh⟩]⟩ ?_)
      refine AWP.reg (RT 2 ?_)
      refine AWP.ret ?_
      refine FI (.sc (.int .i64 (max (max 0 (1 + (↑(depthT (T.mk n1 k1)) : Int))) (1 + (↑(depthT (T.mk n2 k2)) : Int))))) ?_
      refine Shrink.all ?_ rfl
      (simp only [depthT]; congr 2; omega; done)
theorem s_inner (n a b : Int) (c d : List AVal) (k l : Nat) : EvD Try.prog 126 [.sc (.int .i64 n), .agg [.sc (.int .i64 a), .sl c k .any], .agg [.sc (.int .i64 b), .sl d l .any]] (.agg [.sc (.int .i64 n), .sl [.sc (.int .i64 a), .sl c k .any, .sc (.int .i64 b), .sl d l .any] 2 .any]) := by
  refine EvD.body Try.func126 rfl rfl rfl ?_
  refine AWP.seq ?_
  refine TO ⟨[(I6 n), .agg [(I6 a), .sl c (k) .any], .agg [(I6 b), .sl d (l) .any]] ++ UU 9, []⟩ ?_
  refine AWP.reg (RT 3 ?_)
  refine AWP.seq (KL [1, 2] ⟨[(I6 n), U6, U6, U6, .ptr 0 0, .ptr 1 0, .ptr 2 0] ++ UU 5, [⟨[(I6 a), .sl c (k) .any], 2, .fresh⟩, ⟨[(I6 b), .sl d (l) .any], 2, .fresh⟩, ⟨[(I6 0), .sl [] 0 .nil], 2, .fresh⟩]⟩ ?_)
  refine AWP.reg (RI (True ∧ 2 ≤ 2 ∧ 2 ≤ 2 ∧ True ∧ True ∧ 2 ≤ 2 ∧ True) ⟨trivial, (by omega), (by omega), trivial, trivial, (by omega), trivial⟩ ?_)
  refine AWP.ret ?_
  refine FI (.agg [.sc (.int .i64 (n)), .sl [.sc (.int .i64 (a)), .sl c (k) .any, .sc (.int .i64 (b)), .sl d (l) .any] 2 .nn]) ?_
  refine Shrink.dataK [] (True) (.agg [.sc (.int .i64 (n)), .sl [.sc (.int .i64 (a)), .sl c (k) .any, .sc (.int .i64 (b)), .sl d (l) .any] 2 .nn]) (by kernel_rfl) trivial ?_ rfl
  kernel_rfl
theorem s_normal (q a b : Int) (c e : List T) (hq : -2000000000 ≤ q ∧ q ≤ 2000000000) (hs : size (.mk a c) + size (.mk b e) ≤ 900000) : EvD Try.prog 125 [.sc (.int .i64 q), .agg [.sc (.int .i64 a), .sl (tcs c) c.length .any], .agg [.sc (.int .i64 b), .sl (tcs e) e.length .any]] (ag (normalE q (.mk a c) (.mk b e))) := by
  have q1 := e_Norm 0 [.mk a c, .mk b e] (by simp only [size, sizes] at *; omega)
  rw [tcs2] at q1
  have hn := normEP_n (.mk 0 [.mk a c, .mk b e])
  refine EvD.body Try.func125 rfl rfl rfl ?_
  refine AWP.seq ?_
  refine TO ⟨[(I6 q), .agg [(I6 a), tl c], .agg [(I6 b), tl e]] ++ UU 19, []⟩ ?_
  refine AWP.reg (RT 3 ?_)
  refine AWP.seq (KL [1, 2] ⟨[(I6 q), U6, U6, U6, .ptr 0 0, .ptr 1 0, .ptr 2 0] ++ UU 15, [⟨[(I6 a), tl c], 2, .fresh⟩, ⟨[(I6 b), tl e], 2, .fresh⟩, ⟨[(I6 0), .sl [] 0 .nil], 2, .fresh⟩]⟩ ?_)
  refine AWP.reg (PI 2 (2 ≤ 2 ∧ 2 ≤ 2 ∧ True) ⟨(by omega), (by omega), trivial⟩ ?_)
  refine CD (s_inner ((0 : Int)) a b (tcs c) (tcs e) (List.length c) (List.length e)) ?_
  refine CD (q1) ?_
  refine RI (True ∧ True ∧ True ∧ True ∧ 2 ≤ 2 ∧ True ∧ True) ⟨trivial, trivial, trivial, trivial, (by omega), trivial, trivial⟩ ?_
  refine AWP.seq (KL ([4, 5] ++ NN 8 8) ⟨[(I6 q)] ++ UU 5 ++ [.ptr 2 0, .ptr 3 0] ++ UU 14, [⟨[(I6 a), tl c], 2, .fresh⟩, ⟨[(I6 b), tl e], 2, .fresh⟩, ⟨[(I6 0), .sl [] 0 .nil], 2, .fresh⟩, ⟨[(I6 (T.n (normEP (T.mk 0 [T.mk a c, T.mk b e])).1)), tl (T.ks (normEP (T.mk 0 [T.mk a c, T.mk b e])).1)], 2, .fresh⟩]⟩ ?_)
  refine AWP.reg (RI (True ∧ 0 < 2 ∧ True ∧ True ∧ True ∧ 1 ≤ 2 ∧ True) ⟨trivial, (by omega), trivial, trivial, trivial, (by omega), trivial⟩ ?_)
  refine AWP.seq (KL ([0] ++ NN 16 5) ⟨[.undef] ++ UU 5 ++ [.ptr 2 0, .ptr 3 0] ++ UU 14, [⟨[(I6 a), tl c], 2, .fresh⟩, ⟨[(I6 b), tl e], 2, .fresh⟩, ⟨[(I6 0), .sl [] 0 .nil], 2, .fresh⟩, ⟨[(I6 (IntKind.wrap IntKind.i64 (T.n (normEP (T.mk 0 [T.mk a c, T.mk b e])).1 + q))), tl (T.ks (normEP (T.mk 0 [T.mk a c, T.mk b e])).1)], 2, .fresh⟩]⟩ ?_)
  refine AWP.reg (RI (2 ≤ 2 ∧ 2 ≤ 2 ∧ True) ⟨(by omega), (by omega), trivial⟩ ?_)
  rw [IntWalk.i64_in (T.n (normEP (T.mk 0 [T.mk a c, T.mk b e])).fst + q) (by omega)]
  refine AWP.ret FA
end Go.Tr
