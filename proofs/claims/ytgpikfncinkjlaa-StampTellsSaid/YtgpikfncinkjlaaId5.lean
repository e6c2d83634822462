/- Walks and laws. -/
import Derived.Test.YtgpikfncinkjlaaId4
import Derived.Test.YtgpikfncinkjlaaLibB
set_option maxRecDepth 100000
set_option maxHeartbeats 0
set_option linter.unusedSimpArgs false
set_option linter.unusedVariables false
namespace Go.Tr
open Go Go.Abs Go.Proofs
theorem depth (N : Nat) : ∀ (n : Int) (ks : List T) (m : Int), size (.mk n ks) ≤ N → 0 ≤ m → m ≤ 1000 → binT (.mk n ks) = true → EvD Try.prog 91 [.agg [.sc (.int .i64 n), .sl (tcs ks) ks.length .any], .sc (.int .i64 m)] (.sc (.int .i64 (if (depthT (.mk n ks) : Int) ≤ m then depthT (.mk n ks) else m))) := by
  induction N with
  | zero => intro n ks m h; rw [size] at h; omega
  | succ N ih =>
    intro n ks m hN h0 h1 hb
    rcases bin_case hb with rfl | ⟨n1, k1, n2, k2, rfl⟩
    · refine EvD.body Try.func91 rfl rfl rfl ?_
      refine AWP.seq ?_
      refine TO ⟨[.agg [(I6 n), .sl [] 0 .any], (I6 m)] ++ UU 28, []⟩ ?_
      refine AWP.reg (RT 2 ?_)
      refine AWP.seq (KL [0] ⟨[U6, (I6 m), .ptr 0 0, U6, (I6 0)] ++ UU 25, [⟨[(I6 n), .sl [] 0 .any], 2, .fresh⟩]⟩ ?_)
      refine AWP.reg (RT 1 ?_)
      refine AWP.seq (AWP.seq ?_)
      refine TO ⟨[U6, (I6 m), .ptr 0 0, U6, (I6 0), (I6 0)] ++ UU 24, [⟨[(I6 n), .sl [] 0 .any], 2, .fresh⟩]⟩ ?_
      refine AWP.reg (RT 1 ?_)
      refine AWP.block ?_
      refine TO ⟨[U6, (I6 m), .ptr 0 0, U6, (I6 0), (I6 0), (I6 0)] ++ UU 23, [⟨[(I6 n), .sl [] 0 .any], 2, .fresh⟩]⟩ ?_
      refine AWP.loopN 3 ?_
      refine AWP.turn ?_
      refine AWP.seq (SQ (RI (True ∧ True ∧ 1 < 2 ∧ True ∧ True ∧ True ∧ True ∧ True) ⟨trivial, trivial, (by omega), trivial, trivial, trivial, trivial, trivial⟩ ?_))
      refine TO ⟨[U6, (I6 m), .ptr 0 0, U6, (I6 0), (I6 0), (I6 0), (I6 0), .ptr 0 1, .sl [] 0 .any, (I6 0), (B6 false), (B6 false), .tup [], .tup [], (B6 false)] ++ UU 14, [⟨[(I6 n), .sl [] 0 .any], 2, .fresh⟩]⟩ ?_
      refine CN false (fun h => nomatch h) (fun _ => ?_)
      refine AWP.exit ?_
      refine AWP.seq (KL ([1, 2] ++ NN 6 10) ⟨[U6, U6, U6, U6, (I6 0), (I6 0)] ++ UU 24, [⟨[(I6 n), .sl [] 0 .any], 2, .fresh⟩]⟩ ?_)
      refine AWP.reg (RT 2 ?_)
      refine AWP.ret ?_
      refine FI (.sc (.int .i64 0)) ?_
      refine Shrink.all ?_ rfl
      (rw [if_pos (by simp [depthT]; omega)]; rfl; done)
    · have hb' := bin_kids hb
      simp only [size, sizes] at hN
      rw [tcs2]
      have e : depthT (.mk n [.mk n1 k1, .mk n2 k2]) = 1 + max (depthT (.mk n1 k1)) (depthT (.mk n2 k2)) := rfl
      rw [e]
      refine EvD.body Try.func91 rfl rfl rfl ?_
      refine AWP.seq ?_
      refine TO ⟨[.agg [(I6 n), .sl [(I6 n1), tl k1, (I6 n2), tl k2] 2 .any], (I6 m)] ++ UU 28, []⟩ ?_
      refine AWP.reg (RT 2 ?_)
      refine AWP.seq (KL [0] ⟨[U6, (I6 m), .ptr 0 0, U6, (I6 0)] ++ UU 25, [⟨[(I6 n), .sl [(I6 n1), tl k1, (I6 n2), tl k2] 2 .any], 2, .fresh⟩]⟩ ?_)
      refine AWP.reg (RT 1 ?_)
      refine AWP.seq (AWP.seq ?_)
      refine TO ⟨[U6, (I6 m), .ptr 0 0, U6, (I6 0), (I6 0)] ++ UU 24, [⟨[(I6 n), .sl [(I6 n1), tl k1, (I6 n2), tl k2] 2 .any], 2, .fresh⟩]⟩ ?_
      refine AWP.reg (RT 1 ?_)
      refine AWP.block ?_
      refine TO ⟨[U6, (I6 m), .ptr 0 0, U6, (I6 0), (I6 0), (I6 0)] ++ UU 23, [⟨[(I6 n), .sl [(I6 n1), tl k1, (I6 n2), tl k2] 2 .any], 2, .fresh⟩]⟩ ?_
      refine AWP.loopN 3 ?_
      refine AWP.turn ?_
      refine AWP.seq (SQ (RI (True ∧ True ∧ 1 < 2 ∧ True ∧ True ∧ True ∧ True ∧ True ∧ True ∧ True) ⟨trivial, trivial, (by omega), trivial, trivial, trivial, trivial, trivial, trivial, trivial⟩ ?_))
      refine TO ⟨[U6, (I6 m), .ptr 0 0, U6, (I6 0), (I6 0), (I6 0), (I6 0), .ptr 0 1, .sl [(I6 n1), tl k1, (I6 n2), tl k2] 2 .any, (I6 2), (B6 true), (B6 true), (I6 m), (B6 (decide (m > 0))), (B6 (decide (m > 0)))] ++ UU 14, [⟨[(I6 n), .sl [(I6 n1), tl k1, (I6 n2), tl k2] 2 .any], 2, .fresh⟩]⟩ ?_
      refine CN (decide (m > 0)) (fun h2 => ?_) (fun h2 => ?_)
      · have h2' := of_decide_eq_true h2
        refine AWP.skip (AWP.seq (AWP.block (AWP.reg ?_)))
        refine DerQ.pre 8 (True ∧ True ∧ 1 < 2 ∧ True ∧ ((((0 : Int) ≤ (0 : Int)) ∧ ((0 : Int) < (2 : Int))) ∧ ((2 : Nat) ≤ (4 : Nat))) ∧ 2 ≤ 2 ∧ True ∧ True ∧ True) ⟨[U6, (I6 m), .ptr 0 0, U6, (I6 0), (I6 0), (I6 0), (I6 0), .ptr 0 1, .sl [(I6 n1), tl k1, (I6 n2), tl k2] 2 .any, (I6 2), (B6 true), (B6 true), (I6 m), (B6 (decide (m > 0))), (B6 (decide (m > 0))), U6, U6, (I6 0), .ptr 0 1, .sl [(I6 n1), tl k1, (I6 n2), tl k2] 2 .any, (I6 0), .dptr [(I6 n1), tl k1], .agg [(I6 n1), tl k1], (I6 m), (I6 (IntKind.wrap IntKind.i64 (m - 1))), U6, U6, U6, .undef], [⟨[(I6 n), .sl [(I6 n1), tl k1, (I6 n2), tl k2] 2 .any], 2, .fresh⟩]⟩ (by kernel_rfl) ⟨trivial, trivial, (by omega), trivial, ⟨⟨(by omega), (by omega)⟩, (by omega)⟩, (by omega), trivial, trivial, trivial⟩ ?_
        rw [IntWalk.i64_in (m - 1) (by omega)]
        refine CD (ih n1 k1 (m - 1) (by (rw [size]; omega)) (by omega) (by omega) (by (exact hb'.1))) ?_
        refine DerQ.run (TT 3) ⟨[U6, (I6 m), .ptr 0 0, U6, (I6 0), (I6 (if IntKind.wrap IntKind.i64 (1 + if (↑(depthT (T.mk n1 k1)) : Int) ≤ m - 1 then (↑(depthT (T.mk n1 k1)) : Int) else m - 1) > 0 then IntKind.wrap IntKind.i64 (1 + if (↑(depthT (T.mk n1 k1)) : Int) ≤ m - 1 then (↑(depthT (T.mk n1 k1)) : Int) else m - 1) else 0)), (I6 0), (I6 0), .ptr 0 1, .sl [(I6 n1), tl k1, (I6 n2), tl k2] 2 .any, (I6 2), (B6 true), (B6 true), (I6 m), (B6 (decide (m > 0))), (B6 (decide (m > 0))), U6, U6, (I6 0), .ptr 0 1, .sl [(I6 n1), tl k1, (I6 n2), tl k2] 2 .any, (I6 0), .dptr [(I6 n1), tl k1], .agg [(I6 n1), tl k1], (I6 m), (I6 (m - 1)), (I6 (if (↑(depthT (T.mk n1 k1)) : Int) ≤ m - 1 then (↑(depthT (T.mk n1 k1)) : Int) else m - 1)), (I6 (IntKind.wrap IntKind.i64 (1 + if (↑(depthT (T.mk n1 k1)) : Int) ≤ m - 1 then (↑(depthT (T.mk n1 k1)) : Int) else m - 1))), (I6 (if IntKind.wrap IntKind.i64 (1 + if (↑(depthT (T.mk n1 k1)) : Int) ≤ m - 1 then (↑(depthT (T.mk n1 k1)) : Int) else m - 1) > 0 then IntKind.wrap IntKind.i64 (1 + if (↑(depthT (T.mk n1 k1)) : Int) ≤ m - 1 then (↑(depthT (T.mk n1 k1)) : Int) else m - 1) else 0)), .undef], [⟨[(I6 n), .sl [(I6 n1), tl k1, (I6 n2), tl k2] 2 .any], 2, .fresh⟩]⟩ (by kernel_rfl) (tt 3) ?_
        rw [IntWalk.i64_in (1 + if (↑(depthT (T.mk n1 k1)) : Int) ≤ m - 1 then (↑(depthT (T.mk n1 k1)) : Int) else m - 1) (by omega)]
        refine AWP.reg (RT 3 ?_)
        refine AWP.turn ?_
        refine AWP.seq (AWP.seq ?_)
        refine TO ⟨[U6, (I6 m), .ptr 0 0, U6, (I6 0), (I6 (if (1 + if (↑(depthT (T.mk n1 k1)) : Int) ≤ m - 1 then (↑(depthT (T.mk n1 k1)) : Int) else m - 1) > 0 then 1 + if (↑(depthT (T.mk n1 k1)) : Int) ≤ m - 1 then (↑(depthT (T.mk n1 k1)) : Int) else m - 1 else 0)), (I6 1), (I6 0), .ptr 0 1, .sl [(I6 n1), tl k1, (I6 n2), tl k2] 2 .any, (I6 2), (B6 true), (B6 true), (I6 m), (B6 (decide (m > 0))), (B6 (decide (m > 0))), (I6 0), (I6 1), (I6 0), .ptr 0 1, .sl [(I6 n1), tl k1, (I6 n2), tl k2] 2 .any, (I6 0), .dptr [(I6 n1), tl k1], .agg [(I6 n1), tl k1], (I6 m), (I6 (m - 1)), (I6 (if (↑(depthT (T.mk n1 k1)) : Int) ≤ m - 1 then (↑(depthT (T.mk n1 k1)) : Int) else m - 1)), (I6 (1 + if (↑(depthT (T.mk n1 k1)) : Int) ≤ m - 1 then (↑(depthT (T.mk n1 k1)) : Int) else m - 1)), (I6 (if (1 + if (↑(depthT (T.mk n1 k1)) : Int) ≤ m - 1 then (↑(depthT (T.mk n1 k1)) : Int) else m - 1) > 0 then 1 + if (↑(depthT (T.mk n1 k1)) : Int) ≤ m - 1 then (↑(depthT (T.mk n1 k1)) : Int) else m - 1 else 0)), .undef], [⟨[(I6 n), .sl [(I6 n1), tl k1, (I6 n2), tl k2] 2 .any], 2, .fresh⟩]⟩ ?_
        refine AWP.reg (RI (True ∧ True ∧ 1 < 2 ∧ True ∧ True ∧ True ∧ True ∧ True ∧ True ∧ True) ⟨trivial, trivial, (by omega), trivial, trivial, trivial, trivial, trivial, trivial, trivial⟩ ?_)
        refine TO ⟨[U6, (I6 m), .ptr 0 0, U6, (I6 0), (I6 (if (1 + if (↑(depthT (T.mk n1 k1)) : Int) ≤ m - 1 then (↑(depthT (T.mk n1 k1)) : Int) else m - 1) > 0 then 1 + if (↑(depthT (T.mk n1 k1)) : Int) ≤ m - 1 then (↑(depthT (T.mk n1 k1)) : Int) else m - 1 else 0)), (I6 1), (I6 1), .ptr 0 1, .sl [(I6 n1), tl k1, (I6 n2), tl k2] 2 .any, (I6 2), (B6 true), (B6 true), (I6 m), (B6 (decide (m > 0))), (B6 (decide (m > 0))), (I6 0), (I6 1), (I6 0), .ptr 0 1, .sl [(I6 n1), tl k1, (I6 n2), tl k2] 2 .any, (I6 0), .dptr [(I6 n1), tl k1], .agg [(I6 n1), tl k1], (I6 m), (I6 (m - 1)), (I6 (if (↑(depthT (T.mk n1 k1)) : Int) ≤ m - 1 then (↑(depthT (T.mk n1 k1)) : Int) else m - 1)), (I6 (1 + if (↑(depthT (T.mk n1 k1)) : Int) ≤ m - 1 then (↑(depthT (T.mk n1 k1)) : Int) else m - 1)), (I6 (if (1 + if (↑(depthT (T.mk n1 k1)) : Int) ≤ m - 1 then (↑(depthT (T.mk n1 k1)) : Int) else m - 1) > 0 then 1 + if (↑(depthT (T.mk n1 k1)) : Int) ≤ m - 1 then (↑(depthT (T.mk n1 k1)) : Int) else m - 1 else 0)), .undef], [⟨[(I6 n), .sl [(I6 n1), tl k1, (I6 n2), tl k2] 2 .any], 2, .fresh⟩]⟩ ?_
        refine CN (decide (m > 0)) (fun h3 => ?_) (fun h3 => ?_)
        · have h3' := of_decide_eq_true h3
          refine AWP.skip (AWP.seq (AWP.block (AWP.reg ?_)))
          refine DerQ.pre 8 (True ∧ True ∧ 1 < 2 ∧ True ∧ ((((0 : Int) ≤ (1 : Int)) ∧ ((1 : Int) < (2 : Int))) ∧ ((4 : Nat) ≤ (4 : Nat))) ∧ 2 ≤ 2 ∧ True ∧ True ∧ True) ⟨[U6, (I6 m), .ptr 0 0, U6, (I6 0), (I6 (if (1 + if (↑(depthT (T.mk n1 k1)) : Int) ≤ m - 1 then (↑(depthT (T.mk n1 k1)) : Int) else m - 1) > 0 then 1 + if (↑(depthT (T.mk n1 k1)) : Int) ≤ m - 1 then (↑(depthT (T.mk n1 k1)) : Int) else m - 1 else 0)), (I6 1), (I6 1), .ptr 0 1, .sl [(I6 n1), tl k1, (I6 n2), tl k2] 2 .any, (I6 2), (B6 true), (B6 true), (I6 m), (B6 (decide (m > 0))), (B6 (decide (m > 0))), (I6 0), (I6 1), (I6 (if (1 + if (↑(depthT (T.mk n1 k1)) : Int) ≤ m - 1 then (↑(depthT (T.mk n1 k1)) : Int) else m - 1) > 0 then 1 + if (↑(depthT (T.mk n1 k1)) : Int) ≤ m - 1 then (↑(depthT (T.mk n1 k1)) : Int) else m - 1 else 0)), .ptr 0 1, .sl [(I6 n1), tl k1, (I6 n2), tl k2] 2 .any, (I6 1), .dptr [(I6 n2), tl k2], .agg [(I6 n2), tl k2], (I6 m), (I6 (IntKind.wrap IntKind.i64 (m - 1))), (I6 (if (↑(depthT (T.mk n1 k1)) : Int) ≤ m - 1 then (↑(depthT (T.mk n1 k1)) : Int) else m - 1)), (I6 (1 + if (↑(depthT (T.mk n1 k1)) : Int) ≤ m - 1 then (↑(depthT (T.mk n1 k1)) : Int) else m - 1)), (I6 (if (1 + if (↑(depthT (T.mk n1 k1)) : Int) ≤ m - 1 then (↑(depthT (T.mk n1 k1)) : Int) else m - 1) > 0 then 1 + if (↑(depthT (T.mk n1 k1)) : Int) ≤ m - 1 then (↑(depthT (T.mk n1 k1)) : Int) else m - 1 else 0)), .undef], [⟨[(I6 n), .sl [(I6 n1), tl k1, (I6 n2), tl k2] 2 .any], 2, .fresh⟩]⟩ (by kernel_rfl) ⟨trivial, trivial, (by omega), trivial, ⟨⟨(by omega), (by omega)⟩, (by omega)⟩, (by omega), trivial, trivial, trivial⟩ ?_
          rw [IntWalk.i64_in (m - 1) (by omega)]
          refine CD (ih n2 k2 (m - 1) (by (rw [size]; omega)) (by omega) (by omega) (by (exact hb'.2))) ?_
          refine DerQ.run (TT 3) ⟨[U6, (I6 m), .ptr 0 0, U6, (I6 0), (I6 (if IntKind.wrap IntKind.i64 (1 + if (↑(depthT (T.mk n2 k2)) : Int) ≤ m - 1 then (↑(depthT (T.mk n2 k2)) : Int) else m - 1) > if (1 + if (↑(depthT (T.mk n1 k1)) : Int) ≤ m - 1 then (↑(depthT (T.mk n1 k1)) : Int) else m - 1) > 0 then 1 + if (↑(depthT (T.mk n1 k1)) : Int) ≤ m - 1 then (↑(depthT (T.mk n1 k1)) : Int) else m - 1 else 0 then IntKind.wrap IntKind.i64 (1 + if (↑(depthT (T.mk n2 k2)) : Int) ≤ m - 1 then (↑(depthT (T.mk n2 k2)) : Int) else m - 1) else if (1 + if (↑(depthT (T.mk n1 k1)) : Int) ≤ m - 1 then (↑(depthT (T.mk n1 k1)) : Int) else m - 1) > 0 then 1 + if (↑(depthT (T.mk n1 k1)) : Int) ≤ m - 1 then (↑(depthT (T.mk n1 k1)) : Int) else m - 1 else 0)), (I6 1), (I6 1), .ptr 0 1, .sl [(I6 n1), tl k1, (I6 n2), tl k2] 2 .any, (I6 2), (B6 true), (B6 true), (I6 m), (B6 (decide (m > 0))), (B6 (decide (m > 0))), (I6 0), (I6 1), (I6 (if (1 + if (↑(depthT (T.mk n1 k1)) : Int) ≤ m - 1 then (↑(depthT (T.mk n1 k1)) : Int) else m - 1) > 0 then 1 + if (↑(depthT (T.mk n1 k1)) : Int) ≤ m - 1 then (↑(depthT (T.mk n1 k1)) : Int) else m - 1 else 0)), .ptr 0 1, .sl [(I6 n1), tl k1, (I6 n2), tl k2] 2 .any, (I6 1), .dptr [(I6 n2), tl k2], .agg [(I6 n2), tl k2], (I6 m), (I6 (m - 1)), (I6 (if (↑(depthT (T.mk n2 k2)) : Int) ≤ m - 1 then (↑(depthT (T.mk n2 k2)) : Int) else m - 1)), (I6 (IntKind.wrap IntKind.i64 (1 + if (↑(depthT (T.mk n2 k2)) : Int) ≤ m - 1 then (↑(depthT (T.mk n2 k2)) : Int) else m - 1))), (I6 (if IntKind.wrap IntKind.i64 (1 + if (↑(depthT (T.mk n2 k2)) : Int) ≤ m - 1 then (↑(depthT (T.mk n2 k2)) : Int) else m - 1) > if (1 + if (↑(depthT (T.mk n1 k1)) : Int) ≤ m - 1 then (↑(depthT (T.mk n1 k1)) : Int) else m - 1) > 0 then 1 + if (↑(depthT (T.mk n1 k1)) : Int) ≤ m - 1 then (↑(depthT (T.mk n1 k1)) : Int) else m - 1 else 0 then IntKind.wrap IntKind.i64 (1 + if (↑(depthT (T.mk n2 k2)) : Int) ≤ m - 1 then (↑(depthT (T.mk n2 k2)) : Int) else m - 1) else if (1 + if (↑(depthT (T.mk n1 k1)) : Int) ≤ m - 1 then (↑(depthT (T.mk n1 k1)) : Int) else m - 1) > 0 then 1 + if (↑(depthT (T.mk n1 k1)) : Int) ≤ m - 1 then (↑(depthT (T.mk n1 k1)) : Int) else m - 1 else 0)), .undef], [⟨[(I6 n), .sl [(I6 n1), tl k1, (I6 n2), tl k2] 2 .any], 2, .fresh⟩]⟩ (by kernel_rfl) (tt 3) ?_
          rw [IntWalk.i64_in (1 + if (↑(depthT (T.mk n2 k2)) : Int) ≤ m - 1 then (↑(depthT (T.mk n2 k2)) : Int) else m - 1) (by omega)]
          refine AWP.reg (RT 3 ?_)
          refine AWP.turn ?_
          refine AWP.seq (AWP.seq ?_)
          refine TO ⟨[U6, (I6 m), .ptr 0 0, U6, (I6 0), (I6 (if (1 + if (↑(depthT (T.mk n2 k2)) : Int) ≤ m - 1 then (↑(depthT (T.mk n2 k2)) : Int) else m - 1) > if (1 + if (↑(depthT (T.mk n1 k1)) : Int) ≤ m - 1 then (↑(depthT (T.mk n1 k1)) : Int) else m - 1) > 0 then 1 + if (↑(depthT (T.mk n1 k1)) : Int) ≤ m - 1 then (↑(depthT (T.mk n1 k1)) : Int) else m - 1 else 0 then 1 + if (↑(depthT (T.mk n2 k2)) : Int) ≤ m - 1 then (↑(depthT (T.mk n2 k2)) : Int) else m - 1 else if (1 + if (↑(depthT (T.mk n1 k1)) : Int) ≤ m - 1 then (↑(depthT (T.mk n1 k1)) : Int) else m - 1) > 0 then 1 + if (↑(depthT (T.mk n1 k1)) : Int) ≤ m - 1 then (↑(depthT (T.mk n1 k1)) : Int) else m - 1 else 0)), (I6 2), (I6 1), .ptr 0 1, .sl [(I6 n1), tl k1, (I6 n2), tl k2] 2 .any, (I6 2), (B6 true), (B6 true), (I6 m), (B6 (decide (m > 0))), (B6 (decide (m > 0))), (I6 1), (I6 2), (I6 (if (1 + if (↑(depthT (T.mk n1 k1)) : Int) ≤ m - 1 then (↑(depthT (T.mk n1 k1)) : Int) else m - 1) > 0 then 1 + if (↑(depthT (T.mk n1 k1)) : Int) ≤ m - 1 then (↑(depthT (T.mk n1 k1)) : Int) else m - 1 else 0)), .ptr 0 1, .sl [(I6 n1), tl k1, (I6 n2), tl k2] 2 .any, (I6 1), .dptr [(I6 n2), tl k2], .agg [(I6 n2), tl k2], (I6 m), (I6 (m - 1)), (I6 (if (↑(depthT (T.mk n2 k2)) : Int) ≤ m - 1 then (↑(depthT (T.mk n2 k2)) : Int) else m - 1)), (I6 (1 + if (↑(depthT (T.mk n2 k2)) : Int) ≤ m - 1 then (↑(depthT (T.mk n2 k2)) : Int) else m - 1)), (I6 (if (1 + if (↑(depthT (T.mk n2 k2)) : Int) ≤ m - 1 then (↑(depthT (T.mk n2 k2)) : Int) else m - 1) > if (1 + if (↑(depthT (T.mk n1 k1)) : Int) ≤ m - 1 then (↑(depthT (T.mk n1 k1)) : Int) else m - 1) > 0 then 1 + if (↑(depthT (T.mk n1 k1)) : Int) ≤ m - 1 then (↑(depthT (T.mk n1 k1)) : Int) else m - 1 else 0 then 1 + if (↑(depthT (T.mk n2 k2)) : Int) ≤ m - 1 then (↑(depthT (T.mk n2 k2)) : Int) else m - 1 else if (1 + if (↑(depthT (T.mk n1 k1)) : Int) ≤ m - 1 then (↑(depthT (T.mk n1 k1)) : Int) else m - 1) > 0 then 1 + if (↑(depthT (T.mk n1 k1)) : Int) ≤ m - 1 then (↑(depthT (T.mk n1 k1)) : Int) else m - 1 else 0)), .undef], [⟨[(I6 n), .sl [(I6 n1), tl k1, (I6 n2), tl k2] 2 .any], 2, .fresh⟩]⟩ ?_
          refine AWP.reg (RI (True ∧ True ∧ 1 < 2 ∧ True ∧ True ∧ True ∧ True ∧ True) ⟨trivial, trivial, (by omega), trivial, trivial, trivial, trivial, trivial⟩ ?_)
          refine TO ⟨[U6, (I6 m), .ptr 0 0, U6, (I6 0), (I6 (if (1 + if (↑(depthT (T.mk n2 k2)) : Int) ≤ m - 1 then (↑(depthT (T.mk n2 k2)) : Int) else m - 1) > if (1 + if (↑(depthT (T.mk n1 k1)) : Int) ≤ m - 1 then (↑(depthT (T.mk n1 k1)) : Int) else m - 1) > 0 then 1 + if (↑(depthT (T.mk n1 k1)) : Int) ≤ m - 1 then (↑(depthT (T.mk n1 k1)) : Int) else m - 1 else 0 then 1 + if (↑(depthT (T.mk n2 k2)) : Int) ≤ m - 1 then (↑(depthT (T.mk n2 k2)) : Int) else m - 1 else if (1 + if (↑(depthT (T.mk n1 k1)) : Int) ≤ m - 1 then (↑(depthT (T.mk n1 k1)) : Int) else m - 1) > 0 then 1 + if (↑(depthT (T.mk n1 k1)) : Int) ≤ m - 1 then (↑(depthT (T.mk n1 k1)) : Int) else m - 1 else 0)), (I6 2), (I6 2), .ptr 0 1, .sl [(I6 n1), tl k1, (I6 n2), tl k2] 2 .any, (I6 2), (B6 false), (B6 false), .tup [], .tup [], (B6 false), (I6 1), (I6 2), (I6 (if (1 + if (↑(depthT (T.mk n1 k1)) : Int) ≤ m - 1 then (↑(depthT (T.mk n1 k1)) : Int) else m - 1) > 0 then 1 + if (↑(depthT (T.mk n1 k1)) : Int) ≤ m - 1 then (↑(depthT (T.mk n1 k1)) : Int) else m - 1 else 0)), .ptr 0 1, .sl [(I6 n1), tl k1, (I6 n2), tl k2] 2 .any, (I6 1), .dptr [(I6 n2), tl k2], .agg [(I6 n2), tl k2], (I6 m), (I6 (m - 1)), (I6 (if (↑(depthT (T.mk n2 k2)) : Int) ≤ m - 1 then (↑(depthT (T.mk n2 k2)) : Int) else m - 1)), (I6 (1 + if (↑(depthT (T.mk n2 k2)) : Int) ≤ m - 1 then (↑(depthT (T.mk n2 k2)) : Int) else m - 1)), (I6 (if (1 + if (↑(depthT (T.mk n2 k2)) : Int) ≤ m - 1 then (↑(depthT (T.mk n2 k2)) : Int) else m - 1) > if (1 + if (↑(depthT (T.mk n1 k1)) : Int) ≤ m - 1 then (↑(depthT (T.mk n1 k1)) : Int) else m - 1) > 0 then 1 + if (↑(depthT (T.mk n1 k1)) : Int) ≤ m - 1 then (↑(depthT (T.mk n1 k1)) : Int) else m - 1 else 0 then 1 + if (↑(depthT (T.mk n2 k2)) : Int) ≤ m - 1 then (↑(depthT (T.mk n2 k2)) : Int) else m - 1 else if (1 + if (↑(depthT (T.mk n1 k1)) : Int) ≤ m - 1 then (↑(depthT (T.mk n1 k1)) : Int) else m - 1) > 0 then 1 + if (↑(depthT (T.mk n1 k1)) : Int) ≤ m - 1 then (↑(depthT (T.mk n1 k1)) : Int) else m - 1 else 0)), .undef], [⟨[(I6 n), .sl [(I6 n1), tl k1, (I6 n2), tl k2] 2 .any], 2, .fresh⟩]⟩ ?_
          refine CN false (fun h => nomatch h) (fun _ => ?_)
          refine AWP.exit ?_
          refine AWP.seq (KL ([1, 2] ++ NN 6 23) ⟨[U6, U6, U6, U6, (I6 0), (I6 (if (1 + if (↑(depthT (T.mk n2 k2)) : Int) ≤ m - 1 then (↑(depthT (T.mk n2 k2)) : Int) else m - 1) > if (1 + if (↑(depthT (T.mk n1 k1)) : Int) ≤ m - 1 then (↑(depthT (T.mk n1 k1)) : Int) else m - 1) > 0 then 1 + if (↑(depthT (T.mk n1 k1)) : Int) ≤ m - 1 then (↑(depthT (T.mk n1 k1)) : Int) else m - 1 else 0 then 1 + if (↑(depthT (T.mk n2 k2)) : Int) ≤ m - 1 then (↑(depthT (T.mk n2 k2)) : Int) else m - 1 else if (1 + if (↑(depthT (T.mk n1 k1)) : Int) ≤ m - 1 then (↑(depthT (T.mk n1 k1)) : Int) else m - 1) > 0 then 1 + if (↑(depthT (T.mk n1 k1)) : Int) ≤ m - 1 then (↑(depthT (T.mk n1 k1)) : Int) else m - 1 else 0))] ++ UU 24, [⟨[(I6 n), .sl [(I6 n1), tl k1, (I6 n2), tl k2] 2 .any], 2, .fresh⟩]⟩ ?_)
          refine AWP.reg (RT 2 ?_)
          refine AWP.ret ?_
          refine FI (.sc (.int .i64 (if (1 + if (↑(depthT (T.mk n2 k2)) : Int) ≤ m - 1 then (↑(depthT (T.mk n2 k2)) : Int) else m - 1) > if (1 + if (↑(depthT (T.mk n1 k1)) : Int) ≤ m - 1 then (↑(depthT (T.mk n1 k1)) : Int) else m - 1) > 0 then 1 + if (↑(depthT (T.mk n1 k1)) : Int) ≤ m - 1 then (↑(depthT (T.mk n1 k1)) : Int) else m - 1 else 0 then 1 + if (↑(depthT (T.mk n2 k2)) : Int) ≤ m - 1 then (↑(depthT (T.mk n2 k2)) : Int) else m - 1 else if (1 + if (↑(depthT (T.mk n1 k1)) : Int) ≤ m - 1 then (↑(depthT (T.mk n1 k1)) : Int) else m - 1) > 0 then 1 + if (↑(depthT (T.mk n1 k1)) : Int) ≤ m - 1 then (↑(depthT (T.mk n1 k1)) : Int) else m - 1 else 0))) ?_
          refine Shrink.all ?_ rfl
          (congr 2; (repeat' rw [IntWalk.i64_in _ (by (repeat' split) <;> omega)]); (repeat' split) <;> omega; done)
        · have h3' := of_decide_eq_false h3
          exfalso; omega
      · have h2' := of_decide_eq_false h2
        refine AWP.exit ?_
        refine AWP.seq (KL ([1, 2] ++ NN 6 10) ⟨[U6, U6, U6, U6, (I6 0), (I6 0)] ++ UU 24, [⟨[(I6 n), .sl [(I6 n1), tl k1, (I6 n2), tl k2] 2 .any], 2, .fresh⟩]⟩ ?_)
        refine AWP.reg (RT 2 ?_)
        refine AWP.ret ?_
        refine FI (.sc (.int .i64 0)) ?_
        refine Shrink.all ?_ rfl
        (congr 2; (repeat' rw [IntWalk.i64_in _ (by (repeat' split) <;> omega)]); (repeat' split) <;> omega; done)
theorem r_Split (n : Int) (ks : List T) (hN : size (.mk n ks) ≤ 1000) : EvD Try.prog 36 [.agg [.sc (.int .i64 n), .sl (tcs ks) ks.length .any]] (.tup [ag (splitP (.mk n ks)).1, ag (splitP (.mk n ks)).2.1, .sc (.int .i64 (splitP (.mk n ks)).2.2)]) := by
  have q1 := r_check n ks (by omega)
  cases hr : checkI (.mk n ks)
  · rw [hr] at q1
    refine EvD.body Try.func36 rfl rfl rfl ?_
    refine AWP.seq ?_
    refine TO ⟨[.agg [(I6 n), tl ks]] ++ UU 32, []⟩ ?_
    refine AWP.reg (RT 4 ?_)
    refine AWP.seq (AWP.seq (KL [0] ⟨[U6, .ptr 0 0, .ptr 1 0, .ptr 2 0, (I6 0)] ++ UU 28, [⟨[(I6 n), tl ks], 2, .fresh⟩, ⟨[(I6 0), .sl [] 0 .nil], 2, .fresh⟩, ⟨[(I6 0), .sl [] 0 .nil], 2, .fresh⟩]⟩ ?_))
    refine AWP.reg (PI 1 (2 ≤ 2 ∧ True) ⟨(by omega), trivial⟩ ?_)
    refine CD (q1) ?_
    refine RT 1 ?_
    refine KL [7, 8] ⟨[U6, .ptr 0 0, .ptr 1 0, .ptr 2 0, (I6 0), U6, U6, U6, U6, (B6 true)] ++ UU 23, [⟨[(I6 n), tl ks], 2, .fresh⟩, ⟨[(I6 0), .sl [] 0 .nil], 2, .fresh⟩, ⟨[(I6 0), .sl [] 0 .nil], 2, .fresh⟩]⟩ ?_
    refine CN true (fun _ => ?_) (fun h => nomatch h)
    refine SQ (RI (True ∧ True ∧ 2 ≤ 2 ∧ 2 ≤ 2 ∧ True ∧ True) ⟨trivial, trivial, (by omega), (by omega), trivial, trivial⟩ ?_)
    refine AWP.ret ?_
    refine FI (.tup [.agg [.sc (.int .i64 0), .sl [] 0 .nil], .agg [.sc (.int .i64 0), .sl [] 0 .nil], .sc (.int .i64 3)]) ?_
    refine Shrink.dataK [] (True) (.tup [.agg [.sc (.int .i64 0), .sl [] 0 .nil], .agg [.sc (.int .i64 0), .sl [] 0 .nil], .sc (.int .i64 3)]) (by kernel_rfl) trivial ?_ rfl
    (rw [splitP, if_neg (by rw [hr]; exact Bool.false_ne_true)]; rfl; done)
  · rw [hr] at q1
    have q3 := r_halves 100000 n ks (by omega) (check_bin hr)
    have hh := halves_size (.mk n ks)
    have hd := halves_bin (.mk n ks) (check_bin hr)
    refine EvD.body Try.func36 rfl rfl rfl ?_
    refine AWP.seq ?_
    refine TO ⟨[.agg [(I6 n), tl ks]] ++ UU 32, []⟩ ?_
    refine AWP.reg (RT 4 ?_)
    refine AWP.seq (AWP.seq (KL [0] ⟨[U6, .ptr 0 0, .ptr 1 0, .ptr 2 0, (I6 0)] ++ UU 28, [⟨[(I6 n), tl ks], 2, .fresh⟩, ⟨[(I6 0), .sl [] 0 .nil], 2, .fresh⟩, ⟨[(I6 0), .sl [] 0 .nil], 2, .fresh⟩]⟩ ?_))
    refine AWP.reg (PI 1 (2 ≤ 2 ∧ True) ⟨(by omega), trivial⟩ ?_)
    refine CD (q1) ?_
    refine RT 1 ?_
    refine KL [7, 8] ⟨[U6, .ptr 0 0, .ptr 1 0, .ptr 2 0, (I6 0), U6, U6, U6, U6, (B6 false)] ++ UU 23, [⟨[(I6 n), tl ks], 2, .fresh⟩, ⟨[(I6 0), .sl [] 0 .nil], 2, .fresh⟩, ⟨[(I6 0), .sl [] 0 .nil], 2, .fresh⟩]⟩ ?_
    refine CN false (fun h => nomatch h) (fun _ => ?_)
    refine AWP.skip (AWP.seq (SQ (PI 1 (2 ≤ 2 ∧ True) ⟨(by omega), trivial⟩ ?_)))
    refine CD (r_is n ((0 : Int)) (tcs ks) (List.length ks)) ?_
    refine DerQ.nil ?_
    refine KL [9, 12] ⟨[U6, .ptr 0 0, .ptr 1 0, .ptr 2 0, (I6 0)] ++ UU 8 ++ [(B6 (decide (List.length ks = 0 ∧ n = 0)))] ++ UU 19, [⟨[(I6 n), tl ks], 2, .fresh⟩, ⟨[(I6 0), .sl [] 0 .nil], 2, .fresh⟩, ⟨[(I6 0), .sl [] 0 .nil], 2, .fresh⟩]⟩ ?_
    refine CN (decide (List.length ks = 0 ∧ n = 0)) (fun h1 => ?_) (fun h1 => ?_)
    · have h1' := of_decide_eq_true h1
      refine SQ (RI (True ∧ True ∧ 2 ≤ 2 ∧ 2 ≤ 2 ∧ True ∧ True) ⟨trivial, trivial, (by omega), (by omega), trivial, trivial⟩ ?_)
      refine AWP.ret ?_
      refine FI (.tup [.agg [.sc (.int .i64 0), .sl [] 0 .nil], .agg [.sc (.int .i64 0), .sl [] 0 .nil], .sc (.int .i64 7)]) ?_
      refine Shrink.dataK [] (True) (.tup [.agg [.sc (.int .i64 0), .sl [] 0 .nil], .agg [.sc (.int .i64 0), .sl [] 0 .nil], .sc (.int .i64 7)]) (by kernel_rfl) trivial ?_ rfl
      (rw [splitP, if_pos hr, if_pos (by unfold isT; simp only [T.ks_mk, T.n_mk]; omega)]; rfl; done)
    · have h1' := of_decide_eq_false h1
      refine AWP.skip (SQ (PI 1 (2 ≤ 2 ∧ True) ⟨(by omega), trivial⟩ ?_))
      refine CD (q3) ?_
      refine RI (True ∧ True ∧ True ∧ True ∧ True ∧ 2 ≤ 2 ∧ 2 ≤ 2 ∧ True) ⟨trivial, trivial, trivial, trivial, trivial, (by omega), (by omega), trivial⟩ ?_
      refine AWP.seq (AWP.seq (KL ([1, 13] ++ NN 16 5) ⟨[U6, U6, .ptr 1 0, .ptr 2 0, (I6 0), .ptr 3 0, .ptr 4 0] ++ UU 26, [⟨[(I6 n), tl ks], 2, .fresh⟩, ⟨[(I6 0), .sl [] 0 .nil], 2, .fresh⟩, ⟨[(I6 0), .sl [] 0 .nil], 2, .fresh⟩, ⟨[(I6 (T.n (halvesI (T.mk n ks)).1)), tl (T.ks (halvesI (T.mk n ks)).1)], 2, .fresh⟩, ⟨[(I6 (T.n (halvesI (T.mk n ks)).2)), tl (T.ks (halvesI (T.mk n ks)).2)], 2, .fresh⟩]⟩ ?_))
      refine AWP.reg (PI 1 (2 ≤ 2 ∧ True) ⟨(by omega), trivial⟩ ?_)
      refine DerQ.callD (depth 100000 (T.n (halvesI (T.mk n ks)).1) (T.ks (halvesI (T.mk n ks)).1) ((30 : Int)) (by first | (rw [T.mk_eta]; omega) | (rw [T.mk_eta]; exact hd.1) | (rw [T.mk_eta]; exact hd.2)) (by omega) (by omega) (by (rw [T.mk_eta]; exact hd.1))) ⟨[U6, U6, .ptr 1 0, .ptr 2 0, (I6 0), .ptr 3 0, .ptr 4 0] ++ UU 14 ++ [.agg [(I6 (T.n (halvesI (T.mk n ks)).1)), tl (T.ks (halvesI (T.mk n ks)).1)], (I6 (if (↑(depthT (T.mk (T.n (halvesI (T.mk n ks)).1) (T.ks (halvesI (T.mk n ks)).1))) : Int) ≤ 30 then (↑(depthT (T.mk (T.n (halvesI (T.mk n ks)).1) (T.ks (halvesI (T.mk n ks)).1))) : Int) else 30))] ++ UU 10, [⟨[(I6 n), tl ks], 2, .fresh⟩, ⟨[(I6 0), .sl [] 0 .nil], 2, .fresh⟩, ⟨[(I6 0), .sl [] 0 .nil], 2, .fresh⟩, ⟨[(I6 (T.n (halvesI (T.mk n ks)).1)), tl (T.ks (halvesI (T.mk n ks)).1)], 2, .fresh⟩, ⟨[(I6 (T.n (halvesI (T.mk n ks)).2)), tl (T.ks (halvesI (T.mk n ks)).2)], 2, .fresh⟩]⟩ ⟨by kernel_rfl, by kernel_rfl, by kernel_rfl⟩ ?_
      rw [Go.Tr.T.mk_eta ((halvesI (T.mk n ks)).fst)]
      refine PT 2 2 ?_
      refine DerQ.to ⟨[U6, U6, .ptr 1 0, .ptr 2 0, (I6 0), .ptr 3 0, .ptr 4 0] ++ UU 14 ++ [.agg [(I6 (T.n (halvesI (T.mk n ks)).1)), tl (T.ks (halvesI (T.mk n ks)).1)], (I6 (if (↑(depthT (halvesI (T.mk n ks)).1) : Int) ≤ 30 then (↑(depthT (halvesI (T.mk n ks)).1) : Int) else 30)), (B6 (decide ((if (↑(depthT (halvesI (T.mk n ks)).1) : Int) ≤ 30 then (↑(depthT (halvesI (T.mk n ks)).1) : Int) else 30) > 16))), (B6 (decide ((if (↑(depthT (halvesI (T.mk n ks)).1) : Int) ≤ 30 then (↑(depthT (halvesI (T.mk n ks)).1) : Int) else 30) > 16)))] ++ UU 8, [⟨[(I6 n), tl ks], 2, .fresh⟩, ⟨[(I6 0), .sl [] 0 .nil], 2, .fresh⟩, ⟨[(I6 0), .sl [] 0 .nil], 2, .fresh⟩, ⟨[(I6 (T.n (halvesI (T.mk n ks)).1)), tl (T.ks (halvesI (T.mk n ks)).1)], 2, .fresh⟩, ⟨[(I6 (T.n (halvesI (T.mk n ks)).2)), tl (T.ks (halvesI (T.mk n ks)).2)], 2, .fresh⟩]⟩ (by kernel_rfl) ?_
      cases h2 : (decide ((if (↑(depthT (halvesI (T.mk n ks)).1) : Int) ≤ 30 then (↑(depthT (halvesI (T.mk n ks)).1) : Int) else 30) > 16))
      · have h2' := of_decide_eq_false h2
        refine PI 1 (2 ≤ 2 ∧ True) ⟨(by omega), trivial⟩ ?_
        refine DerQ.callD (depth 100000 (T.n (halvesI (T.mk n ks)).2) (T.ks (halvesI (T.mk n ks)).2) ((30 : Int)) (by first | (rw [T.mk_eta]; omega) | (rw [T.mk_eta]; exact hd.1) | (rw [T.mk_eta]; exact hd.2)) (by omega) (by omega) (by (rw [T.mk_eta]; exact hd.2))) ⟨[U6, U6, .ptr 1 0, .ptr 2 0, (I6 0), .ptr 3 0, .ptr 4 0] ++ UU 14 ++ [.agg [(I6 (T.n (halvesI (T.mk n ks)).1)), tl (T.ks (halvesI (T.mk n ks)).1)], (I6 (if (↑(depthT (halvesI (T.mk n ks)).1) : Int) ≤ 30 then (↑(depthT (halvesI (T.mk n ks)).1) : Int) else 30)), (B6 false), (B6 false), .agg [(I6 (T.n (halvesI (T.mk n ks)).2)), tl (T.ks (halvesI (T.mk n ks)).2)], (I6 (if (↑(depthT (T.mk (T.n (halvesI (T.mk n ks)).2) (T.ks (halvesI (T.mk n ks)).2))) : Int) ≤ 30 then (↑(depthT (T.mk (T.n (halvesI (T.mk n ks)).2) (T.ks (halvesI (T.mk n ks)).2))) : Int) else 30))] ++ UU 6, [⟨[(I6 n), tl ks], 2, .fresh⟩, ⟨[(I6 0), .sl [] 0 .nil], 2, .fresh⟩, ⟨[(I6 0), .sl [] 0 .nil], 2, .fresh⟩, ⟨[(I6 (T.n (halvesI (T.mk n ks)).1)), tl (T.ks (halvesI (T.mk n ks)).1)], 2, .fresh⟩, ⟨[(I6 (T.n (halvesI (T.mk n ks)).2)), tl (T.ks (halvesI (T.mk n ks)).2)], 2, .fresh⟩]⟩ ⟨by kernel_rfl, by kernel_rfl, by kernel_rfl⟩ ?_
        rw [Go.Tr.T.mk_eta ((halvesI (T.mk n ks)).snd)]
        refine RT 2 ?_
        refine KL (NN 21 7) ⟨[U6, U6, .ptr 1 0, .ptr 2 0, (I6 0), .ptr 3 0, .ptr 4 0] ++ UU 21 ++ [(B6 (decide ((if (↑(depthT (halvesI (T.mk n ks)).2) : Int) ≤ 30 then (↑(depthT (halvesI (T.mk n ks)).2) : Int) else 30) > 16))), U6, U6, U6, .undef], [⟨[(I6 n), tl ks], 2, .fresh⟩, ⟨[(I6 0), .sl [] 0 .nil], 2, .fresh⟩, ⟨[(I6 0), .sl [] 0 .nil], 2, .fresh⟩, ⟨[(I6 (T.n (halvesI (T.mk n ks)).1)), tl (T.ks (halvesI (T.mk n ks)).1)], 2, .fresh⟩, ⟨[(I6 (T.n (halvesI (T.mk n ks)).2)), tl (T.ks (halvesI (T.mk n ks)).2)], 2, .fresh⟩]⟩ ?_
        refine CN (decide ((if (↑(depthT (halvesI (T.mk n ks)).2) : Int) ≤ 30 then (↑(depthT (halvesI (T.mk n ks)).2) : Int) else 30) > 16)) (fun h3 => ?_) (fun h3 => ?_)
        · have h3' := of_decide_eq_true h3
          refine SQ (RI (True ∧ True ∧ 2 ≤ 2 ∧ 2 ≤ 2 ∧ True ∧ True) ⟨trivial, trivial, (by omega), (by omega), trivial, trivial⟩ ?_)
          refine AWP.ret ?_
          refine FI (.tup [.agg [.sc (.int .i64 0), .sl [] 0 .nil], .agg [.sc (.int .i64 0), .sl [] 0 .nil], .sc (.int .i64 40)]) ?_
          refine Shrink.dataK [] (True) (.tup [.agg [.sc (.int .i64 0), .sl [] 0 .nil], .agg [.sc (.int .i64 0), .sl [] 0 .nil], .sc (.int .i64 40)]) (by kernel_rfl) trivial ?_ rfl
          (rw [splitP, if_pos hr, if_neg (by unfold isT; simp only [T.ks_mk, T.n_mk]; omega), if_neg (by obtain ⟨e1, e2⟩ := halves_rough (.mk n ks) hr; rw [e1, e2]; (repeat' split at *) <;> omega)]; rfl; done)
        · have h3' := of_decide_eq_false h3
          refine AWP.skip (AWP.seq ?_)
          refine AWP.drawB mixed (fun o => if [].contains (o.dst.getD 0) then 1 else if [].contains (o.dst.getD 0) then 2 else if [0, 0].contains (o.dst.getD 0) then 3 else 0) 0 5 (fun x => [⟨[(I6 n), tl ks], 2, .fresh⟩, ⟨x 1, 2, .fresh⟩, ⟨x 2, 2, .fresh⟩, ⟨[(I6 (T.n (halvesI (T.mk n ks)).1)), tl (T.ks (halvesI (T.mk n ks)).1)], 2, .fresh⟩, ⟨[(I6 (T.n (halvesI (T.mk n ks)).2)), tl (T.ks (halvesI (T.mk n ks)).2)], 2, .fresh⟩]) ⟨[U6, U6, .ptr 1 0, .ptr 2 0, (I6 0), .ptr 3 0, .ptr 4 0] ++ UU 21 ++ [(B6 (decide ((if (↑(depthT (halvesI (T.mk n ks)).2) : Int) ≤ 30 then (↑(depthT (halvesI (T.mk n ks)).2) : Int) else 30) > 16))), U6, U6, U6, .undef], [⟨[(I6 n), tl ks], 2, .fresh⟩, ⟨[(I6 0), .sl [] 0 .nil], 2, .fresh⟩, ⟨[(I6 0), .sl [] 0 .nil], 2, .fresh⟩, ⟨[(I6 (T.n (halvesI (T.mk n ks)).1)), tl (T.ks (halvesI (T.mk n ks)).1)], 2, .fresh⟩, ⟨[(I6 (T.n (halvesI (T.mk n ks)).2)), tl (T.ks (halvesI (T.mk n ks)).2)], 2, .fresh⟩]⟩ (by kernel_rfl) ⟨by kernel_rfl, by kernel_rfl⟩ (by kernel_rfl) ?_
          refine DerZ.preI 2 (((2 : Nat) ≤ (2 : Nat)) ∧ (((2 : Nat) ≤ (2 : Nat)) ∧ (True))) (by intro x ext; kernel_rfl) ⟨(by omega), ⟨(by omega), trivial⟩⟩ ?_
          refine DerZ.effI 5 ((2 : Nat) ≤ (2 : Nat)) (by kernel_rfl) ⟨⟨by kernel_rfl, by kernel_rfl⟩, by kernel_rfl⟩ (by omega) ?_
          refine DerZ.effI 5 ((2 : Nat) ≤ (2 : Nat)) (by kernel_rfl) ⟨⟨by kernel_rfl, by kernel_rfl⟩, by kernel_rfl⟩ (by omega) ?_
          refine DerZ.quietI (True) (by intro x ext; kernel_rfl) (by kernel_rfl) trivial ?_
          refine DerZ.nil ?_
          refine AWP.ret ?_
          refine FI (.tup [.agg [.sc (.int .i64 (T.n (halvesI (T.mk n ks)).1)), .sl (tcs (T.ks (halvesI (T.mk n ks)).1)) (List.length (T.ks (halvesI (T.mk n ks)).1)) .any], .agg [.sc (.int .i64 (T.n (halvesI (T.mk n ks)).2)), .sl (tcs (T.ks (halvesI (T.mk n ks)).2)) (List.length (T.ks (halvesI (T.mk n ks)).2)) .any], .sc (.int .i64 0)]) ?_
          refine Shrink.dataK [] (True) (.tup [.agg [.sc (.int .i64 (T.n (halvesI (T.mk n ks)).1)), .sl (tcs (T.ks (halvesI (T.mk n ks)).1)) (List.length (T.ks (halvesI (T.mk n ks)).1)) .any], .agg [.sc (.int .i64 (T.n (halvesI (T.mk n ks)).2)), .sl (tcs (T.ks (halvesI (T.mk n ks)).2)) (List.length (T.ks (halvesI (T.mk n ks)).2)) .any], .sc (.int .i64 0)]) (by kernel_rfl) trivial ?_ rfl
          (rw [splitP, if_pos hr, if_neg (by unfold isT; simp only [T.ks_mk, T.n_mk]; omega), if_pos (by obtain ⟨e1, e2⟩ := halves_rough (.mk n ks) hr; rw [e1, e2]; (repeat' split at *) <;> omega)]; rfl; done)
      · have h2' := of_decide_eq_true h2
        refine RT 1 ?_
        refine KL (NN 21 7) ⟨[U6, U6, .ptr 1 0, .ptr 2 0, (I6 0), .ptr 3 0, .ptr 4 0] ++ UU 21 ++ [(B6 true), U6, U6, U6, .undef], [⟨[(I6 n), tl ks], 2, .fresh⟩, ⟨[(I6 0), .sl [] 0 .nil], 2, .fresh⟩, ⟨[(I6 0), .sl [] 0 .nil], 2, .fresh⟩, ⟨[(I6 (T.n (halvesI (T.mk n ks)).1)), tl (T.ks (halvesI (T.mk n ks)).1)], 2, .fresh⟩, ⟨[(I6 (T.n (halvesI (T.mk n ks)).2)), tl (T.ks (halvesI (T.mk n ks)).2)], 2, .fresh⟩]⟩ ?_
        refine CN true (fun _ => ?_) (fun h => nomatch h)
        refine SQ (RI (True ∧ True ∧ 2 ≤ 2 ∧ 2 ≤ 2 ∧ True ∧ True) ⟨trivial, trivial, (by omega), (by omega), trivial, trivial⟩ ?_)
        refine AWP.ret ?_
        refine FI (.tup [.agg [.sc (.int .i64 0), .sl [] 0 .nil], .agg [.sc (.int .i64 0), .sl [] 0 .nil], .sc (.int .i64 40)]) ?_
        refine Shrink.dataK [] (True) (.tup [.agg [.sc (.int .i64 0), .sl [] 0 .nil], .agg [.sc (.int .i64 0), .sl [] 0 .nil], .sc (.int .i64 40)]) (by kernel_rfl) trivial ?_ rfl
        (rw [splitP, if_pos hr, if_neg (by unfold isT; simp only [T.ks_mk, T.n_mk]; omega), if_neg (by obtain ⟨e1, e2⟩ := halves_rough (.mk n ks) hr; rw [e1, e2]; (repeat' split at *) <;> omega)]; rfl; done)
end Go.Tr
