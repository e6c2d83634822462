/- Walks and laws. -/
import Derived.Test.YtfkilkfaiiijbaaOr1
import Derived.Test.YtfkilkfaiiijbaaLibC
set_option maxRecDepth 100000
set_option maxHeartbeats 0
set_option linter.unusedSimpArgs false
set_option linter.unusedVariables false
namespace Go.Ord
open Go Go.Abs Go.Proofs Go.Ops
theorem ready (v : Vv) (hv : ∀ j, -9223372036854775808 ≤ v j) (t : TxD) (hs : t.s ≤ 9223372036854775807) : EvD Try.prog 51 [.agg (vce v), .agg (txe t)] (.sc (.bool (decide (rdyP v t)))) := by
  refine EvD.body Try.func51 rfl (by simp [vce, txe, dataAll, AVal.data]) (by simp [vce, txe, dataAll, AVal.data]) ?_
  refine AWP.seq ?_
  refine TO ⟨[.agg [(I6 (v 0)), (I6 (v 1)), (I6 (v 2)), (I6 (v 3)), (I6 (v 4)), (I6 (v 5)), (I6 (v 6)), (I6 (v 7)), (I6 (v 8)), (I6 (v 9)), (I6 (v 10)), (I6 (v 11)), (I6 (v 12))], .agg [(I6 (t.p)), (I6 (t.s)), (I6 (t.v 0)), (I6 (t.v 1)), (I6 (t.v 2)), (I6 (t.v 3)), (I6 (t.v 4)), (I6 (t.v 5)), (I6 (t.v 6)), (I6 (t.v 7)), (I6 (t.v 8)), (I6 (t.v 9)), (I6 (t.v 10)), (I6 (t.v 11)), (I6 (t.v 12)), (I6 (t.time)), .sl (opsc t.ops) (t.ops.length) .any]] ++ UU 17, []⟩ ?_
  refine AWP.reg (RT 3 ?_)
  refine AWP.seq (KL [0, 1] ⟨[U6, U6, .ptr 0 0, .ptr 1 0, (B6 false)] ++ UU 14, [⟨[(I6 (v 0)), (I6 (v 1)), (I6 (v 2)), (I6 (v 3)), (I6 (v 4)), (I6 (v 5)), (I6 (v 6)), (I6 (v 7)), (I6 (v 8)), (I6 (v 9)), (I6 (v 10)), (I6 (v 11)), (I6 (v 12))], 1, .fresh⟩, ⟨[(I6 (t.p)), (I6 (t.s)), (I6 (t.v 0)), (I6 (t.v 1)), (I6 (t.v 2)), (I6 (t.v 3)), (I6 (t.v 4)), (I6 (t.v 5)), (I6 (t.v 6)), (I6 (t.v 7)), (I6 (t.v 8)), (I6 (t.v 9)), (I6 (t.v 10)), (I6 (t.v 11)), (I6 (t.v 12)), (I6 (t.time)), .sl (opsc t.ops) (t.ops.length) .any], 17, .fresh⟩]⟩ ?_)
  refine AWP.reg (PI 3 (13 ≤ 13 ∧ True ∧ 2 ≤ 17 ∧ True) ⟨(by omega), trivial, (by omega), trivial⟩ ?_)
  refine CD (v_next v hv t.p t.s hs) ?_
  refine PT 1 1 ?_
  refine DerQ.to ⟨[U6, U6, .ptr 0 0, .ptr 1 0, (B6 false), .agg [(I6 (v 0)), (I6 (v 1)), (I6 (v 2)), (I6 (v 3)), (I6 (v 4)), (I6 (v 5)), (I6 (v 6)), (I6 (v 7)), (I6 (v 8)), (I6 (v 9)), (I6 (v 10)), (I6 (v 11)), (I6 (v 12))], .ptr 1 0, .agg [(I6 (t.p)), (I6 (t.s))], (B6 (decide (nextP v t.p t.s))), (B6 (decide (nextP v t.p t.s)))] ++ UU 9, [⟨[(I6 (v 0)), (I6 (v 1)), (I6 (v 2)), (I6 (v 3)), (I6 (v 4)), (I6 (v 5)), (I6 (v 6)), (I6 (v 7)), (I6 (v 8)), (I6 (v 9)), (I6 (v 10)), (I6 (v 11)), (I6 (v 12))], 1, .fresh⟩, ⟨[(I6 (t.p)), (I6 (t.s)), (I6 (t.v 0)), (I6 (t.v 1)), (I6 (t.v 2)), (I6 (t.v 3)), (I6 (t.v 4)), (I6 (t.v 5)), (I6 (t.v 6)), (I6 (t.v 7)), (I6 (t.v 8)), (I6 (t.v 9)), (I6 (t.v 10)), (I6 (t.v 11)), (I6 (t.v 12)), (I6 (t.time)), .sl (opsc t.ops) (t.ops.length) .any], 17, .fresh⟩]⟩ (by kernel_rfl) ?_
  cases h1 : (decide (nextP v t.p t.s))
  · have h1' := of_decide_eq_false h1
    refine RT 4 ?_
    refine AWP.ret ?_
    refine FI (B6 false) ?_
    refine Shrink.all ?_ rfl
    (exact dec_no (fun h => absurd h.1 (by assumption)); done)
  · have h1' := of_decide_eq_true h1
    refine PI 3 (True ∧ 15 ≤ 17 ∧ 13 ≤ 13 ∧ True) ⟨trivial, (by omega), (by omega), trivial⟩ ?_
    refine CD (v_leq t.v v) ?_
    refine PT 2 2 ?_
    refine DerQ.to ⟨[U6, U6, .ptr 0 0, .ptr 1 0, (B6 false), .agg [(I6 (v 0)), (I6 (v 1)), (I6 (v 2)), (I6 (v 3)), (I6 (v 4)), (I6 (v 5)), (I6 (v 6)), (I6 (v 7)), (I6 (v 8)), (I6 (v 9)), (I6 (v 10)), (I6 (v 11)), (I6 (v 12))], .ptr 1 0, .agg [(I6 (t.p)), (I6 (t.s))], (B6 true), (B6 true), .ptr 1 2, .agg [(I6 (t.v 0)), (I6 (t.v 1)), (I6 (t.v 2)), (I6 (t.v 3)), (I6 (t.v 4)), (I6 (t.v 5)), (I6 (t.v 6)), (I6 (t.v 7)), (I6 (t.v 8)), (I6 (t.v 9)), (I6 (t.v 10)), (I6 (t.v 11)), (I6 (t.v 12))], .agg [(I6 (v 0)), (I6 (v 1)), (I6 (v 2)), (I6 (v 3)), (I6 (v 4)), (I6 (v 5)), (I6 (v 6)), (I6 (v 7)), (I6 (v 8)), (I6 (v 9)), (I6 (v 10)), (I6 (v 11)), (I6 (v 12))], (B6 (decide (leqP t.v v))), (B6 (decide (leqP t.v v))), (B6 (decide (leqP t.v v))), U6, U6, .undef], [⟨[(I6 (v 0)), (I6 (v 1)), (I6 (v 2)), (I6 (v 3)), (I6 (v 4)), (I6 (v 5)), (I6 (v 6)), (I6 (v 7)), (I6 (v 8)), (I6 (v 9)), (I6 (v 10)), (I6 (v 11)), (I6 (v 12))], 1, .fresh⟩, ⟨[(I6 (t.p)), (I6 (t.s)), (I6 (t.v 0)), (I6 (t.v 1)), (I6 (t.v 2)), (I6 (t.v 3)), (I6 (t.v 4)), (I6 (t.v 5)), (I6 (t.v 6)), (I6 (t.v 7)), (I6 (t.v 8)), (I6 (t.v 9)), (I6 (t.v 10)), (I6 (t.v 11)), (I6 (t.v 12)), (I6 (t.time)), .sl (opsc t.ops) (t.ops.length) .any], 17, .fresh⟩]⟩ (by kernel_rfl) ?_
    cases h2 : (decide (leqP t.v v))
    · have h2' := of_decide_eq_false h2
      refine RT 2 ?_
      refine AWP.ret ?_
      refine FI (B6 false) ?_
      refine Shrink.all ?_ rfl
      (exact dec_no (fun h => absurd h.2.1 (by assumption)); done)
    · have h2' := of_decide_eq_true h2
      refine PI 1 (17 ≤ 17 ∧ True) ⟨(by omega), trivial⟩ ?_
      refine CD (o_ctx1 t) ?_
      refine RT 2 ?_
      refine AWP.ret ?_
      refine FI (B6 (decide (ctxP t))) ?_
      refine Shrink.all ?_ rfl
      ((first | refine congrArg B6 ?_ | refine congrArg I6 ?_ | congr 2); exact decide_eq_decide.2 ⟨fun h => ⟨by assumption, by assumption, h⟩, fun h => h.2.2⟩; done)
end Go.Ord
