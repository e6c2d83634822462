/- Walks and laws. -/
import Derived.Test.YtfkilkfaiiijbaaOps7
import Derived.Test.YtfkilkfaiiijbaaLibC
set_option maxRecDepth 100000
set_option maxHeartbeats 0
set_option linter.unusedSimpArgs false
set_option linter.unusedVariables false
namespace Go.Ops
open Go Go.Abs Go.Proofs
def ctxP (t : TxD) : Prop := ((1 ≤ t.p ∧ t.p ≤ 12) ∧ 1 ≤ t.s ∧ t.s ≤ 1048576) ∧ 1 ≤ t.ops.length ∧ restP t ∧ t.v t.p.toNat < t.s
instance (t : TxD) : Decidable (ctxP t) := by unfold ctxP; infer_instance
theorem o_ctx (g : Gate) (t : TxD) : EvD Try.prog 24 [.agg (txc g t)] (.sc (.bool (decide (ctxP t)))) := by
  refine EvD.body Try.func24 rfl (by simp [dataAll, AVal.data]) rfl ?_
  refine AWP.seq ?_
  refine TO ⟨[.agg (txc g t)] ++ UU 27, []⟩ ?_
  refine AWP.reg (RT 2 ?_)
  refine AWP.seq (KL [0] ⟨[U6, .ptr 0 0, (B6 false)] ++ UU 25, [⟨txc g t, 17, .fresh⟩]⟩ ?_)
  refine AWP.drawX mixed (fun o => [5, 14].contains (o.dst.getD 0)) (by kernel_rfl) ?_
  refine DerX.pre 2 ((True) ∧ ((2 ≤ (txc g t).length) ∧ (True))) [.ptr 0 0, .agg (List.take 2 (List.drop 0 (txc g t)))] ⟨[U6, .ptr 0 0, (B6 false), .ptr 0 0, .agg (List.take 2 (List.drop 0 (txc g t)))] ++ UU 23, [⟨txc g t, 17, .fresh⟩]⟩ (by intro ext; kernel_rfl) (by kernel_rfl) ⟨trivial, ⟨(by simp), trivial⟩⟩ ?_
  rw [List.drop_zero]
  rw [Go.Ops.tx_dot (g) (t)]
  refine DerX.callDI (o_dotted t.p t.s) ⟨by kernel_rfl, by kernel_rfl⟩ ?_
  refine DerX.quietI (True) (by intro ext; kernel_rfl) (by kernel_rfl) trivial ?_
  refine AWP.toX ⟨[U6, .ptr 0 0, (B6 false), .ptr 0 0, .agg [(I6 (t.p)), (I6 (t.s))], (B6 (decide ((1 ≤ t.p ∧ t.p ≤ 12) ∧ 1 ≤ t.s ∧ t.s ≤ 1048576))), (B6 (decide ((1 ≤ t.p ∧ t.p ≤ 12) ∧ 1 ≤ t.s ∧ t.s ≤ 1048576)))] ++ UU 21, [⟨txc g t, 17, .fresh⟩]⟩ (by kernel_rfl) ?_
  cases h1 : (decide ((1 ≤ t.p ∧ t.p ≤ 12) ∧ 1 ≤ t.s ∧ t.s ≤ 1048576))
  · have h1' := of_decide_eq_false h1
    refine DerX.preI 22 ((True) ∧ ((True) ∧ ((True) ∧ ((True) ∧ ((True) ∧ ((True) ∧ (True))))))) (by intro ext; kernel_rfl) ⟨trivial, ⟨trivial, ⟨trivial, ⟨trivial, ⟨trivial, ⟨trivial, trivial⟩⟩⟩⟩⟩⟩ ?_
    refine DerX.nil ?_
    refine AWP.ret ?_
    refine FI (B6 false) ?_
    refine Shrink.all ?_ rfl
    ((first | refine congrArg B6 ?_ | refine congrArg I6 ?_ | congr 2); rw [Bool.eq_iff_iff]; simp [ctxP, *] <;> omega; done)
  · have h1' := of_decide_eq_true h1
    refine DerX.pre 2 ((True) ∧ ((16 < (txc g t).length) ∧ (True))) [.ptr 0 16, (txc g t).getD 16 AVal.undef] ⟨[U6, .ptr 0 0, (B6 false), .ptr 0 0, .agg [(I6 (t.p)), (I6 (t.s))], (B6 true), (B6 true), .ptr 0 16, (txc g t).getD 16 AVal.undef] ++ UU 19, [⟨txc g t, 17, .fresh⟩]⟩ (by intro ext; kernel_rfl) (by kernel_rfl) ⟨trivial, ⟨(by simp), trivial⟩⟩ ?_
    rw [Go.Ops.tx_16 (g) (t)]
    refine DerX.preI 4 ((True) ∧ ((True) ∧ ((True) ∧ ((True) ∧ (True))))) (by intro ext; kernel_rfl) ⟨trivial, ⟨trivial, ⟨trivial, ⟨trivial, trivial⟩⟩⟩⟩ ?_
    refine AWP.toX ⟨[U6, .ptr 0 0, (B6 false), .ptr 0 0, .agg [(I6 (t.p)), (I6 (t.s))], (B6 true), (B6 true), .ptr 0 16, .sl (opsc t.ops) (t.ops.length) .any, (I6 (↑(t.ops.length) : Int)), (B6 (decide ((↑(t.ops.length) : Int) > 0))), (B6 (decide ((↑(t.ops.length) : Int) > 0))), (B6 (decide ((↑(t.ops.length) : Int) > 0)))] ++ UU 15, [⟨txc g t, 17, .fresh⟩]⟩ (by kernel_rfl) ?_
    cases h2 : (decide ((↑(t.ops.length) : Int) > 0))
    · have h2' := of_decide_eq_false h2
      refine DerX.preI 16 ((True) ∧ ((True) ∧ ((True) ∧ ((True) ∧ (True))))) (by intro ext; kernel_rfl) ⟨trivial, ⟨trivial, ⟨trivial, ⟨trivial, trivial⟩⟩⟩⟩ ?_
      refine DerX.nil ?_
      refine AWP.ret ?_
      refine FI (B6 false) ?_
      refine Shrink.all ?_ rfl
      ((first | refine congrArg B6 ?_ | refine congrArg I6 ?_ | congr 2); rw [Bool.eq_iff_iff]; simp [ctxP, *] <;> omega; done)
    · have h2' := of_decide_eq_true h2
      refine DerX.quiet (17 ≤ (txc g t).length) (.agg (List.take 17 (List.drop 0 (txc g t)))) ⟨[U6, .ptr 0 0, (B6 false), .ptr 0 0, .agg [(I6 (t.p)), (I6 (t.s))], (B6 true), (B6 true), .ptr 0 16, .sl (opsc t.ops) (t.ops.length) .any, (I6 (↑(t.ops.length) : Int)), (B6 true), (B6 true), (B6 true), .agg (List.take 17 (List.drop 0 (txc g t)))] ++ UU 14, [⟨txc g t, 17, .fresh⟩]⟩ (by intro ext; kernel_rfl) ⟨by kernel_rfl, by kernel_rfl⟩ (by simp) ?_
      rw [List.drop_zero]
      rw [Go.Ops.tx_take (g) (t)]
      refine DerX.callDI (o_rest g t) ⟨by kernel_rfl, by kernel_rfl⟩ ?_
      refine DerX.preI 2 ((True) ∧ ((True) ∧ (True))) (by intro ext; kernel_rfl) ⟨trivial, ⟨trivial, trivial⟩⟩ ?_
      refine AWP.toX ⟨[U6, .ptr 0 0, (B6 false), .ptr 0 0, .agg [(I6 (t.p)), (I6 (t.s))], (B6 true), (B6 true), .ptr 0 16, .sl (opsc t.ops) (t.ops.length) .any, (I6 (↑(t.ops.length) : Int)), (B6 true), (B6 true), (B6 true), .agg (txc g t), (B6 (decide (restP t))), (B6 (decide (restP t))), (B6 (decide (restP t)))] ++ UU 11, [⟨txc g t, 17, .fresh⟩]⟩ (by kernel_rfl) ?_
      cases h3 : (decide (restP t))
      · have h3' := of_decide_eq_false h3
        refine DerX.preI 12 ((True) ∧ ((True) ∧ (True))) (by intro ext; kernel_rfl) ⟨trivial, ⟨trivial, trivial⟩⟩ ?_
        refine DerX.nil ?_
        refine AWP.ret ?_
        refine FI (B6 false) ?_
        refine Shrink.all ?_ rfl
        ((first | refine congrArg B6 ?_ | refine congrArg I6 ?_ | congr 2); rw [Bool.eq_iff_iff]; simp [ctxP, *] <;> omega; done)
      · have h3' := of_decide_eq_true h3
        refine DerX.pre 4 ((True) ∧ ((True) ∧ ((0 < (txc g t).length) ∧ ((True) ∧ (True))))) [.ptr 0 0, .ptr 0 0, (txc g t).getD 0 U6, .ptr 0 2] ⟨[U6, .ptr 0 0, (B6 false), .ptr 0 0, .agg [(I6 (t.p)), (I6 (t.s))], (B6 true), (B6 true), .ptr 0 16, .sl (opsc t.ops) (t.ops.length) .any, (I6 (↑(t.ops.length) : Int)), (B6 true), (B6 true), (B6 true), .agg (txc g t), (B6 true), (B6 true), (B6 true), .ptr 0 0, .ptr 0 0, (txc g t).getD 0 U6, .ptr 0 2] ++ UU 7, [⟨txc g t, 17, .fresh⟩]⟩ (by intro ext; kernel_rfl) (by kernel_rfl) ⟨trivial, ⟨trivial, ⟨(by simp), ⟨trivial, trivial⟩⟩⟩⟩ ?_
        rw [Go.Ops.tx_0 (g) (t)]
        refine DerX.pre 5 (((0 ≤ t.p) ∧ (t.p < 13)) ∧ ((2 + Int.toNat t.p * 1 < (txc g t).length) ∧ ((True) ∧ ((True) ∧ ((1 < (txc g t).length) ∧ (True)))))) [.ptr 0 (2 + Int.toNat t.p * 1), (txc g t).getD (2 + Int.toNat t.p * 1) U6, .ptr 0 0, .ptr 0 1, (txc g t).getD 1 AVal.undef] ⟨[U6, .ptr 0 0, (B6 false), .ptr 0 0, .agg [(I6 (t.p)), (I6 (t.s))], (B6 true), (B6 true), .ptr 0 16, .sl (opsc t.ops) (t.ops.length) .any, (I6 (↑(t.ops.length) : Int)), (B6 true), (B6 true), (B6 true), .agg (txc g t), (B6 true), (B6 true), (B6 true), .ptr 0 0, .ptr 0 0, (I6 (t.p)), .ptr 0 2, .ptr 0 (2 + Int.toNat t.p * 1), (txc g t).getD (2 + Int.toNat t.p * 1) U6, .ptr 0 0, .ptr 0 1, (txc g t).getD 1 U6, U6, .undef], [⟨txc g t, 17, .fresh⟩]⟩ (by intro ext; kernel_rfl) (by kernel_rfl) ⟨⟨(by omega), (by omega)⟩, ⟨(by (simp [spliceA_length] <;> omega)), ⟨trivial, ⟨trivial, ⟨(by simp), trivial⟩⟩⟩⟩⟩ ?_
        rw [Nat.mul_one (Int.toNat t.p)]
        rw [Go.Ops.tx_1 (g) (t)]
        rw [Go.Ops.tx_v (g) (t) (Int.toNat t.p) (by omega)]
        refine DerX.pre 3 (TT 3) [(B6 (decide (t.v (Int.toNat t.p) < t.s))), (B6 (decide (t.v (Int.toNat t.p) < t.s))), (B6 (decide (t.v (Int.toNat t.p) < t.s)))] ⟨[U6, .ptr 0 0, (B6 (decide (t.v (Int.toNat t.p) < t.s))), .ptr 0 0, .agg [(I6 (t.p)), (I6 (t.s))], (B6 true), (B6 true), .ptr 0 16, .sl (opsc t.ops) (t.ops.length) .any, (I6 (↑(t.ops.length) : Int)), (B6 true), (B6 true), (B6 true), .agg (txc g t), (B6 true), (B6 true), (B6 true), .ptr 0 0, .ptr 0 0, (I6 (t.p)), .ptr 0 2, .ptr 0 (2 + Int.toNat t.p), (I6 (t.v (Int.toNat t.p))), .ptr 0 0, .ptr 0 1, (I6 (t.s)), (B6 (decide (t.v (Int.toNat t.p) < t.s))), (B6 (decide (t.v (Int.toNat t.p) < t.s)))], [⟨txc g t, 17, .fresh⟩]⟩ (by intro ext; kernel_rfl) (by kernel_rfl) (tt 3) ?_
        refine DerX.nil ?_
        refine KL ([1] ++ NN 3 25) ⟨[U6, U6, (B6 (decide (t.v (Int.toNat t.p) < t.s)))] ++ UU 25, [⟨txc g t, 17, .fresh⟩]⟩ ?_
        refine AWP.ret ?_
        refine FI (B6 (decide (t.v (Int.toNat t.p) < t.s))) ?_
        refine Shrink.all ?_ rfl
        ((first | refine congrArg B6 ?_ | refine congrArg I6 ?_ | congr 2); rw [Bool.eq_iff_iff]; simp [ctxP, *] <;> omega; done)
theorem r_ctx (g : Gate) (t : TxD) : EvD Try.prog 17 [.agg (txc g t)] (.sc (.bool (decide (ctxP t)))) := by
  refine EvD.body Try.func17 rfl (by simp [dataAll, AVal.data]) rfl ?_
  refine AWP.seq ?_
  refine TO ⟨[.agg (txc g t)] ++ UU 38, []⟩ ?_
  refine AWP.reg (RT 2 ?_)
  refine AWP.seq (KL [0] ⟨[U6, .ptr 0 0, (B6 false)] ++ UU 36, [⟨txc g t, 17, .fresh⟩]⟩ ?_)
  refine AWP.reg ?_
  refine DerQ.pre 3 (True ∧ (2 ≤ (txc g t).length) ∧ True ∧ True) ⟨[U6, .ptr 0 0, (B6 false), .ptr 1 0, .ptr 0 0, .agg (List.take 2 (List.drop 0 (txc g t)))] ++ UU 33, [⟨txc g t, 17, .fresh⟩, ⟨[(I6 0), (I6 0)], 2, .fresh⟩]⟩ (by kernel_rfl) ⟨trivial, (by simp), trivial, trivial⟩ ?_
  rw [List.drop_zero]
  rw [Go.Ops.tx_dot (g) (t)]
  refine RI (2 ≤ 2 ∧ True) ⟨(by omega), trivial⟩ ?_
  refine AWP.seq (KL [4, 5] ⟨[U6, .ptr 0 0, (B6 false), .ptr 1 0] ++ UU 35, [⟨txc g t, 17, .fresh⟩, ⟨[(I6 (t.p)), (I6 (t.s))], 2, .fresh⟩]⟩ ?_)
  refine AWP.drawX mixed (fun o => [8, 27].contains (o.dst.getD 0)) (by kernel_rfl) ?_
  refine DerX.preI 2 ((True) ∧ (((0 : Nat) < (2 : Nat)) ∧ (True))) (by intro ext; kernel_rfl) ⟨trivial, ⟨(by omega), trivial⟩⟩ ?_
  refine DerX.callDI (r_peer t.p) ⟨by kernel_rfl, by kernel_rfl⟩ ?_
  refine DerX.quietI (True) (by intro ext; kernel_rfl) (by kernel_rfl) trivial ?_
  refine AWP.toX ⟨[U6, .ptr 0 0, (B6 false), .ptr 1 0, U6, U6, .ptr 1 0, (I6 (t.p)), (B6 (decide (1 ≤ t.p ∧ t.p ≤ 12))), (B6 (decide (1 ≤ t.p ∧ t.p ≤ 12)))] ++ UU 29, [⟨txc g t, 17, .fresh⟩, ⟨[(I6 (t.p)), (I6 (t.s))], 2, .fresh⟩]⟩ (by kernel_rfl) ?_
  cases h1 : (decide (1 ≤ t.p ∧ t.p ≤ 12))
  · have h1' := of_decide_eq_false h1
    refine DerX.preI 30 ((True) ∧ ((True) ∧ ((True) ∧ ((True) ∧ ((True) ∧ ((True) ∧ ((True) ∧ ((True) ∧ ((True) ∧ ((True) ∧ (True))))))))))) (by intro ext; kernel_rfl) ⟨trivial, ⟨trivial, ⟨trivial, ⟨trivial, ⟨trivial, ⟨trivial, ⟨trivial, ⟨trivial, ⟨trivial, ⟨trivial, trivial⟩⟩⟩⟩⟩⟩⟩⟩⟩⟩ ?_
    refine DerX.nil ?_
    refine AWP.ret ?_
    refine FI (B6 false) ?_
    refine Shrink.all ?_ rfl
    ((first | refine congrArg B6 ?_ | refine congrArg I6 ?_ | congr 2); rw [Bool.eq_iff_iff]; simp [ctxP, *] <;> omega; done)
  · have h1' := of_decide_eq_true h1
    refine DerX.preI 5 ((True) ∧ (((1 : Nat) < (2 : Nat)) ∧ ((True) ∧ ((True) ∧ ((True) ∧ (True)))))) (by intro ext; kernel_rfl) ⟨trivial, ⟨(by omega), ⟨trivial, ⟨trivial, ⟨trivial, trivial⟩⟩⟩⟩⟩ ?_
    refine AWP.toX ⟨[U6, .ptr 0 0, (B6 false), .ptr 1 0, U6, U6, .ptr 1 0, (I6 (t.p)), (B6 true), (B6 true), .ptr 1 1, (I6 (t.s)), (B6 (decide (t.s ≥ 1))), (B6 (decide (t.s ≥ 1))), (B6 (decide (t.s ≥ 1)))] ++ UU 24, [⟨txc g t, 17, .fresh⟩, ⟨[(I6 (t.p)), (I6 (t.s))], 2, .fresh⟩]⟩ (by kernel_rfl) ?_
    cases h2 : (decide (t.s ≥ 1))
    · have h2' := of_decide_eq_false h2
      refine DerX.preI 25 ((True) ∧ ((True) ∧ ((True) ∧ ((True) ∧ ((True) ∧ ((True) ∧ ((True) ∧ ((True) ∧ (True))))))))) (by intro ext; kernel_rfl) ⟨trivial, ⟨trivial, ⟨trivial, ⟨trivial, ⟨trivial, ⟨trivial, ⟨trivial, ⟨trivial, trivial⟩⟩⟩⟩⟩⟩⟩⟩ ?_
      refine DerX.nil ?_
      refine AWP.ret ?_
      refine FI (B6 false) ?_
      refine Shrink.all ?_ rfl
      ((first | refine congrArg B6 ?_ | refine congrArg I6 ?_ | congr 2); rw [Bool.eq_iff_iff]; simp [ctxP, *] <;> omega; done)
    · have h2' := of_decide_eq_true h2
      refine DerX.preI 5 ((True) ∧ (((1 : Nat) < (2 : Nat)) ∧ ((True) ∧ ((True) ∧ ((True) ∧ (True)))))) (by intro ext; kernel_rfl) ⟨trivial, ⟨(by omega), ⟨trivial, ⟨trivial, ⟨trivial, trivial⟩⟩⟩⟩⟩ ?_
      refine AWP.toX ⟨[U6, .ptr 0 0, (B6 false), .ptr 1 0, U6, U6, .ptr 1 0, (I6 (t.p)), (B6 true), (B6 true), .ptr 1 1, (I6 (t.s)), (B6 true), (B6 true), (B6 true), .ptr 1 1, (I6 (t.s)), (B6 (decide (t.s ≤ 1048576))), (B6 (decide (t.s ≤ 1048576))), (B6 (decide (t.s ≤ 1048576)))] ++ UU 19, [⟨txc g t, 17, .fresh⟩, ⟨[(I6 (t.p)), (I6 (t.s))], 2, .fresh⟩]⟩ (by kernel_rfl) ?_
      cases h3 : (decide (t.s ≤ 1048576))
      · have h3' := of_decide_eq_false h3
        refine DerX.preI 20 ((True) ∧ ((True) ∧ ((True) ∧ ((True) ∧ ((True) ∧ ((True) ∧ (True))))))) (by intro ext; kernel_rfl) ⟨trivial, ⟨trivial, ⟨trivial, ⟨trivial, ⟨trivial, ⟨trivial, trivial⟩⟩⟩⟩⟩⟩ ?_
        refine DerX.nil ?_
        refine AWP.ret ?_
        refine FI (B6 false) ?_
        refine Shrink.all ?_ rfl
        ((first | refine congrArg B6 ?_ | refine congrArg I6 ?_ | congr 2); rw [Bool.eq_iff_iff]; simp [ctxP, *] <;> omega; done)
      · have h3' := of_decide_eq_true h3
        refine DerX.pre 2 ((True) ∧ ((16 < (txc g t).length) ∧ (True))) [.ptr 0 16, (txc g t).getD 16 AVal.undef] ⟨[U6, .ptr 0 0, (B6 false), .ptr 1 0, U6, U6, .ptr 1 0, (I6 (t.p)), (B6 true), (B6 true), .ptr 1 1, (I6 (t.s)), (B6 true), (B6 true), (B6 true), .ptr 1 1, (I6 (t.s)), (B6 true), (B6 true), (B6 true), .ptr 0 16, (txc g t).getD 16 AVal.undef] ++ UU 17, [⟨txc g t, 17, .fresh⟩, ⟨[(I6 (t.p)), (I6 (t.s))], 2, .fresh⟩]⟩ (by intro ext; kernel_rfl) (by kernel_rfl) ⟨trivial, ⟨(by simp), trivial⟩⟩ ?_
        rw [Go.Ops.tx_16 (g) (t)]
        refine DerX.preI 4 ((True) ∧ ((True) ∧ ((True) ∧ ((True) ∧ (True))))) (by intro ext; kernel_rfl) ⟨trivial, ⟨trivial, ⟨trivial, ⟨trivial, trivial⟩⟩⟩⟩ ?_
        refine AWP.toX ⟨[U6, .ptr 0 0, (B6 false), .ptr 1 0, U6, U6, .ptr 1 0, (I6 (t.p)), (B6 true), (B6 true), .ptr 1 1, (I6 (t.s)), (B6 true), (B6 true), (B6 true), .ptr 1 1, (I6 (t.s)), (B6 true), (B6 true), (B6 true), .ptr 0 16, .sl (opsc t.ops) (t.ops.length) .any, (I6 (↑(t.ops.length) : Int)), (B6 (decide ((↑(t.ops.length) : Int) ≥ 1))), (B6 (decide ((↑(t.ops.length) : Int) ≥ 1))), (B6 (decide ((↑(t.ops.length) : Int) ≥ 1)))] ++ UU 13, [⟨txc g t, 17, .fresh⟩, ⟨[(I6 (t.p)), (I6 (t.s))], 2, .fresh⟩]⟩ (by kernel_rfl) ?_
        cases h4 : (decide ((↑(t.ops.length) : Int) ≥ 1))
        · have h4' := of_decide_eq_false h4
          refine DerX.preI 14 ((True) ∧ ((True) ∧ ((True) ∧ ((True) ∧ (True))))) (by intro ext; kernel_rfl) ⟨trivial, ⟨trivial, ⟨trivial, ⟨trivial, trivial⟩⟩⟩⟩ ?_
          refine DerX.nil ?_
          refine AWP.ret ?_
          refine FI (B6 false) ?_
          refine Shrink.all ?_ rfl
          ((first | refine congrArg B6 ?_ | refine congrArg I6 ?_ | congr 2); rw [Bool.eq_iff_iff]; simp [ctxP, *] <;> omega; done)
        · have h4' := of_decide_eq_true h4
          refine DerX.quiet (17 ≤ (txc g t).length) (.agg (List.take 17 (List.drop 0 (txc g t)))) ⟨[U6, .ptr 0 0, (B6 false), .ptr 1 0, U6, U6, .ptr 1 0, (I6 (t.p)), (B6 true), (B6 true), .ptr 1 1, (I6 (t.s)), (B6 true), (B6 true), (B6 true), .ptr 1 1, (I6 (t.s)), (B6 true), (B6 true), (B6 true), .ptr 0 16, .sl (opsc t.ops) (t.ops.length) .any, (I6 (↑(t.ops.length) : Int)), (B6 true), (B6 true), (B6 true), .agg (List.take 17 (List.drop 0 (txc g t)))] ++ UU 12, [⟨txc g t, 17, .fresh⟩, ⟨[(I6 (t.p)), (I6 (t.s))], 2, .fresh⟩]⟩ (by intro ext; kernel_rfl) ⟨by kernel_rfl, by kernel_rfl⟩ (by simp) ?_
          rw [List.drop_zero]
          rw [Go.Ops.tx_take (g) (t)]
          refine DerX.callDI (r_rest g t) ⟨by kernel_rfl, by kernel_rfl⟩ ?_
          refine DerX.preI 2 ((True) ∧ ((True) ∧ (True))) (by intro ext; kernel_rfl) ⟨trivial, ⟨trivial, trivial⟩⟩ ?_
          refine AWP.toX ⟨[U6, .ptr 0 0, (B6 false), .ptr 1 0, U6, U6, .ptr 1 0, (I6 (t.p)), (B6 true), (B6 true), .ptr 1 1, (I6 (t.s)), (B6 true), (B6 true), (B6 true), .ptr 1 1, (I6 (t.s)), (B6 true), (B6 true), (B6 true), .ptr 0 16, .sl (opsc t.ops) (t.ops.length) .any, (I6 (↑(t.ops.length) : Int)), (B6 true), (B6 true), (B6 true), .agg (txc g t), (B6 (decide (restP t))), (B6 (decide (restP t))), (B6 (decide (restP t)))] ++ UU 9, [⟨txc g t, 17, .fresh⟩, ⟨[(I6 (t.p)), (I6 (t.s))], 2, .fresh⟩]⟩ (by kernel_rfl) ?_
          cases h5 : (decide (restP t))
          · have h5' := of_decide_eq_false h5
            refine DerX.preI 10 ((True) ∧ ((True) ∧ (True))) (by intro ext; kernel_rfl) ⟨trivial, ⟨trivial, trivial⟩⟩ ?_
            refine DerX.nil ?_
            refine AWP.ret ?_
            refine FI (B6 false) ?_
            refine Shrink.all ?_ rfl
            ((first | refine congrArg B6 ?_ | refine congrArg I6 ?_ | congr 2); rw [Bool.eq_iff_iff]; simp [ctxP, *] <;> omega; done)
          · have h5' := of_decide_eq_true h5
            refine DerX.pre 7 ((True) ∧ (((0 : Nat) < (2 : Nat)) ∧ ((True) ∧ (((0 ≤ t.p) ∧ (t.p < 13)) ∧ ((2 + Int.toNat t.p * 1 < (txc g t).length) ∧ ((True) ∧ (((1 : Nat) < (2 : Nat)) ∧ (True)))))))) [.ptr 1 0, (I6 (t.p)), .ptr 0 2, .ptr 0 (2 + Int.toNat t.p * 1), (txc g t).getD (2 + Int.toNat t.p * 1) U6, .ptr 1 1, (I6 (t.s))] ⟨[U6, .ptr 0 0, (B6 false), .ptr 1 0, U6, U6, .ptr 1 0, (I6 (t.p)), (B6 true), (B6 true), .ptr 1 1, (I6 (t.s)), (B6 true), (B6 true), (B6 true), .ptr 1 1, (I6 (t.s)), (B6 true), (B6 true), (B6 true), .ptr 0 16, .sl (opsc t.ops) (t.ops.length) .any, (I6 (↑(t.ops.length) : Int)), (B6 true), (B6 true), (B6 true), .agg (txc g t), (B6 true), (B6 true), (B6 true), .ptr 1 0, (I6 (t.p)), .ptr 0 2, .ptr 0 (2 + Int.toNat t.p * 1), (txc g t).getD (2 + Int.toNat t.p * 1) U6, .ptr 1 1, (I6 (t.s)), U6, .undef], [⟨txc g t, 17, .fresh⟩, ⟨[(I6 (t.p)), (I6 (t.s))], 2, .fresh⟩]⟩ (by intro ext; kernel_rfl) (by kernel_rfl) ⟨trivial, ⟨(by omega), ⟨trivial, ⟨⟨(by omega), (by omega)⟩, ⟨(by (simp [spliceA_length] <;> omega)), ⟨trivial, ⟨(by omega), trivial⟩⟩⟩⟩⟩⟩⟩ ?_
            rw [Nat.mul_one (Int.toNat t.p)]
            rw [Go.Ops.tx_v (g) (t) (Int.toNat t.p) (by omega)]
            refine DerX.pre 3 (TT 3) [(B6 (decide (t.v (Int.toNat t.p) < t.s))), (B6 (decide (t.v (Int.toNat t.p) < t.s))), (B6 (decide (t.v (Int.toNat t.p) < t.s)))] ⟨[U6, .ptr 0 0, (B6 (decide (t.v (Int.toNat t.p) < t.s))), .ptr 1 0, U6, U6, .ptr 1 0, (I6 (t.p)), (B6 true), (B6 true), .ptr 1 1, (I6 (t.s)), (B6 true), (B6 true), (B6 true), .ptr 1 1, (I6 (t.s)), (B6 true), (B6 true), (B6 true), .ptr 0 16, .sl (opsc t.ops) (t.ops.length) .any, (I6 (↑(t.ops.length) : Int)), (B6 true), (B6 true), (B6 true), .agg (txc g t), (B6 true), (B6 true), (B6 true), .ptr 1 0, (I6 (t.p)), .ptr 0 2, .ptr 0 (2 + Int.toNat t.p), (I6 (t.v (Int.toNat t.p))), .ptr 1 1, (I6 (t.s)), (B6 (decide (t.v (Int.toNat t.p) < t.s))), (B6 (decide (t.v (Int.toNat t.p) < t.s)))], [⟨txc g t, 17, .fresh⟩, ⟨[(I6 (t.p)), (I6 (t.s))], 2, .fresh⟩]⟩ (by intro ext; kernel_rfl) (by kernel_rfl) (tt 3) ?_
            refine DerX.nil ?_
            refine KL ([1, 3] ++ NN 6 33) ⟨[U6, U6, (B6 (decide (t.v (Int.toNat t.p) < t.s)))] ++ UU 36, [⟨txc g t, 17, .fresh⟩, ⟨[(I6 (t.p)), (I6 (t.s))], 2, .fresh⟩]⟩ ?_
            refine AWP.ret ?_
            refine FI (B6 (decide (t.v (Int.toNat t.p) < t.s))) ?_
            refine Shrink.all ?_ rfl
            ((first | refine congrArg B6 ?_ | refine congrArg I6 ?_ | congr 2); rw [Bool.eq_iff_iff]; simp [ctxP, *] <;> omega; done)
def copP (t : TxD) : Prop := t.p = 0 ∧ t.s = 0 ∧ restP t
instance (t : TxD) : Decidable (copP t) := by unfold copP; infer_instance
end Go.Ops
