/- Walks and laws. -/
import Derived.Test.YtfkilkfaiiijbaaOps7
import Derived.Test.YtfkilkfaiiijbaaLibB
set_option maxRecDepth 100000
set_option maxHeartbeats 0
set_option linter.unusedSimpArgs false
set_option linter.unusedVariables false
namespace Go.Ops
open Go Go.Abs Go.Proofs
def ctxP (t : TxD) : Prop := ((1 ≤ t.p ∧ t.p ≤ 12) ∧ 1 ≤ t.s ∧ t.s ≤ 1048576) ∧ 1 ≤ t.ops.length ∧ restP t ∧ t.v t.p.toNat < t.s
instance (t : TxD) : Decidable (ctxP t) := by unfold ctxP; infer_instance
theorem o_ctx (g : Gate) (t : TxD) : EvD Try.prog 24 [.agg (txc g t)] (.sc (.bool (decide (ctxP t)))) := by
  refine EvD.body Try.func24 rfl (by simp [dataAll, AVal.data]) rfl ?_
  refine AWP.seq ?_
  refine AWP.reg ?_
  refine DerQ.run ((True) ∧ ((True) ∧ (True))) ⟨[.agg (txc g t), .ptr 0 0, (B6 false), .undef, .undef, .undef, .undef, .undef, .undef, .undef, .undef, .undef, .undef, .undef, .undef, .undef, .undef, .undef, .undef, .undef, .undef, .undef, .undef, .undef, .undef, .undef, .undef, .undef], [⟨txc g t, 17, .fresh⟩]⟩ (by kernel_rfl) ⟨trivial, ⟨trivial, trivial⟩⟩ ?_
  refine AWP.seq ?_
  refine AWP.drawX mixed (fun o => [5, 14].contains (o.dst.getD 0)) (by kernel_rfl) ?_
  refine DerX.pre 2 ((True) ∧ ((2 ≤ List.length (txc g t)) ∧ (True))) [.ptr 0 0, .agg (List.take 2 (List.drop 0 (txc g t)))] ⟨[.agg (txc g t), .ptr 0 0, (B6 false), .ptr 0 0, .agg (List.take 2 (List.drop 0 (txc g t))), .undef, .undef, .undef, .undef, .undef, .undef, .undef, .undef, .undef, .undef, .undef, .undef, .undef, .undef, .undef, .undef, .undef, .undef, .undef, .undef, .undef, .undef, .undef], [⟨txc g t, 17, .fresh⟩]⟩ (by intro ext; kernel_rfl) (by kernel_rfl) ⟨trivial, ⟨(by simp), trivial⟩⟩ ?_
  rw [List.drop_zero]
  rw [Go.Ops.tx_dot (g) (t)]
  refine DerX.callD (o_dotted t.p t.s) ⟨[.agg (txc g t), .ptr 0 0, (B6 false), .ptr 0 0, .agg [(I6 (t.p)), (I6 (t.s))], (B6 (decide ((1 ≤ t.p ∧ t.p ≤ 12) ∧ 1 ≤ t.s ∧ t.s ≤ 1048576))), .undef, .undef, .undef, .undef, .undef, .undef, .undef, .undef, .undef, .undef, .undef, .undef, .undef, .undef, .undef, .undef, .undef, .undef, .undef, .undef, .undef, .undef], [⟨txc g t, 17, .fresh⟩]⟩ ⟨by kernel_rfl, by kernel_rfl, by kernel_rfl⟩ ?_
  refine DerX.quiet (True) (B6 (decide ((1 ≤ t.p ∧ t.p ≤ 12) ∧ 1 ≤ t.s ∧ t.s ≤ 1048576))) ⟨[.agg (txc g t), .ptr 0 0, (B6 false), .ptr 0 0, .agg [(I6 (t.p)), (I6 (t.s))], (B6 (decide ((1 ≤ t.p ∧ t.p ≤ 12) ∧ 1 ≤ t.s ∧ t.s ≤ 1048576))), (B6 (decide ((1 ≤ t.p ∧ t.p ≤ 12) ∧ 1 ≤ t.s ∧ t.s ≤ 1048576))), .undef, .undef, .undef, .undef, .undef, .undef, .undef, .undef, .undef, .undef, .undef, .undef, .undef, .undef, .undef, .undef, .undef, .undef, .undef, .undef, .undef], [⟨txc g t, 17, .fresh⟩]⟩ (by intro ext; kernel_rfl) ⟨by kernel_rfl, by kernel_rfl⟩ trivial ?_
  cases h1 : (decide ((1 ≤ t.p ∧ t.p ≤ 12) ∧ 1 ≤ t.s ∧ t.s ≤ 1048576))
  · have h1' := of_decide_eq_false h1
    refine DerX.pre 22 ((True) ∧ ((True) ∧ ((True) ∧ ((True) ∧ ((True) ∧ ((True) ∧ (True))))))) [(B6 false), (B6 false), (B6 false), (B6 false), (B6 false), (B6 false)] ⟨[.agg (txc g t), .ptr 0 0, (B6 false), .ptr 0 0, .agg [(I6 (t.p)), (I6 (t.s))], (B6 false), (B6 false), .tup [], .tup [], .tup [], .tup [], (B6 false), (B6 false), .tup [], .tup [], (B6 false), (B6 false), .tup [], .tup [], .tup [], .tup [], .tup [], .tup [], .tup [], .tup [], .tup [], .tup [], (B6 false)], [⟨txc g t, 17, .fresh⟩]⟩ (by intro ext; kernel_rfl) (by kernel_rfl) ⟨trivial, ⟨trivial, ⟨trivial, ⟨trivial, ⟨trivial, ⟨trivial, trivial⟩⟩⟩⟩⟩⟩ ?_
    refine DerX.nil ?_
    refine AWP.ret ?_
    refine EvF.fin (.sc (.bool false)) _ (by simp) (by kernel_rfl) ?_
    refine Shrink.all ?_ rfl
    (congr 2; rw [Bool.eq_iff_iff]; simp [ctxP, *] <;> omega; done)
  · have h1' := of_decide_eq_true h1
    refine DerX.pre 2 ((True) ∧ ((16 < List.length (txc g t)) ∧ (True))) [.ptr 0 16, List.getD (txc g t) 16 AVal.undef] ⟨[.agg (txc g t), .ptr 0 0, (B6 false), .ptr 0 0, .agg [(I6 (t.p)), (I6 (t.s))], (B6 true), (B6 true), .ptr 0 16, List.getD (txc g t) 16 AVal.undef, .undef, .undef, .undef, .undef, .undef, .undef, .undef, .undef, .undef, .undef, .undef, .undef, .undef, .undef, .undef, .undef, .undef, .undef, .undef], [⟨txc g t, 17, .fresh⟩]⟩ (by intro ext; kernel_rfl) (by kernel_rfl) ⟨trivial, ⟨(by simp), trivial⟩⟩ ?_
    rw [Go.Ops.tx_16 (g) (t)]
    refine DerX.pre 4 ((True) ∧ ((True) ∧ ((True) ∧ ((True) ∧ (True))))) [(I6 (↑(List.length t.ops) : Int)), (B6 (decide ((↑(List.length t.ops) : Int) > 0))), (B6 (decide ((↑(List.length t.ops) : Int) > 0))), (B6 (decide ((↑(List.length t.ops) : Int) > 0)))] ⟨[.agg (txc g t), .ptr 0 0, (B6 false), .ptr 0 0, .agg [(I6 (t.p)), (I6 (t.s))], (B6 true), (B6 true), .ptr 0 16, .sl (opsc t.ops) (List.length t.ops) .any, (I6 (↑(List.length t.ops) : Int)), (B6 (decide ((↑(List.length t.ops) : Int) > 0))), (B6 (decide ((↑(List.length t.ops) : Int) > 0))), (B6 (decide ((↑(List.length t.ops) : Int) > 0))), .undef, .undef, .undef, .undef, .undef, .undef, .undef, .undef, .undef, .undef, .undef, .undef, .undef, .undef, .undef], [⟨txc g t, 17, .fresh⟩]⟩ (by intro ext; kernel_rfl) (by kernel_rfl) ⟨trivial, ⟨trivial, ⟨trivial, ⟨trivial, trivial⟩⟩⟩⟩ ?_
    cases h2 : (decide ((↑(List.length t.ops) : Int) > 0))
    · have h2' := of_decide_eq_false h2
      refine DerX.pre 16 ((True) ∧ ((True) ∧ ((True) ∧ ((True) ∧ (True))))) [(B6 false), (B6 false), (B6 false), (B6 false)] ⟨[.agg (txc g t), .ptr 0 0, (B6 false), .ptr 0 0, .agg [(I6 (t.p)), (I6 (t.s))], (B6 true), (B6 true), .ptr 0 16, .sl (opsc t.ops) (List.length t.ops) .any, (I6 (↑(List.length t.ops) : Int)), (B6 false), (B6 false), (B6 false), .tup [], .tup [], (B6 false), (B6 false), .tup [], .tup [], .tup [], .tup [], .tup [], .tup [], .tup [], .tup [], .tup [], .tup [], (B6 false)], [⟨txc g t, 17, .fresh⟩]⟩ (by intro ext; kernel_rfl) (by kernel_rfl) ⟨trivial, ⟨trivial, ⟨trivial, ⟨trivial, trivial⟩⟩⟩⟩ ?_
      refine DerX.nil ?_
      refine AWP.ret ?_
      refine EvF.fin (.sc (.bool false)) _ (by simp) (by kernel_rfl) ?_
      refine Shrink.all ?_ rfl
      (congr 2; rw [Bool.eq_iff_iff]; simp [ctxP, *] <;> omega; done)
    · have h2' := of_decide_eq_true h2
      refine DerX.quiet (17 ≤ List.length (txc g t)) (.agg (List.take 17 (List.drop 0 (txc g t)))) ⟨[.agg (txc g t), .ptr 0 0, (B6 false), .ptr 0 0, .agg [(I6 (t.p)), (I6 (t.s))], (B6 true), (B6 true), .ptr 0 16, .sl (opsc t.ops) (List.length t.ops) .any, (I6 (↑(List.length t.ops) : Int)), (B6 true), (B6 true), (B6 true), .agg (List.take 17 (List.drop 0 (txc g t))), .undef, .undef, .undef, .undef, .undef, .undef, .undef, .undef, .undef, .undef, .undef, .undef, .undef, .undef], [⟨txc g t, 17, .fresh⟩]⟩ (by intro ext; kernel_rfl) ⟨by kernel_rfl, by kernel_rfl⟩ (by simp) ?_
      rw [List.drop_zero]
      rw [Go.Ops.tx_take (g) (t)]
      refine DerX.callD (o_rest g t) ⟨[.agg (txc g t), .ptr 0 0, (B6 false), .ptr 0 0, .agg [(I6 (t.p)), (I6 (t.s))], (B6 true), (B6 true), .ptr 0 16, .sl (opsc t.ops) (List.length t.ops) .any, (I6 (↑(List.length t.ops) : Int)), (B6 true), (B6 true), (B6 true), .agg (txc g t), (B6 (decide (restP t))), .undef, .undef, .undef, .undef, .undef, .undef, .undef, .undef, .undef, .undef, .undef, .undef, .undef], [⟨txc g t, 17, .fresh⟩]⟩ ⟨by kernel_rfl, by kernel_rfl, by kernel_rfl⟩ ?_
      refine DerX.pre 2 ((True) ∧ ((True) ∧ (True))) [(B6 (decide (restP t))), (B6 (decide (restP t)))] ⟨[.agg (txc g t), .ptr 0 0, (B6 false), .ptr 0 0, .agg [(I6 (t.p)), (I6 (t.s))], (B6 true), (B6 true), .ptr 0 16, .sl (opsc t.ops) (List.length t.ops) .any, (I6 (↑(List.length t.ops) : Int)), (B6 true), (B6 true), (B6 true), .agg (txc g t), (B6 (decide (restP t))), (B6 (decide (restP t))), (B6 (decide (restP t))), .undef, .undef, .undef, .undef, .undef, .undef, .undef, .undef, .undef, .undef, .undef], [⟨txc g t, 17, .fresh⟩]⟩ (by intro ext; kernel_rfl) (by kernel_rfl) ⟨trivial, ⟨trivial, trivial⟩⟩ ?_
      cases h3 : (decide (restP t))
      · have h3' := of_decide_eq_false h3
        refine DerX.pre 12 ((True) ∧ ((True) ∧ (True))) [(B6 false), (B6 false)] ⟨[.agg (txc g t), .ptr 0 0, (B6 false), .ptr 0 0, .agg [(I6 (t.p)), (I6 (t.s))], (B6 true), (B6 true), .ptr 0 16, .sl (opsc t.ops) (List.length t.ops) .any, (I6 (↑(List.length t.ops) : Int)), (B6 true), (B6 true), (B6 true), .agg (txc g t), (B6 false), (B6 false), (B6 false), .tup [], .tup [], .tup [], .tup [], .tup [], .tup [], .tup [], .tup [], .tup [], .tup [], (B6 false)], [⟨txc g t, 17, .fresh⟩]⟩ (by intro ext; kernel_rfl) (by kernel_rfl) ⟨trivial, ⟨trivial, trivial⟩⟩ ?_
        refine DerX.nil ?_
        refine AWP.ret ?_
        refine EvF.fin (.sc (.bool false)) _ (by simp) (by kernel_rfl) ?_
        refine Shrink.all ?_ rfl
        (congr 2; rw [Bool.eq_iff_iff]; simp [ctxP, *] <;> omega; done)
      · have h3' := of_decide_eq_true h3
        refine DerX.pre 4 ((True) ∧ ((True) ∧ ((0 < List.length (txc g t)) ∧ ((True) ∧ (True))))) [.ptr 0 0, .ptr 0 0, List.getD (txc g t) 0 AVal.undef, .ptr 0 2] ⟨[.agg (txc g t), .ptr 0 0, (B6 false), .ptr 0 0, .agg [(I6 (t.p)), (I6 (t.s))], (B6 true), (B6 true), .ptr 0 16, .sl (opsc t.ops) (List.length t.ops) .any, (I6 (↑(List.length t.ops) : Int)), (B6 true), (B6 true), (B6 true), .agg (txc g t), (B6 true), (B6 true), (B6 true), .ptr 0 0, .ptr 0 0, List.getD (txc g t) 0 AVal.undef, .ptr 0 2, .undef, .undef, .undef, .undef, .undef, .undef, .undef], [⟨txc g t, 17, .fresh⟩]⟩ (by intro ext; kernel_rfl) (by kernel_rfl) ⟨trivial, ⟨trivial, ⟨(by simp), ⟨trivial, trivial⟩⟩⟩⟩ ?_
        rw [Go.Ops.tx_0 (g) (t)]
        refine DerX.pre 5 (((0 ≤ t.p) ∧ (t.p < 13)) ∧ ((2 + Int.toNat t.p * 1 < List.length (txc g t)) ∧ ((True) ∧ ((True) ∧ ((1 < List.length (txc g t)) ∧ (True)))))) [.ptr 0 (2 + Int.toNat t.p * 1), List.getD (txc g t) (2 + Int.toNat t.p * 1) AVal.undef, .ptr 0 0, .ptr 0 1, List.getD (txc g t) 1 AVal.undef] ⟨[.agg (txc g t), .ptr 0 0, (B6 false), .ptr 0 0, .agg [(I6 (t.p)), (I6 (t.s))], (B6 true), (B6 true), .ptr 0 16, .sl (opsc t.ops) (List.length t.ops) .any, (I6 (↑(List.length t.ops) : Int)), (B6 true), (B6 true), (B6 true), .agg (txc g t), (B6 true), (B6 true), (B6 true), .ptr 0 0, .ptr 0 0, (I6 (t.p)), .ptr 0 2, .ptr 0 (2 + Int.toNat t.p * 1), List.getD (txc g t) (2 + Int.toNat t.p * 1) AVal.undef, .ptr 0 0, .ptr 0 1, List.getD (txc g t) 1 AVal.undef, .undef, .undef], [⟨txc g t, 17, .fresh⟩]⟩ (by intro ext; kernel_rfl) (by kernel_rfl) ⟨⟨(by omega), (by omega)⟩, ⟨(by (simp [spliceA_length] <;> omega)), ⟨trivial, ⟨trivial, ⟨(by simp), trivial⟩⟩⟩⟩⟩ ?_
        rw [Nat.mul_one (Int.toNat t.p)]
        rw [Go.Ops.tx_1 (g) (t)]
        rw [Go.Ops.tx_v (g) (t) (Int.toNat t.p) (by omega)]
        refine DerX.pre 3 ((True) ∧ ((True) ∧ ((True) ∧ (True)))) [(B6 (decide (t.v (Int.toNat t.p) < t.s))), (B6 (decide (t.v (Int.toNat t.p) < t.s))), (B6 (decide (t.v (Int.toNat t.p) < t.s)))] ⟨[.agg (txc g t), .ptr 0 0, (B6 (decide (t.v (Int.toNat t.p) < t.s))), .ptr 0 0, .agg [(I6 (t.p)), (I6 (t.s))], (B6 true), (B6 true), .ptr 0 16, .sl (opsc t.ops) (List.length t.ops) .any, (I6 (↑(List.length t.ops) : Int)), (B6 true), (B6 true), (B6 true), .agg (txc g t), (B6 true), (B6 true), (B6 true), .ptr 0 0, .ptr 0 0, (I6 (t.p)), .ptr 0 2, .ptr 0 (2 + Int.toNat t.p), (I6 (t.v (Int.toNat t.p))), .ptr 0 0, .ptr 0 1, (I6 (t.s)), (B6 (decide (t.v (Int.toNat t.p) < t.s))), (B6 (decide (t.v (Int.toNat t.p) < t.s)))], [⟨txc g t, 17, .fresh⟩]⟩ (by intro ext; kernel_rfl) (by kernel_rfl) ⟨trivial, ⟨trivial, ⟨trivial, trivial⟩⟩⟩ ?_
        refine DerX.nil ?_
        refine AWP.ret ?_
        refine EvF.fin (.sc (.bool (decide (t.v (Int.toNat t.p) < t.s)))) _ (by simp) (by kernel_rfl) ?_
        refine Shrink.all ?_ rfl
        (congr 2; rw [Bool.eq_iff_iff]; simp [ctxP, *] <;> omega; done)
def copP (t : TxD) : Prop := t.p = 0 ∧ t.s = 0 ∧ restP t
instance (t : TxD) : Decidable (copP t) := by unfold copP; infer_instance
end Go.Ops
