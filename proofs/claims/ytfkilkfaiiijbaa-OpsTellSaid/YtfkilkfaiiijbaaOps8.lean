/- Walks and laws. -/
import Derived.Test.YtfkilkfaiiijbaaOps7
import Derived.Test.YtfkilkfaiiijbaaLibB
set_option maxRecDepth 100000
set_option maxHeartbeats 0
set_option linter.unusedSimpArgs false
set_option linter.unusedVariables false
namespace Go.Ops
open Go Go.Abs Go.Proofs
def ctxP (t : TxD) : Prop := ((1 ≤ t.p ∧ t.p ≤ 12) ∧ 1 ≤ t.s ∧ t.s ≤ 1048576) ∧ 1 ≤ t.ops.length ∧ restP t ∧ t.v t.p.toNat < t.s
instance (t : TxD) : Decidable (ctxP t) := by unfold ctxP; infer_instance
theorem o_ctx (g : Gate) (t : TxD) : EvD Try.prog 24 [.agg (txc g t)] (.sc (.bool (decide (ctxP t)))) := by
  refine EvD.body Try.func24 rfl (by simp [dataAll, AVal.data]) rfl ?_
  refine AWP.seq ?_
  refine AWP.reg ?_
  refine DerQ.run (TT 2) ⟨[.agg (txc g t), .ptr 0 0, (B6 false)] ++ UU 25, [⟨txc g t, 17, .fresh⟩]⟩ (by kernel_rfl) (tt 2) ?_
  refine AWP.seq ?_
  refine AWP.drawX mixed (fun o => [5, 14].contains (o.dst.getD 0)) (by kernel_rfl) ?_
  refine DerX.pre 2 ((True) ∧ ((2 ≤ List.length (txc g t)) ∧ (True))) [.ptr 0 0, .agg (List.take 2 (List.drop 0 (txc g t)))] ⟨[.agg (txc g t), .ptr 0 0, (B6 false), .ptr 0 0, .agg (List.take 2 (List.drop 0 (txc g t)))] ++ UU 23, [⟨txc g t, 17, .fresh⟩]⟩ (by intro ext; kernel_rfl) (by kernel_rfl) ⟨trivial, ⟨(by simp), trivial⟩⟩ ?_
  rw [List.drop_zero]
  rw [Go.Ops.tx_dot (g) (t)]
  refine DerX.callD (o_dotted t.p t.s) ⟨[.agg (txc g t), .ptr 0 0, (B6 false), .ptr 0 0, .agg [(I6 (t.p)), (I6 (t.s))], (B6 (decide ((1 ≤ t.p ∧ t.p ≤ 12) ∧ 1 ≤ t.s ∧ t.s ≤ 1048576)))] ++ UU 22, [⟨txc g t, 17, .fresh⟩]⟩ ⟨by kernel_rfl, by kernel_rfl, by kernel_rfl⟩ ?_
  refine DerX.quiet (True) (B6 (decide ((1 ≤ t.p ∧ t.p ≤ 12) ∧ 1 ≤ t.s ∧ t.s ≤ 1048576))) ⟨[.agg (txc g t), .ptr 0 0, (B6 false), .ptr 0 0, .agg [(I6 (t.p)), (I6 (t.s))], (B6 (decide ((1 ≤ t.p ∧ t.p ≤ 12) ∧ 1 ≤ t.s ∧ t.s ≤ 1048576))), (B6 (decide ((1 ≤ t.p ∧ t.p ≤ 12) ∧ 1 ≤ t.s ∧ t.s ≤ 1048576)))] ++ UU 21, [⟨txc g t, 17, .fresh⟩]⟩ (by intro ext; kernel_rfl) ⟨by kernel_rfl, by kernel_rfl⟩ trivial ?_
  cases h1 : (decide ((1 ≤ t.p ∧ t.p ≤ 12) ∧ 1 ≤ t.s ∧ t.s ≤ 1048576))
  · have h1' := of_decide_eq_false h1
    refine DerX.pre 22 (TT 6) [(B6 false), (B6 false), (B6 false), (B6 false), (B6 false), (B6 false)] ⟨[.agg (txc g t), .ptr 0 0, (B6 false), .ptr 0 0, .agg [(I6 (t.p)), (I6 (t.s))], (B6 false), (B6 false), .tup [], .tup [], .tup [], .tup [], (B6 false), (B6 false), .tup [], .tup [], (B6 false), (B6 false), .tup [], .tup [], .tup [], .tup [], .tup [], .tup [], .tup [], .tup [], .tup [], .tup [], (B6 false)], [⟨txc g t, 17, .fresh⟩]⟩ (by intro ext; kernel_rfl) (by kernel_rfl) (tt 6) ?_
    refine DerX.nil ?_
    refine AWP.ret ?_
    refine EvF.fin (.sc (.bool false)) _ (by simp) (by kernel_rfl) ?_
    refine Shrink.all ?_ rfl
    (congr 2; rw [Bool.eq_iff_iff]; simp [ctxP, *] <;> omega; done)
  · have h1' := of_decide_eq_true h1
    refine DerX.pre 2 ((True) ∧ ((16 < List.length (txc g t)) ∧ (True))) [.ptr 0 16, List.getD (txc g t) 16 AVal.undef] ⟨[.agg (txc g t), .ptr 0 0, (B6 false), .ptr 0 0, .agg [(I6 (t.p)), (I6 (t.s))], (B6 true), (B6 true), .ptr 0 16, List.getD (txc g t) 16 AVal.undef] ++ UU 19, [⟨txc g t, 17, .fresh⟩]⟩ (by intro ext; kernel_rfl) (by kernel_rfl) ⟨trivial, ⟨(by simp), trivial⟩⟩ ?_
    rw [Go.Ops.tx_16 (g) (t)]
    refine DerX.pre 4 (TT 4) [(I6 (↑(List.length t.ops) : Int)), (B6 (decide ((↑(List.length t.ops) : Int) > 0))), (B6 (decide ((↑(List.length t.ops) : Int) > 0))), (B6 (decide ((↑(List.length t.ops) : Int) > 0)))] ⟨[.agg (txc g t), .ptr 0 0, (B6 false), .ptr 0 0, .agg [(I6 (t.p)), (I6 (t.s))], (B6 true), (B6 true), .ptr 0 16, .sl (opsc t.ops) (List.length t.ops) .any, (I6 (↑(List.length t.ops) : Int)), (B6 (decide ((↑(List.length t.ops) : Int) > 0))), (B6 (decide ((↑(List.length t.ops) : Int) > 0))), (B6 (decide ((↑(List.length t.ops) : Int) > 0)))] ++ UU 15, [⟨txc g t, 17, .fresh⟩]⟩ (by intro ext; kernel_rfl) (by kernel_rfl) (tt 4) ?_
    cases h2 : (decide ((↑(List.length t.ops) : Int) > 0))
    · have h2' := of_decide_eq_false h2
      refine DerX.pre 16 (TT 4) [(B6 false), (B6 false), (B6 false), (B6 false)] ⟨[.agg (txc g t), .ptr 0 0, (B6 false), .ptr 0 0, .agg [(I6 (t.p)), (I6 (t.s))], (B6 true), (B6 true), .ptr 0 16, .sl (opsc t.ops) (List.length t.ops) .any, (I6 (↑(List.length t.ops) : Int)), (B6 false), (B6 false), (B6 false), .tup [], .tup [], (B6 false), (B6 false), .tup [], .tup [], .tup [], .tup [], .tup [], .tup [], .tup [], .tup [], .tup [], .tup [], (B6 false)], [⟨txc g t, 17, .fresh⟩]⟩ (by intro ext; kernel_rfl) (by kernel_rfl) (tt 4) ?_
      refine DerX.nil ?_
      refine AWP.ret ?_
      refine EvF.fin (.sc (.bool false)) _ (by simp) (by kernel_rfl) ?_
      refine Shrink.all ?_ rfl
      (congr 2; rw [Bool.eq_iff_iff]; simp [ctxP, *] <;> omega; done)
    · have h2' := of_decide_eq_true h2
      refine DerX.quiet (17 ≤ List.length (txc g t)) (.agg (List.take 17 (List.drop 0 (txc g t)))) ⟨[.agg (txc g t), .ptr 0 0, (B6 false), .ptr 0 0, .agg [(I6 (t.p)), (I6 (t.s))], (B6 true), (B6 true), .ptr 0 16, .sl (opsc t.ops) (List.length t.ops) .any, (I6 (↑(List.length t.ops) : Int)), (B6 true), (B6 true), (B6 true), .agg (List.take 17 (List.drop 0 (txc g t)))] ++ UU 14, [⟨txc g t, 17, .fresh⟩]⟩ (by intro ext; kernel_rfl) ⟨by kernel_rfl, by kernel_rfl⟩ (by simp) ?_
      rw [List.drop_zero]
      rw [Go.Ops.tx_take (g) (t)]
      refine DerX.callD (o_rest g t) ⟨[.agg (txc g t), .ptr 0 0, (B6 false), .ptr 0 0, .agg [(I6 (t.p)), (I6 (t.s))], (B6 true), (B6 true), .ptr 0 16, .sl (opsc t.ops) (List.length t.ops) .any, (I6 (↑(List.length t.ops) : Int)), (B6 true), (B6 true), (B6 true), .agg (txc g t), (B6 (decide (restP t)))] ++ UU 13, [⟨txc g t, 17, .fresh⟩]⟩ ⟨by kernel_rfl, by kernel_rfl, by kernel_rfl⟩ ?_
      refine DerX.pre 2 (TT 2) [(B6 (decide (restP t))), (B6 (decide (restP t)))] ⟨[.agg (txc g t), .ptr 0 0, (B6 false), .ptr 0 0, .agg [(I6 (t.p)), (I6 (t.s))], (B6 true), (B6 true), .ptr 0 16, .sl (opsc t.ops) (List.length t.ops) .any, (I6 (↑(List.length t.ops) : Int)), (B6 true), (B6 true), (B6 true), .agg (txc g t), (B6 (decide (restP t))), (B6 (decide (restP t))), (B6 (decide (restP t)))] ++ UU 11, [⟨txc g t, 17, .fresh⟩]⟩ (by intro ext; kernel_rfl) (by kernel_rfl) (tt 2) ?_
      cases h3 : (decide (restP t))
      · have h3' := of_decide_eq_false h3
        refine DerX.pre 12 (TT 2) [(B6 false), (B6 false)] ⟨[.agg (txc g t), .ptr 0 0, (B6 false), .ptr 0 0, .agg [(I6 (t.p)), (I6 (t.s))], (B6 true), (B6 true), .ptr 0 16, .sl (opsc t.ops) (List.length t.ops) .any, (I6 (↑(List.length t.ops) : Int)), (B6 true), (B6 true), (B6 true), .agg (txc g t), (B6 false), (B6 false), (B6 false), .tup [], .tup [], .tup [], .tup [], .tup [], .tup [], .tup [], .tup [], .tup [], .tup [], (B6 false)], [⟨txc g t, 17, .fresh⟩]⟩ (by intro ext; kernel_rfl) (by kernel_rfl) (tt 2) ?_
        refine DerX.nil ?_
        refine AWP.ret ?_
        refine EvF.fin (.sc (.bool false)) _ (by simp) (by kernel_rfl) ?_
        refine Shrink.all ?_ rfl
        (congr 2; rw [Bool.eq_iff_iff]; simp [ctxP, *] <;> omega; done)
      · have h3' := of_decide_eq_true h3
        refine DerX.pre 4 ((True) ∧ ((True) ∧ ((0 < List.length (txc g t)) ∧ ((True) ∧ (True))))) [.ptr 0 0, .ptr 0 0, List.getD (txc g t) 0 U6, .ptr 0 2] ⟨[.agg (txc g t), .ptr 0 0, (B6 false), .ptr 0 0, .agg [(I6 (t.p)), (I6 (t.s))], (B6 true), (B6 true), .ptr 0 16, .sl (opsc t.ops) (List.length t.ops) .any, (I6 (↑(List.length t.ops) : Int)), (B6 true), (B6 true), (B6 true), .agg (txc g t), (B6 true), (B6 true), (B6 true), .ptr 0 0, .ptr 0 0, List.getD (txc g t) 0 U6, .ptr 0 2] ++ UU 7, [⟨txc g t, 17, .fresh⟩]⟩ (by intro ext; kernel_rfl) (by kernel_rfl) ⟨trivial, ⟨trivial, ⟨(by simp), ⟨trivial, trivial⟩⟩⟩⟩ ?_
        rw [Go.Ops.tx_0 (g) (t)]
        refine DerX.pre 5 (((0 ≤ t.p) ∧ (t.p < 13)) ∧ ((2 + Int.toNat t.p * 1 < List.length (txc g t)) ∧ ((True) ∧ ((True) ∧ ((1 < List.length (txc g t)) ∧ (True)))))) [.ptr 0 (2 + Int.toNat t.p * 1), List.getD (txc g t) (2 + Int.toNat t.p * 1) U6, .ptr 0 0, .ptr 0 1, List.getD (txc g t) 1 AVal.undef] ⟨[.agg (txc g t), .ptr 0 0, (B6 false), .ptr 0 0, .agg [(I6 (t.p)), (I6 (t.s))], (B6 true), (B6 true), .ptr 0 16, .sl (opsc t.ops) (List.length t.ops) .any, (I6 (↑(List.length t.ops) : Int)), (B6 true), (B6 true), (B6 true), .agg (txc g t), (B6 true), (B6 true), (B6 true), .ptr 0 0, .ptr 0 0, (I6 (t.p)), .ptr 0 2, .ptr 0 (2 + Int.toNat t.p * 1), List.getD (txc g t) (2 + Int.toNat t.p * 1) U6, .ptr 0 0, .ptr 0 1, List.getD (txc g t) 1 U6, U6, .undef], [⟨txc g t, 17, .fresh⟩]⟩ (by intro ext; kernel_rfl) (by kernel_rfl) ⟨⟨(by omega), (by omega)⟩, ⟨(by (simp [spliceA_length] <;> omega)), ⟨trivial, ⟨trivial, ⟨(by simp), trivial⟩⟩⟩⟩⟩ ?_
        rw [Nat.mul_one (Int.toNat t.p)]
        rw [Go.Ops.tx_1 (g) (t)]
        rw [Go.Ops.tx_v (g) (t) (Int.toNat t.p) (by omega)]
        refine DerX.pre 3 (TT 3) [(B6 (decide (t.v (Int.toNat t.p) < t.s))), (B6 (decide (t.v (Int.toNat t.p) < t.s))), (B6 (decide (t.v (Int.toNat t.p) < t.s)))] ⟨[.agg (txc g t), .ptr 0 0, (B6 (decide (t.v (Int.toNat t.p) < t.s))), .ptr 0 0, .agg [(I6 (t.p)), (I6 (t.s))], (B6 true), (B6 true), .ptr 0 16, .sl (opsc t.ops) (List.length t.ops) .any, (I6 (↑(List.length t.ops) : Int)), (B6 true), (B6 true), (B6 true), .agg (txc g t), (B6 true), (B6 true), (B6 true), .ptr 0 0, .ptr 0 0, (I6 (t.p)), .ptr 0 2, .ptr 0 (2 + Int.toNat t.p), (I6 (t.v (Int.toNat t.p))), .ptr 0 0, .ptr 0 1, (I6 (t.s)), (B6 (decide (t.v (Int.toNat t.p) < t.s))), (B6 (decide (t.v (Int.toNat t.p) < t.s)))], [⟨txc g t, 17, .fresh⟩]⟩ (by intro ext; kernel_rfl) (by kernel_rfl) (tt 3) ?_
        refine DerX.nil ?_
        refine AWP.ret ?_
        refine EvF.fin (.sc (.bool (decide (t.v (Int.toNat t.p) < t.s)))) _ (by simp) (by kernel_rfl) ?_
        refine Shrink.all ?_ rfl
        (congr 2; rw [Bool.eq_iff_iff]; simp [ctxP, *] <;> omega; done)
theorem r_ctx (g : Gate) (t : TxD) : EvD Try.prog 17 [.agg (txc g t)] (.sc (.bool (decide (ctxP t)))) := by
  refine EvD.body Try.func17 rfl (by simp [dataAll, AVal.data]) rfl ?_
  refine AWP.seq ?_
  refine AWP.reg ?_
  refine DerQ.run (TT 2) ⟨[.agg (txc g t), .ptr 0 0, (B6 false)] ++ UU 36, [⟨txc g t, 17, .fresh⟩]⟩ (by kernel_rfl) (tt 2) ?_
  refine AWP.seq ?_
  refine AWP.reg ?_
  refine DerQ.pre 3 ((True) ∧ ((2 ≤ List.length (txc g t)) ∧ ((True) ∧ (True)))) ⟨[.agg (txc g t), .ptr 0 0, (B6 false), .ptr 1 0, .ptr 0 0, .agg (List.take 2 (List.drop 0 (txc g t)))] ++ UU 33, [⟨txc g t, 17, .fresh⟩, ⟨[(I6 0), (I6 0)], 2, .fresh⟩]⟩ (by kernel_rfl) ⟨trivial, ⟨(by simp), ⟨trivial, trivial⟩⟩⟩ ?_
  rw [List.drop_zero]
  rw [Go.Ops.tx_dot (g) (t)]
  refine DerQ.run (((2 : Nat) ≤ (2 : Nat)) ∧ (True)) ⟨[.agg (txc g t), .ptr 0 0, (B6 false), .ptr 1 0, .ptr 0 0, .agg [(I6 (t.p)), (I6 (t.s))]] ++ UU 33, [⟨txc g t, 17, .fresh⟩, ⟨[(I6 (t.p)), (I6 (t.s))], 2, .fresh⟩]⟩ (by kernel_rfl) ⟨(by omega), trivial⟩ ?_
  refine AWP.seq ?_
  refine AWP.drawX mixed (fun o => [8, 27].contains (o.dst.getD 0)) (by kernel_rfl) ?_
  refine DerX.pre 2 ((True) ∧ ((0 < List.length [(I6 t.p), (I6 t.s)]) ∧ (True))) [.ptr 1 0, (I6 (t.p))] ⟨[.agg (txc g t), .ptr 0 0, (B6 false), .ptr 1 0, .ptr 0 0, .agg [(I6 (t.p)), (I6 (t.s))], .ptr 1 0, (I6 (t.p))] ++ UU 31, [⟨txc g t, 17, .fresh⟩, ⟨[(I6 (t.p)), (I6 (t.s))], 2, .fresh⟩]⟩ (by intro ext; kernel_rfl) (by kernel_rfl) ⟨trivial, ⟨(by simp), trivial⟩⟩ ?_
  refine DerX.callD (r_peer t.p) ⟨[.agg (txc g t), .ptr 0 0, (B6 false), .ptr 1 0, .ptr 0 0, .agg [(I6 (t.p)), (I6 (t.s))], .ptr 1 0, (I6 (t.p)), (B6 (decide (1 ≤ t.p ∧ t.p ≤ 12)))] ++ UU 30, [⟨txc g t, 17, .fresh⟩, ⟨[(I6 (t.p)), (I6 (t.s))], 2, .fresh⟩]⟩ ⟨by kernel_rfl, by kernel_rfl, by kernel_rfl⟩ ?_
  refine DerX.quiet (True) (B6 (decide (1 ≤ t.p ∧ t.p ≤ 12))) ⟨[.agg (txc g t), .ptr 0 0, (B6 false), .ptr 1 0, .ptr 0 0, .agg [(I6 (t.p)), (I6 (t.s))], .ptr 1 0, (I6 (t.p)), (B6 (decide (1 ≤ t.p ∧ t.p ≤ 12))), (B6 (decide (1 ≤ t.p ∧ t.p ≤ 12)))] ++ UU 29, [⟨txc g t, 17, .fresh⟩, ⟨[(I6 (t.p)), (I6 (t.s))], 2, .fresh⟩]⟩ (by intro ext; kernel_rfl) ⟨by kernel_rfl, by kernel_rfl⟩ trivial ?_
  cases h1 : (decide (1 ≤ t.p ∧ t.p ≤ 12))
  · have h1' := of_decide_eq_false h1
    refine DerX.pre 30 (TT 10) [(B6 false), (B6 false), (B6 false), (B6 false), (B6 false), (B6 false), (B6 false), (B6 false), (B6 false), (B6 false)] ⟨[.agg (txc g t), .ptr 0 0, (B6 false), .ptr 1 0, .ptr 0 0, .agg [(I6 (t.p)), (I6 (t.s))], .ptr 1 0, (I6 (t.p)), (B6 false), (B6 false), .tup [], .tup [], .tup [], (B6 false), (B6 false), .tup [], .tup [], .tup [], (B6 false), (B6 false), .tup [], .tup [], .tup [], .tup [], (B6 false), (B6 false), .tup [], .tup [], (B6 false), (B6 false), .tup [], .tup [], .tup [], .tup [], .tup [], .tup [], .tup [], .tup [], (B6 false)], [⟨txc g t, 17, .fresh⟩, ⟨[(I6 (t.p)), (I6 (t.s))], 2, .fresh⟩]⟩ (by intro ext; kernel_rfl) (by kernel_rfl) (tt 10) ?_
    refine DerX.nil ?_
    refine AWP.ret ?_
    refine EvF.fin (.sc (.bool false)) _ (by simp) (by kernel_rfl) ?_
    refine Shrink.all ?_ rfl
    (congr 2; rw [Bool.eq_iff_iff]; simp [ctxP, *] <;> omega; done)
  · have h1' := of_decide_eq_true h1
    refine DerX.pre 5 ((True) ∧ ((1 < List.length [(I6 t.p), (I6 t.s)]) ∧ ((True) ∧ ((True) ∧ ((True) ∧ (True)))))) [.ptr 1 1, (I6 (t.s)), (B6 (decide (t.s ≥ 1))), (B6 (decide (t.s ≥ 1))), (B6 (decide (t.s ≥ 1)))] ⟨[.agg (txc g t), .ptr 0 0, (B6 false), .ptr 1 0, .ptr 0 0, .agg [(I6 (t.p)), (I6 (t.s))], .ptr 1 0, (I6 (t.p)), (B6 true), (B6 true), .ptr 1 1, (I6 (t.s)), (B6 (decide (t.s ≥ 1))), (B6 (decide (t.s ≥ 1))), (B6 (decide (t.s ≥ 1)))] ++ UU 24, [⟨txc g t, 17, .fresh⟩, ⟨[(I6 (t.p)), (I6 (t.s))], 2, .fresh⟩]⟩ (by intro ext; kernel_rfl) (by kernel_rfl) ⟨trivial, ⟨(by simp), ⟨trivial, ⟨trivial, ⟨trivial, trivial⟩⟩⟩⟩⟩ ?_
    cases h2 : (decide (t.s ≥ 1))
    · have h2' := of_decide_eq_false h2
      refine DerX.pre 25 (TT 8) [(B6 false), (B6 false), (B6 false), (B6 false), (B6 false), (B6 false), (B6 false), (B6 false)] ⟨[.agg (txc g t), .ptr 0 0, (B6 false), .ptr 1 0, .ptr 0 0, .agg [(I6 (t.p)), (I6 (t.s))], .ptr 1 0, (I6 (t.p)), (B6 true), (B6 true), .ptr 1 1, (I6 (t.s)), (B6 false), (B6 false), (B6 false), .tup [], .tup [], .tup [], (B6 false), (B6 false), .tup [], .tup [], .tup [], .tup [], (B6 false), (B6 false), .tup [], .tup [], (B6 false), (B6 false), .tup [], .tup [], .tup [], .tup [], .tup [], .tup [], .tup [], .tup [], (B6 false)], [⟨txc g t, 17, .fresh⟩, ⟨[(I6 (t.p)), (I6 (t.s))], 2, .fresh⟩]⟩ (by intro ext; kernel_rfl) (by kernel_rfl) (tt 8) ?_
      refine DerX.nil ?_
      refine AWP.ret ?_
      refine EvF.fin (.sc (.bool false)) _ (by simp) (by kernel_rfl) ?_
      refine Shrink.all ?_ rfl
      (congr 2; rw [Bool.eq_iff_iff]; simp [ctxP, *] <;> omega; done)
    · have h2' := of_decide_eq_true h2
      refine DerX.pre 5 ((True) ∧ ((1 < List.length [(I6 t.p), (I6 t.s)]) ∧ ((True) ∧ ((True) ∧ ((True) ∧ (True)))))) [.ptr 1 1, (I6 (t.s)), (B6 (decide (t.s ≤ 1048576))), (B6 (decide (t.s ≤ 1048576))), (B6 (decide (t.s ≤ 1048576)))] ⟨[.agg (txc g t), .ptr 0 0, (B6 false), .ptr 1 0, .ptr 0 0, .agg [(I6 (t.p)), (I6 (t.s))], .ptr 1 0, (I6 (t.p)), (B6 true), (B6 true), .ptr 1 1, (I6 (t.s)), (B6 true), (B6 true), (B6 true), .ptr 1 1, (I6 (t.s)), (B6 (decide (t.s ≤ 1048576))), (B6 (decide (t.s ≤ 1048576))), (B6 (decide (t.s ≤ 1048576)))] ++ UU 19, [⟨txc g t, 17, .fresh⟩, ⟨[(I6 (t.p)), (I6 (t.s))], 2, .fresh⟩]⟩ (by intro ext; kernel_rfl) (by kernel_rfl) ⟨trivial, ⟨(by simp), ⟨trivial, ⟨trivial, ⟨trivial, trivial⟩⟩⟩⟩⟩ ?_
      cases h3 : (decide (t.s ≤ 1048576))
      · have h3' := of_decide_eq_false h3
        refine DerX.pre 20 (TT 6) [(B6 false), (B6 false), (B6 false), (B6 false), (B6 false), (B6 false)] ⟨[.agg (txc g t), .ptr 0 0, (B6 false), .ptr 1 0, .ptr 0 0, .agg [(I6 (t.p)), (I6 (t.s))], .ptr 1 0, (I6 (t.p)), (B6 true), (B6 true), .ptr 1 1, (I6 (t.s)), (B6 true), (B6 true), (B6 true), .ptr 1 1, (I6 (t.s)), (B6 false), (B6 false), (B6 false), .tup [], .tup [], .tup [], .tup [], (B6 false), (B6 false), .tup [], .tup [], (B6 false), (B6 false), .tup [], .tup [], .tup [], .tup [], .tup [], .tup [], .tup [], .tup [], (B6 false)], [⟨txc g t, 17, .fresh⟩, ⟨[(I6 (t.p)), (I6 (t.s))], 2, .fresh⟩]⟩ (by intro ext; kernel_rfl) (by kernel_rfl) (tt 6) ?_
        refine DerX.nil ?_
        refine AWP.ret ?_
        refine EvF.fin (.sc (.bool false)) _ (by simp) (by kernel_rfl) ?_
        refine Shrink.all ?_ rfl
        (congr 2; rw [Bool.eq_iff_iff]; simp [ctxP, *] <;> omega; done)
      · have h3' := of_decide_eq_true h3
        refine DerX.pre 2 ((True) ∧ ((16 < List.length (txc g t)) ∧ (True))) [.ptr 0 16, List.getD (txc g t) 16 AVal.undef] ⟨[.agg (txc g t), .ptr 0 0, (B6 false), .ptr 1 0, .ptr 0 0, .agg [(I6 (t.p)), (I6 (t.s))], .ptr 1 0, (I6 (t.p)), (B6 true), (B6 true), .ptr 1 1, (I6 (t.s)), (B6 true), (B6 true), (B6 true), .ptr 1 1, (I6 (t.s)), (B6 true), (B6 true), (B6 true), .ptr 0 16, List.getD (txc g t) 16 AVal.undef] ++ UU 17, [⟨txc g t, 17, .fresh⟩, ⟨[(I6 (t.p)), (I6 (t.s))], 2, .fresh⟩]⟩ (by intro ext; kernel_rfl) (by kernel_rfl) ⟨trivial, ⟨(by simp), trivial⟩⟩ ?_
        rw [Go.Ops.tx_16 (g) (t)]
        refine DerX.pre 4 (TT 4) [(I6 (↑(List.length t.ops) : Int)), (B6 (decide ((↑(List.length t.ops) : Int) ≥ 1))), (B6 (decide ((↑(List.length t.ops) : Int) ≥ 1))), (B6 (decide ((↑(List.length t.ops) : Int) ≥ 1)))] ⟨[.agg (txc g t), .ptr 0 0, (B6 false), .ptr 1 0, .ptr 0 0, .agg [(I6 (t.p)), (I6 (t.s))], .ptr 1 0, (I6 (t.p)), (B6 true), (B6 true), .ptr 1 1, (I6 (t.s)), (B6 true), (B6 true), (B6 true), .ptr 1 1, (I6 (t.s)), (B6 true), (B6 true), (B6 true), .ptr 0 16, .sl (opsc t.ops) (List.length t.ops) .any, (I6 (↑(List.length t.ops) : Int)), (B6 (decide ((↑(List.length t.ops) : Int) ≥ 1))), (B6 (decide ((↑(List.length t.ops) : Int) ≥ 1))), (B6 (decide ((↑(List.length t.ops) : Int) ≥ 1)))] ++ UU 13, [⟨txc g t, 17, .fresh⟩, ⟨[(I6 (t.p)), (I6 (t.s))], 2, .fresh⟩]⟩ (by intro ext; kernel_rfl) (by kernel_rfl) (tt 4) ?_
        cases h4 : (decide ((↑(List.length t.ops) : Int) ≥ 1))
        · have h4' := of_decide_eq_false h4
          refine DerX.pre 14 (TT 4) [(B6 false), (B6 false), (B6 false), (B6 false)] ⟨[.agg (txc g t), .ptr 0 0, (B6 false), .ptr 1 0, .ptr 0 0, .agg [(I6 (t.p)), (I6 (t.s))], .ptr 1 0, (I6 (t.p)), (B6 true), (B6 true), .ptr 1 1, (I6 (t.s)), (B6 true), (B6 true), (B6 true), .ptr 1 1, (I6 (t.s)), (B6 true), (B6 true), (B6 true), .ptr 0 16, .sl (opsc t.ops) (List.length t.ops) .any, (I6 (↑(List.length t.ops) : Int)), (B6 false), (B6 false), (B6 false), .tup [], .tup [], (B6 false), (B6 false), .tup [], .tup [], .tup [], .tup [], .tup [], .tup [], .tup [], .tup [], (B6 false)], [⟨txc g t, 17, .fresh⟩, ⟨[(I6 (t.p)), (I6 (t.s))], 2, .fresh⟩]⟩ (by intro ext; kernel_rfl) (by kernel_rfl) (tt 4) ?_
          refine DerX.nil ?_
          refine AWP.ret ?_
          refine EvF.fin (.sc (.bool false)) _ (by simp) (by kernel_rfl) ?_
          refine Shrink.all ?_ rfl
          (congr 2; rw [Bool.eq_iff_iff]; simp [ctxP, *] <;> omega; done)
        · have h4' := of_decide_eq_true h4
          refine DerX.quiet (17 ≤ List.length (txc g t)) (.agg (List.take 17 (List.drop 0 (txc g t)))) ⟨[.agg (txc g t), .ptr 0 0, (B6 false), .ptr 1 0, .ptr 0 0, .agg [(I6 (t.p)), (I6 (t.s))], .ptr 1 0, (I6 (t.p)), (B6 true), (B6 true), .ptr 1 1, (I6 (t.s)), (B6 true), (B6 true), (B6 true), .ptr 1 1, (I6 (t.s)), (B6 true), (B6 true), (B6 true), .ptr 0 16, .sl (opsc t.ops) (List.length t.ops) .any, (I6 (↑(List.length t.ops) : Int)), (B6 true), (B6 true), (B6 true), .agg (List.take 17 (List.drop 0 (txc g t)))] ++ UU 12, [⟨txc g t, 17, .fresh⟩, ⟨[(I6 (t.p)), (I6 (t.s))], 2, .fresh⟩]⟩ (by intro ext; kernel_rfl) ⟨by kernel_rfl, by kernel_rfl⟩ (by simp) ?_
          rw [List.drop_zero]
          rw [Go.Ops.tx_take (g) (t)]
          refine DerX.callD (r_rest g t) ⟨[.agg (txc g t), .ptr 0 0, (B6 false), .ptr 1 0, .ptr 0 0, .agg [(I6 (t.p)), (I6 (t.s))], .ptr 1 0, (I6 (t.p)), (B6 true), (B6 true), .ptr 1 1, (I6 (t.s)), (B6 true), (B6 true), (B6 true), .ptr 1 1, (I6 (t.s)), (B6 true), (B6 true), (B6 true), .ptr 0 16, .sl (opsc t.ops) (List.length t.ops) .any, (I6 (↑(List.length t.ops) : Int)), (B6 true), (B6 true), (B6 true), .agg (txc g t), (B6 (decide (restP t)))] ++ UU 11, [⟨txc g t, 17, .fresh⟩, ⟨[(I6 (t.p)), (I6 (t.s))], 2, .fresh⟩]⟩ ⟨by kernel_rfl, by kernel_rfl, by kernel_rfl⟩ ?_
          refine DerX.pre 2 (TT 2) [(B6 (decide (restP t))), (B6 (decide (restP t)))] ⟨[.agg (txc g t), .ptr 0 0, (B6 false), .ptr 1 0, .ptr 0 0, .agg [(I6 (t.p)), (I6 (t.s))], .ptr 1 0, (I6 (t.p)), (B6 true), (B6 true), .ptr 1 1, (I6 (t.s)), (B6 true), (B6 true), (B6 true), .ptr 1 1, (I6 (t.s)), (B6 true), (B6 true), (B6 true), .ptr 0 16, .sl (opsc t.ops) (List.length t.ops) .any, (I6 (↑(List.length t.ops) : Int)), (B6 true), (B6 true), (B6 true), .agg (txc g t), (B6 (decide (restP t))), (B6 (decide (restP t))), (B6 (decide (restP t)))] ++ UU 9, [⟨txc g t, 17, .fresh⟩, ⟨[(I6 (t.p)), (I6 (t.s))], 2, .fresh⟩]⟩ (by intro ext; kernel_rfl) (by kernel_rfl) (tt 2) ?_
          cases h5 : (decide (restP t))
          · have h5' := of_decide_eq_false h5
            refine DerX.pre 10 (TT 2) [(B6 false), (B6 false)] ⟨[.agg (txc g t), .ptr 0 0, (B6 false), .ptr 1 0, .ptr 0 0, .agg [(I6 (t.p)), (I6 (t.s))], .ptr 1 0, (I6 (t.p)), (B6 true), (B6 true), .ptr 1 1, (I6 (t.s)), (B6 true), (B6 true), (B6 true), .ptr 1 1, (I6 (t.s)), (B6 true), (B6 true), (B6 true), .ptr 0 16, .sl (opsc t.ops) (List.length t.ops) .any, (I6 (↑(List.length t.ops) : Int)), (B6 true), (B6 true), (B6 true), .agg (txc g t), (B6 false), (B6 false), (B6 false), .tup [], .tup [], .tup [], .tup [], .tup [], .tup [], .tup [], .tup [], (B6 false)], [⟨txc g t, 17, .fresh⟩, ⟨[(I6 (t.p)), (I6 (t.s))], 2, .fresh⟩]⟩ (by intro ext; kernel_rfl) (by kernel_rfl) (tt 2) ?_
            refine DerX.nil ?_
            refine AWP.ret ?_
            refine EvF.fin (.sc (.bool false)) _ (by simp) (by kernel_rfl) ?_
            refine Shrink.all ?_ rfl
            (congr 2; rw [Bool.eq_iff_iff]; simp [ctxP, *] <;> omega; done)
          · have h5' := of_decide_eq_true h5
            refine DerX.pre 7 ((True) ∧ ((0 < List.length [(I6 t.p), (I6 t.s)]) ∧ ((True) ∧ (((0 ≤ t.p) ∧ (t.p < 13)) ∧ ((2 + Int.toNat t.p * 1 < List.length (txc g t)) ∧ ((True) ∧ ((1 < List.length [(I6 t.p), (I6 t.s)]) ∧ (True)))))))) [.ptr 1 0, (I6 (t.p)), .ptr 0 2, .ptr 0 (2 + Int.toNat t.p * 1), List.getD (txc g t) (2 + Int.toNat t.p * 1) U6, .ptr 1 1, (I6 (t.s))] ⟨[.agg (txc g t), .ptr 0 0, (B6 false), .ptr 1 0, .ptr 0 0, .agg [(I6 (t.p)), (I6 (t.s))], .ptr 1 0, (I6 (t.p)), (B6 true), (B6 true), .ptr 1 1, (I6 (t.s)), (B6 true), (B6 true), (B6 true), .ptr 1 1, (I6 (t.s)), (B6 true), (B6 true), (B6 true), .ptr 0 16, .sl (opsc t.ops) (List.length t.ops) .any, (I6 (↑(List.length t.ops) : Int)), (B6 true), (B6 true), (B6 true), .agg (txc g t), (B6 true), (B6 true), (B6 true), .ptr 1 0, (I6 (t.p)), .ptr 0 2, .ptr 0 (2 + Int.toNat t.p * 1), List.getD (txc g t) (2 + Int.toNat t.p * 1) U6, .ptr 1 1, (I6 (t.s)), U6, .undef], [⟨txc g t, 17, .fresh⟩, ⟨[(I6 (t.p)), (I6 (t.s))], 2, .fresh⟩]⟩ (by intro ext; kernel_rfl) (by kernel_rfl) ⟨trivial, ⟨(by simp), ⟨trivial, ⟨⟨(by omega), (by omega)⟩, ⟨(by (simp [spliceA_length] <;> omega)), ⟨trivial, ⟨(by simp), trivial⟩⟩⟩⟩⟩⟩⟩ ?_
            rw [Nat.mul_one (Int.toNat t.p)]
            rw [Go.Ops.tx_v (g) (t) (Int.toNat t.p) (by omega)]
            refine DerX.pre 3 (TT 3) [(B6 (decide (t.v (Int.toNat t.p) < t.s))), (B6 (decide (t.v (Int.toNat t.p) < t.s))), (B6 (decide (t.v (Int.toNat t.p) < t.s)))] ⟨[.agg (txc g t), .ptr 0 0, (B6 (decide (t.v (Int.toNat t.p) < t.s))), .ptr 1 0, .ptr 0 0, .agg [(I6 (t.p)), (I6 (t.s))], .ptr 1 0, (I6 (t.p)), (B6 true), (B6 true), .ptr 1 1, (I6 (t.s)), (B6 true), (B6 true), (B6 true), .ptr 1 1, (I6 (t.s)), (B6 true), (B6 true), (B6 true), .ptr 0 16, .sl (opsc t.ops) (List.length t.ops) .any, (I6 (↑(List.length t.ops) : Int)), (B6 true), (B6 true), (B6 true), .agg (txc g t), (B6 true), (B6 true), (B6 true), .ptr 1 0, (I6 (t.p)), .ptr 0 2, .ptr 0 (2 + Int.toNat t.p), (I6 (t.v (Int.toNat t.p))), .ptr 1 1, (I6 (t.s)), (B6 (decide (t.v (Int.toNat t.p) < t.s))), (B6 (decide (t.v (Int.toNat t.p) < t.s)))], [⟨txc g t, 17, .fresh⟩, ⟨[(I6 (t.p)), (I6 (t.s))], 2, .fresh⟩]⟩ (by intro ext; kernel_rfl) (by kernel_rfl) (tt 3) ?_
            refine DerX.nil ?_
            refine AWP.ret ?_
            refine EvF.fin (.sc (.bool (decide (t.v (Int.toNat t.p) < t.s)))) _ (by simp) (by kernel_rfl) ?_
            refine Shrink.all ?_ rfl
            (congr 2; rw [Bool.eq_iff_iff]; simp [ctxP, *] <;> omega; done)
def copP (t : TxD) : Prop := t.p = 0 ∧ t.s = 0 ∧ restP t
instance (t : TxD) : Decidable (copP t) := by unfold copP; infer_instance
theorem o_cop (g : Gate) (t : TxD) : EvD Try.prog 25 [.agg (txc g t)] (.sc (.bool (decide (copP t)))) := by
  refine EvD.body Try.func25 rfl (by simp [dataAll, AVal.data]) rfl ?_
  refine AWP.seq ?_
  refine AWP.reg ?_
  refine DerQ.run (TT 2) ⟨[.agg (txc g t), .ptr 0 0, (B6 false)] ++ UU 8, [⟨txc g t, 17, .fresh⟩]⟩ (by kernel_rfl) (tt 2) ?_
  refine AWP.seq ?_
  refine AWP.reg ?_
  refine DerQ.pre 3 ((True) ∧ ((2 ≤ List.length (txc g t)) ∧ ((True) ∧ (True)))) ⟨[.agg (txc g t), .ptr 0 0, (B6 false), .ptr 0 0, .agg (List.take 2 (List.drop 0 (txc g t))), .agg [(I6 0), (I6 0)]] ++ UU 5, [⟨txc g t, 17, .fresh⟩]⟩ (by kernel_rfl) ⟨trivial, ⟨(by simp), ⟨trivial, trivial⟩⟩⟩ ?_
  rw [List.drop_zero]
  rw [Go.Ops.tx_dot (g) (t)]
  refine DerQ.pre 2 ((((0 < List.length [(I6 t.p), (I6 t.s)]) ∧ (((0 : Nat) < (2 : Nat)) ∧ (True))) ∧ ((1 < List.length [(I6 t.p), (I6 t.s)]) ∧ (((1 : Nat) < (2 : Nat)) ∧ (True)))) ∧ ((True) ∧ (True))) ⟨[.agg (txc g t), .ptr 0 0, (B6 false), .ptr 0 0, .agg [(I6 (t.p)), (I6 (t.s))], .agg [(I6 0), (I6 0)], (B6 (t.p == 0 && t.s == 0)), (B6 (t.p == 0 && t.s == 0)), U6, U6, .undef], [⟨txc g t, 17, .fresh⟩]⟩ (by kernel_rfl) ⟨⟨⟨(by simp), ⟨(by omega), trivial⟩⟩, ⟨(by simp), ⟨(by omega), trivial⟩⟩⟩, ⟨trivial, trivial⟩⟩ ?_
  cases h1 : (t.p == 0 && t.s == 0)
  · have h1' := h1
    simp only [Bool.and_eq_true, Bool.and_eq_false_iff, Bool.or_eq_true, Bool.or_eq_false_iff, Bool.not_eq_true', Bool.not_eq_false', beq_iff_eq, beq_eq_false_iff_ne, decide_eq_true_eq, decide_eq_false_iff_not, ne_eq] at h1'
    refine DerQ.run (TT 2) ⟨[.agg (txc g t), .ptr 0 0, (B6 false), .ptr 0 0, .agg [(I6 (t.p)), (I6 (t.s))], .agg [(I6 0), (I6 0)], (B6 false), (B6 false), .tup [], .tup [], (B6 false)], [⟨txc g t, 17, .fresh⟩]⟩ (by kernel_rfl) (tt 2) ?_
    refine AWP.ret ?_
    refine EvF.fin (.sc (.bool false)) _ (by simp) (by kernel_rfl) ?_
    refine Shrink.all ?_ rfl
    (congr 2; grind [copP]; done)
  · have h1' := h1
    simp only [Bool.and_eq_true, Bool.and_eq_false_iff, Bool.or_eq_true, Bool.or_eq_false_iff, Bool.not_eq_true', Bool.not_eq_false', beq_iff_eq, beq_eq_false_iff_ne, decide_eq_true_eq, decide_eq_false_iff_not, ne_eq] at h1'
    refine DerQ.pre 1 ((17 ≤ List.length (txc g t)) ∧ (True)) ⟨[.agg (txc g t), .ptr 0 0, (B6 false), .ptr 0 0, .agg [(I6 (t.p)), (I6 (t.s))], .agg [(I6 0), (I6 0)], (B6 true), (B6 true), .agg (List.take 17 (List.drop 0 (txc g t))), U6, .undef], [⟨txc g t, 17, .fresh⟩]⟩ (by kernel_rfl) ⟨(by simp), trivial⟩ ?_
    rw [List.drop_zero]
    rw [Go.Ops.tx_take (g) (t)]
    refine DerQ.callD (o_rest g t) ⟨[.agg (txc g t), .ptr 0 0, (B6 false), .ptr 0 0, .agg [(I6 (t.p)), (I6 (t.s))], .agg [(I6 0), (I6 0)], (B6 true), (B6 true), .agg (txc g t), (B6 (decide (restP t))), .undef], [⟨txc g t, 17, .fresh⟩]⟩ ⟨by kernel_rfl, by kernel_rfl, by kernel_rfl⟩ ?_
    refine DerQ.run (TT 2) ⟨[.agg (txc g t), .ptr 0 0, (B6 (decide (restP t))), .ptr 0 0, .agg [(I6 (t.p)), (I6 (t.s))], .agg [(I6 0), (I6 0)], (B6 true), (B6 true), .agg (txc g t), (B6 (decide (restP t))), (B6 (decide (restP t)))], [⟨txc g t, 17, .fresh⟩]⟩ (by kernel_rfl) (tt 2) ?_
    refine AWP.ret ?_
    refine EvF.fin (.sc (.bool (decide (restP t)))) _ (by simp) (by kernel_rfl) ?_
    refine Shrink.all ?_ rfl
    (congr 2; rw [Bool.eq_iff_iff]; simp [copP, *] <;> omega; done)
theorem r_cop (g : Gate) (t : TxD) : EvD Try.prog 26 [.agg (txc g t)] (.sc (.bool (decide (copP t)))) := by
  refine EvD.body Try.func26 rfl (by simp [dataAll, AVal.data]) rfl ?_
  refine AWP.seq ?_
  refine AWP.reg ?_
  refine DerQ.run (TT 2) ⟨[.agg (txc g t), .ptr 0 0, (B6 false)] ++ UU 10, [⟨txc g t, 17, .fresh⟩]⟩ (by kernel_rfl) (tt 2) ?_
  refine AWP.seq ?_
  refine AWP.reg ?_
  refine DerQ.run ((True) ∧ ((True) ∧ (((2 : Nat) ≤ (2 : Nat)) ∧ (True)))) ⟨[.agg (txc g t), .ptr 0 0, (B6 false), .ptr 1 0, .agg [(I6 0), (I6 0)]] ++ UU 8, [⟨txc g t, 17, .fresh⟩, ⟨[(I6 0), (I6 0)], 2, .fresh⟩]⟩ (by kernel_rfl) ⟨trivial, ⟨trivial, ⟨(by omega), trivial⟩⟩⟩ ?_
  refine AWP.seq ?_
  refine AWP.reg ?_
  refine DerQ.pre 3 ((True) ∧ ((2 ≤ List.length (txc g t)) ∧ (((2 : Nat) ≤ (2 : Nat)) ∧ (True)))) ⟨[.agg (txc g t), .ptr 0 0, (B6 false), .ptr 1 0, .agg [(I6 0), (I6 0)], .ptr 0 0, .agg (List.take 2 (List.drop 0 (txc g t))), .agg [(I6 0), (I6 0)]] ++ UU 5, [⟨txc g t, 17, .fresh⟩, ⟨[(I6 0), (I6 0)], 2, .fresh⟩]⟩ (by kernel_rfl) ⟨trivial, ⟨(by simp), ⟨(by omega), trivial⟩⟩⟩ ?_
  rw [List.drop_zero]
  rw [Go.Ops.tx_dot (g) (t)]
  refine DerQ.pre 2 ((((0 < List.length [(I6 t.p), (I6 t.s)]) ∧ (((0 : Nat) < (2 : Nat)) ∧ (True))) ∧ ((1 < List.length [(I6 t.p), (I6 t.s)]) ∧ (((1 : Nat) < (2 : Nat)) ∧ (True)))) ∧ ((True) ∧ (True))) ⟨[.agg (txc g t), .ptr 0 0, (B6 false), .ptr 1 0, .agg [(I6 0), (I6 0)], .ptr 0 0, .agg [(I6 (t.p)), (I6 (t.s))], .agg [(I6 0), (I6 0)], (B6 (t.p == 0 && t.s == 0)), (B6 (t.p == 0 && t.s == 0)), U6, U6, .undef], [⟨txc g t, 17, .fresh⟩, ⟨[(I6 0), (I6 0)], 2, .fresh⟩]⟩ (by kernel_rfl) ⟨⟨⟨(by simp), ⟨(by omega), trivial⟩⟩, ⟨(by simp), ⟨(by omega), trivial⟩⟩⟩, ⟨trivial, trivial⟩⟩ ?_
  cases h1 : (t.p == 0 && t.s == 0)
  · have h1' := h1
    simp only [Bool.and_eq_true, Bool.and_eq_false_iff, Bool.or_eq_true, Bool.or_eq_false_iff, Bool.not_eq_true', Bool.not_eq_false', beq_iff_eq, beq_eq_false_iff_ne, decide_eq_true_eq, decide_eq_false_iff_not, ne_eq] at h1'
    refine DerQ.run (TT 2) ⟨[.agg (txc g t), .ptr 0 0, (B6 false), .ptr 1 0, .agg [(I6 0), (I6 0)], .ptr 0 0, .agg [(I6 (t.p)), (I6 (t.s))], .agg [(I6 0), (I6 0)], (B6 false), (B6 false), .tup [], .tup [], (B6 false)], [⟨txc g t, 17, .fresh⟩, ⟨[(I6 0), (I6 0)], 2, .fresh⟩]⟩ (by kernel_rfl) (tt 2) ?_
    refine AWP.ret ?_
    refine EvF.fin (.sc (.bool false)) _ (by simp) (by kernel_rfl) ?_
    refine Shrink.all ?_ rfl
    (congr 2; grind [copP]; done)
  · have h1' := h1
    simp only [Bool.and_eq_true, Bool.and_eq_false_iff, Bool.or_eq_true, Bool.or_eq_false_iff, Bool.not_eq_true', Bool.not_eq_false', beq_iff_eq, beq_eq_false_iff_ne, decide_eq_true_eq, decide_eq_false_iff_not, ne_eq] at h1'
    refine DerQ.pre 1 ((17 ≤ List.length (txc g t)) ∧ (True)) ⟨[.agg (txc g t), .ptr 0 0, (B6 false), .ptr 1 0, .agg [(I6 0), (I6 0)], .ptr 0 0, .agg [(I6 (t.p)), (I6 (t.s))], .agg [(I6 0), (I6 0)], (B6 true), (B6 true), .agg (List.take 17 (List.drop 0 (txc g t))), U6, .undef], [⟨txc g t, 17, .fresh⟩, ⟨[(I6 0), (I6 0)], 2, .fresh⟩]⟩ (by kernel_rfl) ⟨(by simp), trivial⟩ ?_
    rw [List.drop_zero]
    rw [Go.Ops.tx_take (g) (t)]
    refine DerQ.callD (r_rest g t) ⟨[.agg (txc g t), .ptr 0 0, (B6 false), .ptr 1 0, .agg [(I6 0), (I6 0)], .ptr 0 0, .agg [(I6 (t.p)), (I6 (t.s))], .agg [(I6 0), (I6 0)], (B6 true), (B6 true), .agg (txc g t), (B6 (decide (restP t))), .undef], [⟨txc g t, 17, .fresh⟩, ⟨[(I6 0), (I6 0)], 2, .fresh⟩]⟩ ⟨by kernel_rfl, by kernel_rfl, by kernel_rfl⟩ ?_
    refine DerQ.run (TT 2) ⟨[.agg (txc g t), .ptr 0 0, (B6 (decide (restP t))), .ptr 1 0, .agg [(I6 0), (I6 0)], .ptr 0 0, .agg [(I6 (t.p)), (I6 (t.s))], .agg [(I6 0), (I6 0)], (B6 true), (B6 true), .agg (txc g t), (B6 (decide (restP t))), (B6 (decide (restP t)))], [⟨txc g t, 17, .fresh⟩, ⟨[(I6 0), (I6 0)], 2, .fresh⟩]⟩ (by kernel_rfl) (tt 2) ?_
    refine AWP.ret ?_
    refine EvF.fin (.sc (.bool (decide (restP t)))) _ (by simp) (by kernel_rfl) ?_
    refine Shrink.all ?_ rfl
    (congr 2; rw [Bool.eq_iff_iff]; simp [copP, *] <;> omega; done)
end Go.Ops
