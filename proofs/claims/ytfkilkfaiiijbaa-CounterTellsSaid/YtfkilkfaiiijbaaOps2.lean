/- Walks and laws. -/
import Derived.Test.YtfkilkfaiiijbaaOps1
import Derived.Test.YtfkilkfaiiijbaaLibC
set_option maxRecDepth 100000
set_option maxHeartbeats 0
set_option linter.unusedSimpArgs false
set_option linter.unusedVariables false
namespace Go.Ops
open Go Go.Abs Go.Proofs
theorem v_peer (p : Int) : EvD Try.prog 94 [.sc (.int .i64 p)] (.sc (.bool (decide (1 ≤ p ∧ p ≤ 12)))) := by
  refine EvD.body Try.func94 rfl rfl rfl ?_
  refine SQ ?_
  refine DerQ.run (True ∧ True) ⟨[(I6 p), U6, (B6 false)] ++ UU 6, []⟩ (by kernel_rfl) ⟨trivial, trivial⟩ ?_
  refine SQ ?_
  refine DerQ.pre 3 (TT 3) ⟨[(I6 p), U6, (B6 false), (I6 p), (B6 (decide (p ≥ 1))), (B6 (decide (p ≥ 1))), U6, U6, .undef], []⟩ (by kernel_rfl) (tt 3) ?_
  cases h1 : (decide (p ≥ 1))
  · have h1' := of_decide_eq_false h1
    refine DerQ.run (TT 2) ⟨[(I6 p), U6, (B6 false), (I6 p), (B6 false), (B6 false), .tup [], .tup [], (B6 false)], []⟩ (by kernel_rfl) (tt 2) ?_
    refine AWP.ret ?_
    refine FI (B6 false) ?_
    refine Shrink.all ?_ rfl
    ((first | refine congrArg B6 ?_ | refine congrArg I6 ?_ | congr 2); rw [Bool.eq_iff_iff]; simp only [decide_eq_true_eq, Bool.false_eq_true, false_iff, true_iff, Bool.and_eq_true, Bool.or_eq_true, Bool.not_eq_true', Bool.not_eq_true, Bool.not_eq_false', decide_eq_false_iff_not, iff_true, iff_false, beq_iff_eq, beq_eq_false_iff_ne, ge_iff_le, gt_iff_lt, ne_eq, bne_iff_ne, not_true_eq_false, not_false_eq_true] at *; omega; done)
  · have h1' := of_decide_eq_true h1
    refine DerQ.run (TT 4) ⟨[(I6 p), U6, (B6 (decide (p ≤ 12))), (I6 p), (B6 true), (B6 true), (I6 p), (B6 (decide (p ≤ 12))), (B6 (decide (p ≤ 12)))], []⟩ (by kernel_rfl) (tt 4) ?_
    refine AWP.ret ?_
    refine FI (B6 (decide (p ≤ 12))) ?_
    refine Shrink.all ?_ rfl
    ((first | refine congrArg B6 ?_ | refine congrArg I6 ?_ | congr 2); rw [Bool.eq_iff_iff]; simp only [decide_eq_true_eq, Bool.false_eq_true, false_iff, true_iff, Bool.and_eq_true, Bool.or_eq_true, Bool.not_eq_true', Bool.not_eq_true, Bool.not_eq_false', decide_eq_false_iff_not, iff_true, iff_false, beq_iff_eq, beq_eq_false_iff_ne, ge_iff_le, gt_iff_lt, ne_eq, bne_iff_ne, not_true_eq_false, not_false_eq_true] at *; omega; done)
theorem r_peer (p : Int) : EvD Try.prog 55 [.sc (.int .i64 p)] (.sc (.bool (decide (1 ≤ p ∧ p ≤ 12)))) := by
  refine EvD.body Try.func55 rfl rfl rfl ?_
  refine SQ ?_
  refine DerQ.run (True ∧ True) ⟨[(I6 p), U6, (B6 false)] ++ UU 6, []⟩ (by kernel_rfl) ⟨trivial, trivial⟩ ?_
  refine SQ ?_
  refine DerQ.pre 3 (TT 3) ⟨[(I6 p), U6, (B6 false), (I6 p), (B6 (decide (p ≥ 1))), (B6 (decide (p ≥ 1))), U6, U6, .undef], []⟩ (by kernel_rfl) (tt 3) ?_
  cases h1 : (decide (p ≥ 1))
  · have h1' := of_decide_eq_false h1
    refine DerQ.run (TT 2) ⟨[(I6 p), U6, (B6 false), (I6 p), (B6 false), (B6 false), .tup [], .tup [], (B6 false)], []⟩ (by kernel_rfl) (tt 2) ?_
    refine AWP.ret ?_
    refine FI (B6 false) ?_
    refine Shrink.all ?_ rfl
    ((first | refine congrArg B6 ?_ | refine congrArg I6 ?_ | congr 2); rw [Bool.eq_iff_iff]; simp only [decide_eq_true_eq, Bool.false_eq_true, false_iff, true_iff, Bool.and_eq_true, Bool.or_eq_true, Bool.not_eq_true', Bool.not_eq_true, Bool.not_eq_false', decide_eq_false_iff_not, iff_true, iff_false, beq_iff_eq, beq_eq_false_iff_ne, ge_iff_le, gt_iff_lt, ne_eq, bne_iff_ne, not_true_eq_false, not_false_eq_true] at *; omega; done)
  · have h1' := of_decide_eq_true h1
    refine DerQ.run (TT 4) ⟨[(I6 p), U6, (B6 (decide (p ≤ 12))), (I6 p), (B6 true), (B6 true), (I6 p), (B6 (decide (p ≤ 12))), (B6 (decide (p ≤ 12)))], []⟩ (by kernel_rfl) (tt 4) ?_
    refine AWP.ret ?_
    refine FI (B6 (decide (p ≤ 12))) ?_
    refine Shrink.all ?_ rfl
    ((first | refine congrArg B6 ?_ | refine congrArg I6 ?_ | congr 2); rw [Bool.eq_iff_iff]; simp only [decide_eq_true_eq, Bool.false_eq_true, false_iff, true_iff, Bool.and_eq_true, Bool.or_eq_true, Bool.not_eq_true', Bool.not_eq_true, Bool.not_eq_false', decide_eq_false_iff_not, iff_true, iff_false, beq_iff_eq, beq_eq_false_iff_ne, ge_iff_le, gt_iff_lt, ne_eq, bne_iff_ne, not_true_eq_false, not_false_eq_true] at *; omega; done)
def hasP (v : Nat → Int) (p s : Int) : Prop := (1 ≤ p ∧ p ≤ 12) ∧ 1 ≤ s ∧ s ≤ v p.toNat
instance (v : Nat → Int) (p s : Int) : Decidable (hasP v p s) := by unfold hasP; infer_instance
def hasB (v : Nat → Int) (p s : Int) : Bool := decide (hasP v p s)
theorem v_has (g : Gate) (v : Nat → Int) (p s : Int) : EvD Try.prog 57 [.agg (vecc g v), .agg [.sc (.int .i64 p), .sc (.int .i64 s)]] (.sc (.bool (hasB v p s))) := by
  refine EvD.body Try.func57 rfl (by simp [dataAll, AVal.data]) rfl ?_
  refine SQ ?_
  refine DerQ.run (TT 3) ⟨[.agg (vecc g v), .agg [(I6 p), (I6 s)], .ptr 0 0, .ptr 1 0, (B6 false)] ++ UU 17, [⟨vecc g v, 1, .fresh⟩, ⟨[(I6 p), (I6 s)], 2, .fresh⟩]⟩ (by kernel_rfl) (tt 3) ?_
  refine AWP.seq ?_
  refine AWP.drawX mixed (fun o => [7].contains (o.dst.getD 0)) (by kernel_rfl) ?_
  refine DerX.quiet (True) (.ptr 1 0) ⟨[.agg (vecc g v), .agg [(I6 p), (I6 s)], .ptr 0 0, .ptr 1 0, (B6 false), .ptr 1 0] ++ UU 16, [⟨vecc g v, 1, .fresh⟩, ⟨[(I6 p), (I6 s)], 2, .fresh⟩]⟩ (by intro ext; kernel_rfl) ⟨by kernel_rfl, by kernel_rfl⟩ trivial ?_
  refine DerX.quiet (0 < List.length [(I6 p), (I6 s)]) (I6 p) ⟨[.agg (vecc g v), .agg [(I6 p), (I6 s)], .ptr 0 0, .ptr 1 0, (B6 false), .ptr 1 0, (I6 p)] ++ UU 15, [⟨vecc g v, 1, .fresh⟩, ⟨[(I6 p), (I6 s)], 2, .fresh⟩]⟩ (by intro ext; kernel_rfl) ⟨by kernel_rfl, by kernel_rfl⟩ (by simp) ?_
  refine DerX.callD (v_peer p) ⟨[.agg (vecc g v), .agg [(I6 p), (I6 s)], .ptr 0 0, .ptr 1 0, (B6 false), .ptr 1 0, (I6 p), (B6 (decide (1 ≤ p ∧ p ≤ 12)))] ++ UU 14, [⟨vecc g v, 1, .fresh⟩, ⟨[(I6 p), (I6 s)], 2, .fresh⟩]⟩ ⟨by kernel_rfl, by kernel_rfl, by kernel_rfl⟩ ?_
  refine DerX.quiet (True) (B6 (decide (1 ≤ p ∧ p ≤ 12))) ⟨[.agg (vecc g v), .agg [(I6 p), (I6 s)], .ptr 0 0, .ptr 1 0, (B6 false), .ptr 1 0, (I6 p), (B6 (decide (1 ≤ p ∧ p ≤ 12))), (B6 (decide (1 ≤ p ∧ p ≤ 12)))] ++ UU 13, [⟨vecc g v, 1, .fresh⟩, ⟨[(I6 p), (I6 s)], 2, .fresh⟩]⟩ (by intro ext; kernel_rfl) ⟨by kernel_rfl, by kernel_rfl⟩ trivial ?_
  cases h1 : (decide (1 ≤ p ∧ p ≤ 12))
  · have h1' := of_decide_eq_false h1
    refine DerX.skip ⟨[.agg (vecc g v), .agg [(I6 p), (I6 s)], .ptr 0 0, .ptr 1 0, (B6 false), .ptr 1 0, (I6 p), (B6 false), (B6 false), .tup []] ++ UU 12, [⟨vecc g v, 1, .fresh⟩, ⟨[(I6 p), (I6 s)], 2, .fresh⟩]⟩ ⟨by kernel_rfl, by kernel_rfl⟩ ?_
    refine DerX.skip ⟨[.agg (vecc g v), .agg [(I6 p), (I6 s)], .ptr 0 0, .ptr 1 0, (B6 false), .ptr 1 0, (I6 p), (B6 false), (B6 false), .tup [], .tup []] ++ UU 11, [⟨vecc g v, 1, .fresh⟩, ⟨[(I6 p), (I6 s)], 2, .fresh⟩]⟩ ⟨by kernel_rfl, by kernel_rfl⟩ ?_
    refine DerX.skip ⟨[.agg (vecc g v), .agg [(I6 p), (I6 s)], .ptr 0 0, .ptr 1 0, (B6 false), .ptr 1 0, (I6 p), (B6 false), (B6 false), .tup [], .tup [], .tup []] ++ UU 10, [⟨vecc g v, 1, .fresh⟩, ⟨[(I6 p), (I6 s)], 2, .fresh⟩]⟩ ⟨by kernel_rfl, by kernel_rfl⟩ ?_
    refine DerX.quiet (True) (B6 false) ⟨[.agg (vecc g v), .agg [(I6 p), (I6 s)], .ptr 0 0, .ptr 1 0, (B6 false), .ptr 1 0, (I6 p), (B6 false), (B6 false), .tup [], .tup [], .tup [], (B6 false)] ++ UU 9, [⟨vecc g v, 1, .fresh⟩, ⟨[(I6 p), (I6 s)], 2, .fresh⟩]⟩ (by intro ext; kernel_rfl) ⟨by kernel_rfl, by kernel_rfl⟩ trivial ?_
    refine DerX.quiet (True) (B6 false) ⟨[.agg (vecc g v), .agg [(I6 p), (I6 s)], .ptr 0 0, .ptr 1 0, (B6 false), .ptr 1 0, (I6 p), (B6 false), (B6 false), .tup [], .tup [], .tup [], (B6 false), (B6 false)] ++ UU 8, [⟨vecc g v, 1, .fresh⟩, ⟨[(I6 p), (I6 s)], 2, .fresh⟩]⟩ (by intro ext; kernel_rfl) ⟨by kernel_rfl, by kernel_rfl⟩ trivial ?_
    refine DerX.skip ⟨[.agg (vecc g v), .agg [(I6 p), (I6 s)], .ptr 0 0, .ptr 1 0, (B6 false), .ptr 1 0, (I6 p), (B6 false), (B6 false), .tup [], .tup [], .tup [], (B6 false), (B6 false), .tup []] ++ UU 7, [⟨vecc g v, 1, .fresh⟩, ⟨[(I6 p), (I6 s)], 2, .fresh⟩]⟩ ⟨by kernel_rfl, by kernel_rfl⟩ ?_
    refine DerX.skip ⟨[.agg (vecc g v), .agg [(I6 p), (I6 s)], .ptr 0 0, .ptr 1 0, (B6 false), .ptr 1 0, (I6 p), (B6 false), (B6 false), .tup [], .tup [], .tup [], (B6 false), (B6 false), .tup [], .tup []] ++ UU 6, [⟨vecc g v, 1, .fresh⟩, ⟨[(I6 p), (I6 s)], 2, .fresh⟩]⟩ ⟨by kernel_rfl, by kernel_rfl⟩ ?_
    refine DerX.skip ⟨[.agg (vecc g v), .agg [(I6 p), (I6 s)], .ptr 0 0, .ptr 1 0, (B6 false), .ptr 1 0, (I6 p), (B6 false), (B6 false), .tup [], .tup [], .tup [], (B6 false), (B6 false), .tup [], .tup [], .tup []] ++ UU 5, [⟨vecc g v, 1, .fresh⟩, ⟨[(I6 p), (I6 s)], 2, .fresh⟩]⟩ ⟨by kernel_rfl, by kernel_rfl⟩ ?_
    refine DerX.skip ⟨[.agg (vecc g v), .agg [(I6 p), (I6 s)], .ptr 0 0, .ptr 1 0, (B6 false), .ptr 1 0, (I6 p), (B6 false), (B6 false), .tup [], .tup [], .tup [], (B6 false), (B6 false), .tup [], .tup [], .tup [], .tup [], U6, U6, U6, .undef], [⟨vecc g v, 1, .fresh⟩, ⟨[(I6 p), (I6 s)], 2, .fresh⟩]⟩ ⟨by kernel_rfl, by kernel_rfl⟩ ?_
    refine DerX.skip ⟨[.agg (vecc g v), .agg [(I6 p), (I6 s)], .ptr 0 0, .ptr 1 0, (B6 false), .ptr 1 0, (I6 p), (B6 false), (B6 false), .tup [], .tup [], .tup [], (B6 false), (B6 false), .tup [], .tup [], .tup [], .tup [], .tup [], U6, U6, .undef], [⟨vecc g v, 1, .fresh⟩, ⟨[(I6 p), (I6 s)], 2, .fresh⟩]⟩ ⟨by kernel_rfl, by kernel_rfl⟩ ?_
    refine DerX.skip ⟨[.agg (vecc g v), .agg [(I6 p), (I6 s)], .ptr 0 0, .ptr 1 0, (B6 false), .ptr 1 0, (I6 p), (B6 false), (B6 false), .tup [], .tup [], .tup [], (B6 false), (B6 false), .tup [], .tup [], .tup [], .tup [], .tup [], .tup [], U6, .undef], [⟨vecc g v, 1, .fresh⟩, ⟨[(I6 p), (I6 s)], 2, .fresh⟩]⟩ ⟨by kernel_rfl, by kernel_rfl⟩ ?_
    refine DerX.skip ⟨[.agg (vecc g v), .agg [(I6 p), (I6 s)], .ptr 0 0, .ptr 1 0, (B6 false), .ptr 1 0, (I6 p), (B6 false), (B6 false), .tup [], .tup [], .tup [], (B6 false), (B6 false), .tup [], .tup [], .tup [], .tup [], .tup [], .tup [], .tup [], .undef], [⟨vecc g v, 1, .fresh⟩, ⟨[(I6 p), (I6 s)], 2, .fresh⟩]⟩ ⟨by kernel_rfl, by kernel_rfl⟩ ?_
    refine DerX.quiet (True) (B6 false) ⟨[.agg (vecc g v), .agg [(I6 p), (I6 s)], .ptr 0 0, .ptr 1 0, (B6 false), .ptr 1 0, (I6 p), (B6 false), (B6 false), .tup [], .tup [], .tup [], (B6 false), (B6 false), .tup [], .tup [], .tup [], .tup [], .tup [], .tup [], .tup [], (B6 false)], [⟨vecc g v, 1, .fresh⟩, ⟨[(I6 p), (I6 s)], 2, .fresh⟩]⟩ (by intro ext; kernel_rfl) ⟨by kernel_rfl, by kernel_rfl⟩ trivial ?_
    refine DerX.quiet (True) (B6 false) ⟨[.agg (vecc g v), .agg [(I6 p), (I6 s)], .ptr 0 0, .ptr 1 0, (B6 false), .ptr 1 0, (I6 p), (B6 false), (B6 false), .tup [], .tup [], .tup [], (B6 false), (B6 false), .tup [], .tup [], .tup [], .tup [], .tup [], .tup [], .tup [], (B6 false)], [⟨vecc g v, 1, .fresh⟩, ⟨[(I6 p), (I6 s)], 2, .fresh⟩]⟩ (by intro ext; kernel_rfl) ⟨by kernel_rfl, by kernel_rfl⟩ trivial ?_
    refine DerX.nil ?_
    refine AWP.ret ?_
    refine FI (B6 false) ?_
    refine Shrink.all ?_ rfl
    ((first | refine congrArg B6 ?_ | refine congrArg I6 ?_ | congr 2); rw [Bool.eq_iff_iff]; simp [hasB, hasP, *] <;> omega; done)
  · have h1' := of_decide_eq_true h1
    refine DerX.quiet (True) (.ptr 1 1) ⟨[.agg (vecc g v), .agg [(I6 p), (I6 s)], .ptr 0 0, .ptr 1 0, (B6 false), .ptr 1 0, (I6 p), (B6 true), (B6 true), .ptr 1 1] ++ UU 12, [⟨vecc g v, 1, .fresh⟩, ⟨[(I6 p), (I6 s)], 2, .fresh⟩]⟩ (by intro ext; kernel_rfl) ⟨by kernel_rfl, by kernel_rfl⟩ trivial ?_
    refine DerX.quiet (1 < List.length [(I6 p), (I6 s)]) (I6 s) ⟨[.agg (vecc g v), .agg [(I6 p), (I6 s)], .ptr 0 0, .ptr 1 0, (B6 false), .ptr 1 0, (I6 p), (B6 true), (B6 true), .ptr 1 1, (I6 s)] ++ UU 11, [⟨vecc g v, 1, .fresh⟩, ⟨[(I6 p), (I6 s)], 2, .fresh⟩]⟩ (by intro ext; kernel_rfl) ⟨by kernel_rfl, by kernel_rfl⟩ (by simp) ?_
    refine DerX.quiet (True) (B6 (decide (s ≥ 1))) ⟨[.agg (vecc g v), .agg [(I6 p), (I6 s)], .ptr 0 0, .ptr 1 0, (B6 false), .ptr 1 0, (I6 p), (B6 true), (B6 true), .ptr 1 1, (I6 s), (B6 (decide (s ≥ 1)))] ++ UU 10, [⟨vecc g v, 1, .fresh⟩, ⟨[(I6 p), (I6 s)], 2, .fresh⟩]⟩ (by intro ext; kernel_rfl) ⟨by kernel_rfl, by kernel_rfl⟩ trivial ?_
    refine DerX.quiet (True) (B6 (decide (s ≥ 1))) ⟨[.agg (vecc g v), .agg [(I6 p), (I6 s)], .ptr 0 0, .ptr 1 0, (B6 false), .ptr 1 0, (I6 p), (B6 true), (B6 true), .ptr 1 1, (I6 s), (B6 (decide (s ≥ 1))), (B6 (decide (s ≥ 1)))] ++ UU 9, [⟨vecc g v, 1, .fresh⟩, ⟨[(I6 p), (I6 s)], 2, .fresh⟩]⟩ (by intro ext; kernel_rfl) ⟨by kernel_rfl, by kernel_rfl⟩ trivial ?_
    refine DerX.quiet (True) (B6 (decide (s ≥ 1))) ⟨[.agg (vecc g v), .agg [(I6 p), (I6 s)], .ptr 0 0, .ptr 1 0, (B6 false), .ptr 1 0, (I6 p), (B6 true), (B6 true), .ptr 1 1, (I6 s), (B6 (decide (s ≥ 1))), (B6 (decide (s ≥ 1))), (B6 (decide (s ≥ 1)))] ++ UU 8, [⟨vecc g v, 1, .fresh⟩, ⟨[(I6 p), (I6 s)], 2, .fresh⟩]⟩ (by intro ext; kernel_rfl) ⟨by kernel_rfl, by kernel_rfl⟩ trivial ?_
    cases h2 : (decide (s ≥ 1))
    · have h2' := of_decide_eq_false h2
      refine DerX.skip ⟨[.agg (vecc g v), .agg [(I6 p), (I6 s)], .ptr 0 0, .ptr 1 0, (B6 false), .ptr 1 0, (I6 p), (B6 true), (B6 true), .ptr 1 1, (I6 s), (B6 false), (B6 false), (B6 false), .tup []] ++ UU 7, [⟨vecc g v, 1, .fresh⟩, ⟨[(I6 p), (I6 s)], 2, .fresh⟩]⟩ ⟨by kernel_rfl, by kernel_rfl⟩ ?_
      refine DerX.skip ⟨[.agg (vecc g v), .agg [(I6 p), (I6 s)], .ptr 0 0, .ptr 1 0, (B6 false), .ptr 1 0, (I6 p), (B6 true), (B6 true), .ptr 1 1, (I6 s), (B6 false), (B6 false), (B6 false), .tup [], .tup []] ++ UU 6, [⟨vecc g v, 1, .fresh⟩, ⟨[(I6 p), (I6 s)], 2, .fresh⟩]⟩ ⟨by kernel_rfl, by kernel_rfl⟩ ?_
      refine DerX.skip ⟨[.agg (vecc g v), .agg [(I6 p), (I6 s)], .ptr 0 0, .ptr 1 0, (B6 false), .ptr 1 0, (I6 p), (B6 true), (B6 true), .ptr 1 1, (I6 s), (B6 false), (B6 false), (B6 false), .tup [], .tup [], .tup []] ++ UU 5, [⟨vecc g v, 1, .fresh⟩, ⟨[(I6 p), (I6 s)], 2, .fresh⟩]⟩ ⟨by kernel_rfl, by kernel_rfl⟩ ?_
      refine DerX.skip ⟨[.agg (vecc g v), .agg [(I6 p), (I6 s)], .ptr 0 0, .ptr 1 0, (B6 false), .ptr 1 0, (I6 p), (B6 true), (B6 true), .ptr 1 1, (I6 s), (B6 false), (B6 false), (B6 false), .tup [], .tup [], .tup [], .tup [], U6, U6, U6, .undef], [⟨vecc g v, 1, .fresh⟩, ⟨[(I6 p), (I6 s)], 2, .fresh⟩]⟩ ⟨by kernel_rfl, by kernel_rfl⟩ ?_
      refine DerX.skip ⟨[.agg (vecc g v), .agg [(I6 p), (I6 s)], .ptr 0 0, .ptr 1 0, (B6 false), .ptr 1 0, (I6 p), (B6 true), (B6 true), .ptr 1 1, (I6 s), (B6 false), (B6 false), (B6 false), .tup [], .tup [], .tup [], .tup [], .tup [], U6, U6, .undef], [⟨vecc g v, 1, .fresh⟩, ⟨[(I6 p), (I6 s)], 2, .fresh⟩]⟩ ⟨by kernel_rfl, by kernel_rfl⟩ ?_
      refine DerX.skip ⟨[.agg (vecc g v), .agg [(I6 p), (I6 s)], .ptr 0 0, .ptr 1 0, (B6 false), .ptr 1 0, (I6 p), (B6 true), (B6 true), .ptr 1 1, (I6 s), (B6 false), (B6 false), (B6 false), .tup [], .tup [], .tup [], .tup [], .tup [], .tup [], U6, .undef], [⟨vecc g v, 1, .fresh⟩, ⟨[(I6 p), (I6 s)], 2, .fresh⟩]⟩ ⟨by kernel_rfl, by kernel_rfl⟩ ?_
      refine DerX.skip ⟨[.agg (vecc g v), .agg [(I6 p), (I6 s)], .ptr 0 0, .ptr 1 0, (B6 false), .ptr 1 0, (I6 p), (B6 true), (B6 true), .ptr 1 1, (I6 s), (B6 false), (B6 false), (B6 false), .tup [], .tup [], .tup [], .tup [], .tup [], .tup [], .tup [], .undef], [⟨vecc g v, 1, .fresh⟩, ⟨[(I6 p), (I6 s)], 2, .fresh⟩]⟩ ⟨by kernel_rfl, by kernel_rfl⟩ ?_
      refine DerX.quiet (True) (B6 false) ⟨[.agg (vecc g v), .agg [(I6 p), (I6 s)], .ptr 0 0, .ptr 1 0, (B6 false), .ptr 1 0, (I6 p), (B6 true), (B6 true), .ptr 1 1, (I6 s), (B6 false), (B6 false), (B6 false), .tup [], .tup [], .tup [], .tup [], .tup [], .tup [], .tup [], (B6 false)], [⟨vecc g v, 1, .fresh⟩, ⟨[(I6 p), (I6 s)], 2, .fresh⟩]⟩ (by intro ext; kernel_rfl) ⟨by kernel_rfl, by kernel_rfl⟩ trivial ?_
      refine DerX.quiet (True) (B6 false) ⟨[.agg (vecc g v), .agg [(I6 p), (I6 s)], .ptr 0 0, .ptr 1 0, (B6 false), .ptr 1 0, (I6 p), (B6 true), (B6 true), .ptr 1 1, (I6 s), (B6 false), (B6 false), (B6 false), .tup [], .tup [], .tup [], .tup [], .tup [], .tup [], .tup [], (B6 false)], [⟨vecc g v, 1, .fresh⟩, ⟨[(I6 p), (I6 s)], 2, .fresh⟩]⟩ (by intro ext; kernel_rfl) ⟨by kernel_rfl, by kernel_rfl⟩ trivial ?_
      refine DerX.nil ?_
      refine AWP.ret ?_
      refine FI (B6 false) ?_
      refine Shrink.all ?_ rfl
      ((first | refine congrArg B6 ?_ | refine congrArg I6 ?_ | congr 2); rw [Bool.eq_iff_iff]; simp [hasB, hasP, *] <;> omega; done)
    · have h2' := of_decide_eq_true h2
      refine DerX.quiet (True) (.ptr 1 0) ⟨[.agg (vecc g v), .agg [(I6 p), (I6 s)], .ptr 0 0, .ptr 1 0, (B6 false), .ptr 1 0, (I6 p), (B6 true), (B6 true), .ptr 1 1, (I6 s), (B6 true), (B6 true), (B6 true), .ptr 1 0] ++ UU 7, [⟨vecc g v, 1, .fresh⟩, ⟨[(I6 p), (I6 s)], 2, .fresh⟩]⟩ (by intro ext; kernel_rfl) ⟨by kernel_rfl, by kernel_rfl⟩ trivial ?_
      refine DerX.quiet (0 < List.length [(I6 p), (I6 s)]) (I6 p) ⟨[.agg (vecc g v), .agg [(I6 p), (I6 s)], .ptr 0 0, .ptr 1 0, (B6 false), .ptr 1 0, (I6 p), (B6 true), (B6 true), .ptr 1 1, (I6 s), (B6 true), (B6 true), (B6 true), .ptr 1 0, (I6 p)] ++ UU 6, [⟨vecc g v, 1, .fresh⟩, ⟨[(I6 p), (I6 s)], 2, .fresh⟩]⟩ (by intro ext; kernel_rfl) ⟨by kernel_rfl, by kernel_rfl⟩ (by simp) ?_
      refine DerX.quiet ((0 ≤ p) ∧ (p < 13)) (.ptr 0 (0 + Int.toNat p * 1)) ⟨[.agg (vecc g v), .agg [(I6 p), (I6 s)], .ptr 0 0, .ptr 1 0, (B6 false), .ptr 1 0, (I6 p), (B6 true), (B6 true), .ptr 1 1, (I6 s), (B6 true), (B6 true), (B6 true), .ptr 1 0, (I6 p), .ptr 0 (0 + Int.toNat p * 1)] ++ UU 5, [⟨vecc g v, 1, .fresh⟩, ⟨[(I6 p), (I6 s)], 2, .fresh⟩]⟩ (by intro ext; kernel_rfl) ⟨by kernel_rfl, by kernel_rfl⟩ ⟨(by omega), (by omega)⟩ ?_
      rw [Nat.mul_one (Int.toNat p)]
      rw [Nat.zero_add (Int.toNat p)]
      refine DerX.quiet (Int.toNat p < List.length (vecc g v)) (List.getD (vecc g v) (Int.toNat p) AVal.undef) ⟨[.agg (vecc g v), .agg [(I6 p), (I6 s)], .ptr 0 0, .ptr 1 0, (B6 false), .ptr 1 0, (I6 p), (B6 true), (B6 true), .ptr 1 1, (I6 s), (B6 true), (B6 true), (B6 true), .ptr 1 0, (I6 p), .ptr 0 (Int.toNat p), List.getD (vecc g v) (Int.toNat p) U6, U6, U6, U6, .undef], [⟨vecc g v, 1, .fresh⟩, ⟨[(I6 p), (I6 s)], 2, .fresh⟩]⟩ (by intro ext; kernel_rfl) ⟨by kernel_rfl, by kernel_rfl⟩ (by (simp [spliceA_length] <;> omega)) ?_
      rw [Go.Abs.vecc_get (g) (v) (Int.toNat p) (by omega)]
      refine DerX.quiet (True) (.ptr 1 1) ⟨[.agg (vecc g v), .agg [(I6 p), (I6 s)], .ptr 0 0, .ptr 1 0, (B6 false), .ptr 1 0, (I6 p), (B6 true), (B6 true), .ptr 1 1, (I6 s), (B6 true), (B6 true), (B6 true), .ptr 1 0, (I6 p), .ptr 0 (Int.toNat p), (I6 (v (Int.toNat p))), .ptr 1 1, U6, U6, .undef], [⟨vecc g v, 1, .fresh⟩, ⟨[(I6 p), (I6 s)], 2, .fresh⟩]⟩ (by intro ext; kernel_rfl) ⟨by kernel_rfl, by kernel_rfl⟩ trivial ?_
      refine DerX.quiet (1 < List.length [(I6 p), (I6 s)]) (I6 s) ⟨[.agg (vecc g v), .agg [(I6 p), (I6 s)], .ptr 0 0, .ptr 1 0, (B6 false), .ptr 1 0, (I6 p), (B6 true), (B6 true), .ptr 1 1, (I6 s), (B6 true), (B6 true), (B6 true), .ptr 1 0, (I6 p), .ptr 0 (Int.toNat p), (I6 (v (Int.toNat p))), .ptr 1 1, (I6 s), U6, .undef], [⟨vecc g v, 1, .fresh⟩, ⟨[(I6 p), (I6 s)], 2, .fresh⟩]⟩ (by intro ext; kernel_rfl) ⟨by kernel_rfl, by kernel_rfl⟩ (by simp) ?_
      refine DerX.quiet (True) (B6 (decide (v (Int.toNat p) ≥ s))) ⟨[.agg (vecc g v), .agg [(I6 p), (I6 s)], .ptr 0 0, .ptr 1 0, (B6 false), .ptr 1 0, (I6 p), (B6 true), (B6 true), .ptr 1 1, (I6 s), (B6 true), (B6 true), (B6 true), .ptr 1 0, (I6 p), .ptr 0 (Int.toNat p), (I6 (v (Int.toNat p))), .ptr 1 1, (I6 s), (B6 (decide (v (Int.toNat p) ≥ s))), .undef], [⟨vecc g v, 1, .fresh⟩, ⟨[(I6 p), (I6 s)], 2, .fresh⟩]⟩ (by intro ext; kernel_rfl) ⟨by kernel_rfl, by kernel_rfl⟩ trivial ?_
      refine DerX.quiet (True) (B6 (decide (v (Int.toNat p) ≥ s))) ⟨[.agg (vecc g v), .agg [(I6 p), (I6 s)], .ptr 0 0, .ptr 1 0, (B6 false), .ptr 1 0, (I6 p), (B6 true), (B6 true), .ptr 1 1, (I6 s), (B6 true), (B6 true), (B6 true), .ptr 1 0, (I6 p), .ptr 0 (Int.toNat p), (I6 (v (Int.toNat p))), .ptr 1 1, (I6 s), (B6 (decide (v (Int.toNat p) ≥ s))), (B6 (decide (v (Int.toNat p) ≥ s)))], [⟨vecc g v, 1, .fresh⟩, ⟨[(I6 p), (I6 s)], 2, .fresh⟩]⟩ (by intro ext; kernel_rfl) ⟨by kernel_rfl, by kernel_rfl⟩ trivial ?_
      refine DerX.quiet (True) (B6 (decide (v (Int.toNat p) ≥ s))) ⟨[.agg (vecc g v), .agg [(I6 p), (I6 s)], .ptr 0 0, .ptr 1 0, (B6 (decide (v (Int.toNat p) ≥ s))), .ptr 1 0, (I6 p), (B6 true), (B6 true), .ptr 1 1, (I6 s), (B6 true), (B6 true), (B6 true), .ptr 1 0, (I6 p), .ptr 0 (Int.toNat p), (I6 (v (Int.toNat p))), .ptr 1 1, (I6 s), (B6 (decide (v (Int.toNat p) ≥ s))), (B6 (decide (v (Int.toNat p) ≥ s)))], [⟨vecc g v, 1, .fresh⟩, ⟨[(I6 p), (I6 s)], 2, .fresh⟩]⟩ (by intro ext; kernel_rfl) ⟨by kernel_rfl, by kernel_rfl⟩ trivial ?_
      refine DerX.nil ?_
      refine AWP.ret ?_
      refine FI (B6 (decide (v (Int.toNat p) ≥ s))) ?_
      refine Shrink.all ?_ rfl
      ((first | refine congrArg B6 ?_ | refine congrArg I6 ?_ | congr 2); rw [Bool.eq_iff_iff]; simp [hasB, hasP, *] <;> omega; done)
theorem r_has (g : Gate) (v : Nat → Int) (p s : Int) : EvD Try.prog 50 [.agg (vecc g v), .agg [.sc (.int .i64 p), .sc (.int .i64 s)]] (.sc (.bool (hasB v p s))) := by
  refine EvD.body Try.func50 rfl (by simp [dataAll, AVal.data]) rfl ?_
  refine SQ ?_
  refine DerQ.run (TT 3) ⟨[.agg (vecc g v), .agg [(I6 p), (I6 s)], .ptr 0 0, .ptr 1 0, (B6 false)] ++ UU 17, [⟨vecc g v, 1, .fresh⟩, ⟨[(I6 p), (I6 s)], 2, .fresh⟩]⟩ (by kernel_rfl) (tt 3) ?_
  refine AWP.seq ?_
  refine AWP.drawX mixed (fun o => [7].contains (o.dst.getD 0)) (by kernel_rfl) ?_
  refine DerX.quiet (True) (.ptr 1 0) ⟨[.agg (vecc g v), .agg [(I6 p), (I6 s)], .ptr 0 0, .ptr 1 0, (B6 false), .ptr 1 0] ++ UU 16, [⟨vecc g v, 1, .fresh⟩, ⟨[(I6 p), (I6 s)], 2, .fresh⟩]⟩ (by intro ext; kernel_rfl) ⟨by kernel_rfl, by kernel_rfl⟩ trivial ?_
  refine DerX.quiet (0 < List.length [(I6 p), (I6 s)]) (I6 p) ⟨[.agg (vecc g v), .agg [(I6 p), (I6 s)], .ptr 0 0, .ptr 1 0, (B6 false), .ptr 1 0, (I6 p)] ++ UU 15, [⟨vecc g v, 1, .fresh⟩, ⟨[(I6 p), (I6 s)], 2, .fresh⟩]⟩ (by intro ext; kernel_rfl) ⟨by kernel_rfl, by kernel_rfl⟩ (by simp) ?_
  refine DerX.callD (r_peer p) ⟨[.agg (vecc g v), .agg [(I6 p), (I6 s)], .ptr 0 0, .ptr 1 0, (B6 false), .ptr 1 0, (I6 p), (B6 (decide (1 ≤ p ∧ p ≤ 12)))] ++ UU 14, [⟨vecc g v, 1, .fresh⟩, ⟨[(I6 p), (I6 s)], 2, .fresh⟩]⟩ ⟨by kernel_rfl, by kernel_rfl, by kernel_rfl⟩ ?_
  refine DerX.quiet (True) (B6 (decide (1 ≤ p ∧ p ≤ 12))) ⟨[.agg (vecc g v), .agg [(I6 p), (I6 s)], .ptr 0 0, .ptr 1 0, (B6 false), .ptr 1 0, (I6 p), (B6 (decide (1 ≤ p ∧ p ≤ 12))), (B6 (decide (1 ≤ p ∧ p ≤ 12)))] ++ UU 13, [⟨vecc g v, 1, .fresh⟩, ⟨[(I6 p), (I6 s)], 2, .fresh⟩]⟩ (by intro ext; kernel_rfl) ⟨by kernel_rfl, by kernel_rfl⟩ trivial ?_
  cases h1 : (decide (1 ≤ p ∧ p ≤ 12))
  · have h1' := of_decide_eq_false h1
    refine DerX.skip ⟨[.agg (vecc g v), .agg [(I6 p), (I6 s)], .ptr 0 0, .ptr 1 0, (B6 false), .ptr 1 0, (I6 p), (B6 false), (B6 false), .tup []] ++ UU 12, [⟨vecc g v, 1, .fresh⟩, ⟨[(I6 p), (I6 s)], 2, .fresh⟩]⟩ ⟨by kernel_rfl, by kernel_rfl⟩ ?_
    refine DerX.skip ⟨[.agg (vecc g v), .agg [(I6 p), (I6 s)], .ptr 0 0, .ptr 1 0, (B6 false), .ptr 1 0, (I6 p), (B6 false), (B6 false), .tup [], .tup []] ++ UU 11, [⟨vecc g v, 1, .fresh⟩, ⟨[(I6 p), (I6 s)], 2, .fresh⟩]⟩ ⟨by kernel_rfl, by kernel_rfl⟩ ?_
    refine DerX.skip ⟨[.agg (vecc g v), .agg [(I6 p), (I6 s)], .ptr 0 0, .ptr 1 0, (B6 false), .ptr 1 0, (I6 p), (B6 false), (B6 false), .tup [], .tup [], .tup []] ++ UU 10, [⟨vecc g v, 1, .fresh⟩, ⟨[(I6 p), (I6 s)], 2, .fresh⟩]⟩ ⟨by kernel_rfl, by kernel_rfl⟩ ?_
    refine DerX.quiet (True) (B6 false) ⟨[.agg (vecc g v), .agg [(I6 p), (I6 s)], .ptr 0 0, .ptr 1 0, (B6 false), .ptr 1 0, (I6 p), (B6 false), (B6 false), .tup [], .tup [], .tup [], (B6 false)] ++ UU 9, [⟨vecc g v, 1, .fresh⟩, ⟨[(I6 p), (I6 s)], 2, .fresh⟩]⟩ (by intro ext; kernel_rfl) ⟨by kernel_rfl, by kernel_rfl⟩ trivial ?_
    refine DerX.quiet (True) (B6 false) ⟨[.agg (vecc g v), .agg [(I6 p), (I6 s)], .ptr 0 0, .ptr 1 0, (B6 false), .ptr 1 0, (I6 p), (B6 false), (B6 false), .tup [], .tup [], .tup [], (B6 false), (B6 false)] ++ UU 8, [⟨vecc g v, 1, .fresh⟩, ⟨[(I6 p), (I6 s)], 2, .fresh⟩]⟩ (by intro ext; kernel_rfl) ⟨by kernel_rfl, by kernel_rfl⟩ trivial ?_
    refine DerX.skip ⟨[.agg (vecc g v), .agg [(I6 p), (I6 s)], .ptr 0 0, .ptr 1 0, (B6 false), .ptr 1 0, (I6 p), (B6 false), (B6 false), .tup [], .tup [], .tup [], (B6 false), (B6 false), .tup []] ++ UU 7, [⟨vecc g v, 1, .fresh⟩, ⟨[(I6 p), (I6 s)], 2, .fresh⟩]⟩ ⟨by kernel_rfl, by kernel_rfl⟩ ?_
    refine DerX.skip ⟨[.agg (vecc g v), .agg [(I6 p), (I6 s)], .ptr 0 0, .ptr 1 0, (B6 false), .ptr 1 0, (I6 p), (B6 false), (B6 false), .tup [], .tup [], .tup [], (B6 false), (B6 false), .tup [], .tup []] ++ UU 6, [⟨vecc g v, 1, .fresh⟩, ⟨[(I6 p), (I6 s)], 2, .fresh⟩]⟩ ⟨by kernel_rfl, by kernel_rfl⟩ ?_
    refine DerX.skip ⟨[.agg (vecc g v), .agg [(I6 p), (I6 s)], .ptr 0 0, .ptr 1 0, (B6 false), .ptr 1 0, (I6 p), (B6 false), (B6 false), .tup [], .tup [], .tup [], (B6 false), (B6 false), .tup [], .tup [], .tup []] ++ UU 5, [⟨vecc g v, 1, .fresh⟩, ⟨[(I6 p), (I6 s)], 2, .fresh⟩]⟩ ⟨by kernel_rfl, by kernel_rfl⟩ ?_
    refine DerX.skip ⟨[.agg (vecc g v), .agg [(I6 p), (I6 s)], .ptr 0 0, .ptr 1 0, (B6 false), .ptr 1 0, (I6 p), (B6 false), (B6 false), .tup [], .tup [], .tup [], (B6 false), (B6 false), .tup [], .tup [], .tup [], .tup [], U6, U6, U6, .undef], [⟨vecc g v, 1, .fresh⟩, ⟨[(I6 p), (I6 s)], 2, .fresh⟩]⟩ ⟨by kernel_rfl, by kernel_rfl⟩ ?_
    refine DerX.skip ⟨[.agg (vecc g v), .agg [(I6 p), (I6 s)], .ptr 0 0, .ptr 1 0, (B6 false), .ptr 1 0, (I6 p), (B6 false), (B6 false), .tup [], .tup [], .tup [], (B6 false), (B6 false), .tup [], .tup [], .tup [], .tup [], .tup [], U6, U6, .undef], [⟨vecc g v, 1, .fresh⟩, ⟨[(I6 p), (I6 s)], 2, .fresh⟩]⟩ ⟨by kernel_rfl, by kernel_rfl⟩ ?_
    refine DerX.skip ⟨[.agg (vecc g v), .agg [(I6 p), (I6 s)], .ptr 0 0, .ptr 1 0, (B6 false), .ptr 1 0, (I6 p), (B6 false), (B6 false), .tup [], .tup [], .tup [], (B6 false), (B6 false), .tup [], .tup [], .tup [], .tup [], .tup [], .tup [], U6, .undef], [⟨vecc g v, 1, .fresh⟩, ⟨[(I6 p), (I6 s)], 2, .fresh⟩]⟩ ⟨by kernel_rfl, by kernel_rfl⟩ ?_
    refine DerX.skip ⟨[.agg (vecc g v), .agg [(I6 p), (I6 s)], .ptr 0 0, .ptr 1 0, (B6 false), .ptr 1 0, (I6 p), (B6 false), (B6 false), .tup [], .tup [], .tup [], (B6 false), (B6 false), .tup [], .tup [], .tup [], .tup [], .tup [], .tup [], .tup [], .undef], [⟨vecc g v, 1, .fresh⟩, ⟨[(I6 p), (I6 s)], 2, .fresh⟩]⟩ ⟨by kernel_rfl, by kernel_rfl⟩ ?_
    refine DerX.quiet (True) (B6 false) ⟨[.agg (vecc g v), .agg [(I6 p), (I6 s)], .ptr 0 0, .ptr 1 0, (B6 false), .ptr 1 0, (I6 p), (B6 false), (B6 false), .tup [], .tup [], .tup [], (B6 false), (B6 false), .tup [], .tup [], .tup [], .tup [], .tup [], .tup [], .tup [], (B6 false)], [⟨vecc g v, 1, .fresh⟩, ⟨[(I6 p), (I6 s)], 2, .fresh⟩]⟩ (by intro ext; kernel_rfl) ⟨by kernel_rfl, by kernel_rfl⟩ trivial ?_
    refine DerX.quiet (True) (B6 false) ⟨[.agg (vecc g v), .agg [(I6 p), (I6 s)], .ptr 0 0, .ptr 1 0, (B6 false), .ptr 1 0, (I6 p), (B6 false), (B6 false), .tup [], .tup [], .tup [], (B6 false), (B6 false), .tup [], .tup [], .tup [], .tup [], .tup [], .tup [], .tup [], (B6 false)], [⟨vecc g v, 1, .fresh⟩, ⟨[(I6 p), (I6 s)], 2, .fresh⟩]⟩ (by intro ext; kernel_rfl) ⟨by kernel_rfl, by kernel_rfl⟩ trivial ?_
    refine DerX.nil ?_
    refine AWP.ret ?_
    refine FI (B6 false) ?_
    refine Shrink.all ?_ rfl
    ((first | refine congrArg B6 ?_ | refine congrArg I6 ?_ | congr 2); rw [Bool.eq_iff_iff]; simp [hasB, hasP, *] <;> omega; done)
  · have h1' := of_decide_eq_true h1
    refine DerX.quiet (True) (.ptr 1 1) ⟨[.agg (vecc g v), .agg [(I6 p), (I6 s)], .ptr 0 0, .ptr 1 0, (B6 false), .ptr 1 0, (I6 p), (B6 true), (B6 true), .ptr 1 1] ++ UU 12, [⟨vecc g v, 1, .fresh⟩, ⟨[(I6 p), (I6 s)], 2, .fresh⟩]⟩ (by intro ext; kernel_rfl) ⟨by kernel_rfl, by kernel_rfl⟩ trivial ?_
    refine DerX.quiet (1 < List.length [(I6 p), (I6 s)]) (I6 s) ⟨[.agg (vecc g v), .agg [(I6 p), (I6 s)], .ptr 0 0, .ptr 1 0, (B6 false), .ptr 1 0, (I6 p), (B6 true), (B6 true), .ptr 1 1, (I6 s)] ++ UU 11, [⟨vecc g v, 1, .fresh⟩, ⟨[(I6 p), (I6 s)], 2, .fresh⟩]⟩ (by intro ext; kernel_rfl) ⟨by kernel_rfl, by kernel_rfl⟩ (by simp) ?_
    refine DerX.quiet (True) (B6 (decide (s ≥ 1))) ⟨[.agg (vecc g v), .agg [(I6 p), (I6 s)], .ptr 0 0, .ptr 1 0, (B6 false), .ptr 1 0, (I6 p), (B6 true), (B6 true), .ptr 1 1, (I6 s), (B6 (decide (s ≥ 1)))] ++ UU 10, [⟨vecc g v, 1, .fresh⟩, ⟨[(I6 p), (I6 s)], 2, .fresh⟩]⟩ (by intro ext; kernel_rfl) ⟨by kernel_rfl, by kernel_rfl⟩ trivial ?_
    refine DerX.quiet (True) (B6 (decide (s ≥ 1))) ⟨[.agg (vecc g v), .agg [(I6 p), (I6 s)], .ptr 0 0, .ptr 1 0, (B6 false), .ptr 1 0, (I6 p), (B6 true), (B6 true), .ptr 1 1, (I6 s), (B6 (decide (s ≥ 1))), (B6 (decide (s ≥ 1)))] ++ UU 9, [⟨vecc g v, 1, .fresh⟩, ⟨[(I6 p), (I6 s)], 2, .fresh⟩]⟩ (by intro ext; kernel_rfl) ⟨by kernel_rfl, by kernel_rfl⟩ trivial ?_
    refine DerX.quiet (True) (B6 (decide (s ≥ 1))) ⟨[.agg (vecc g v), .agg [(I6 p), (I6 s)], .ptr 0 0, .ptr 1 0, (B6 false), .ptr 1 0, (I6 p), (B6 true), (B6 true), .ptr 1 1, (I6 s), (B6 (decide (s ≥ 1))), (B6 (decide (s ≥ 1))), (B6 (decide (s ≥ 1)))] ++ UU 8, [⟨vecc g v, 1, .fresh⟩, ⟨[(I6 p), (I6 s)], 2, .fresh⟩]⟩ (by intro ext; kernel_rfl) ⟨by kernel_rfl, by kernel_rfl⟩ trivial ?_
    cases h2 : (decide (s ≥ 1))
    · have h2' := of_decide_eq_false h2
      refine DerX.skip ⟨[.agg (vecc g v), .agg [(I6 p), (I6 s)], .ptr 0 0, .ptr 1 0, (B6 false), .ptr 1 0, (I6 p), (B6 true), (B6 true), .ptr 1 1, (I6 s), (B6 false), (B6 false), (B6 false), .tup []] ++ UU 7, [⟨vecc g v, 1, .fresh⟩, ⟨[(I6 p), (I6 s)], 2, .fresh⟩]⟩ ⟨by kernel_rfl, by kernel_rfl⟩ ?_
      refine DerX.skip ⟨[.agg (vecc g v), .agg [(I6 p), (I6 s)], .ptr 0 0, .ptr 1 0, (B6 false), .ptr 1 0, (I6 p), (B6 true), (B6 true), .ptr 1 1, (I6 s), (B6 false), (B6 false), (B6 false), .tup [], .tup []] ++ UU 6, [⟨vecc g v, 1, .fresh⟩, ⟨[(I6 p), (I6 s)], 2, .fresh⟩]⟩ ⟨by kernel_rfl, by kernel_rfl⟩ ?_
      refine DerX.skip ⟨[.agg (vecc g v), .agg [(I6 p), (I6 s)], .ptr 0 0, .ptr 1 0, (B6 false), .ptr 1 0, (I6 p), (B6 true), (B6 true), .ptr 1 1, (I6 s), (B6 false), (B6 false), (B6 false), .tup [], .tup [], .tup []] ++ UU 5, [⟨vecc g v, 1, .fresh⟩, ⟨[(I6 p), (I6 s)], 2, .fresh⟩]⟩ ⟨by kernel_rfl, by kernel_rfl⟩ ?_
      refine DerX.skip ⟨[.agg (vecc g v), .agg [(I6 p), (I6 s)], .ptr 0 0, .ptr 1 0, (B6 false), .ptr 1 0, (I6 p), (B6 true), (B6 true), .ptr 1 1, (I6 s), (B6 false), (B6 false), (B6 false), .tup [], .tup [], .tup [], .tup [], U6, U6, U6, .undef], [⟨vecc g v, 1, .fresh⟩, ⟨[(I6 p), (I6 s)], 2, .fresh⟩]⟩ ⟨by kernel_rfl, by kernel_rfl⟩ ?_
      refine DerX.skip ⟨[.agg (vecc g v), .agg [(I6 p), (I6 s)], .ptr 0 0, .ptr 1 0, (B6 false), .ptr 1 0, (I6 p), (B6 true), (B6 true), .ptr 1 1, (I6 s), (B6 false), (B6 false), (B6 false), .tup [], .tup [], .tup [], .tup [], .tup [], U6, U6, .undef], [⟨vecc g v, 1, .fresh⟩, ⟨[(I6 p), (I6 s)], 2, .fresh⟩]⟩ ⟨by kernel_rfl, by kernel_rfl⟩ ?_
      refine DerX.skip ⟨[.agg (vecc g v), .agg [(I6 p), (I6 s)], .ptr 0 0, .ptr 1 0, (B6 false), .ptr 1 0, (I6 p), (B6 true), (B6 true), .ptr 1 1, (I6 s), (B6 false), (B6 false), (B6 false), .tup [], .tup [], .tup [], .tup [], .tup [], .tup [], U6, .undef], [⟨vecc g v, 1, .fresh⟩, ⟨[(I6 p), (I6 s)], 2, .fresh⟩]⟩ ⟨by kernel_rfl, by kernel_rfl⟩ ?_
      refine DerX.skip ⟨[.agg (vecc g v), .agg [(I6 p), (I6 s)], .ptr 0 0, .ptr 1 0, (B6 false), .ptr 1 0, (I6 p), (B6 true), (B6 true), .ptr 1 1, (I6 s), (B6 false), (B6 false), (B6 false), .tup [], .tup [], .tup [], .tup [], .tup [], .tup [], .tup [], .undef], [⟨vecc g v, 1, .fresh⟩, ⟨[(I6 p), (I6 s)], 2, .fresh⟩]⟩ ⟨by kernel_rfl, by kernel_rfl⟩ ?_
      refine DerX.quiet (True) (B6 false) ⟨[.agg (vecc g v), .agg [(I6 p), (I6 s)], .ptr 0 0, .ptr 1 0, (B6 false), .ptr 1 0, (I6 p), (B6 true), (B6 true), .ptr 1 1, (I6 s), (B6 false), (B6 false), (B6 false), .tup [], .tup [], .tup [], .tup [], .tup [], .tup [], .tup [], (B6 false)], [⟨vecc g v, 1, .fresh⟩, ⟨[(I6 p), (I6 s)], 2, .fresh⟩]⟩ (by intro ext; kernel_rfl) ⟨by kernel_rfl, by kernel_rfl⟩ trivial ?_
      refine DerX.quiet (True) (B6 false) ⟨[.agg (vecc g v), .agg [(I6 p), (I6 s)], .ptr 0 0, .ptr 1 0, (B6 false), .ptr 1 0, (I6 p), (B6 true), (B6 true), .ptr 1 1, (I6 s), (B6 false), (B6 false), (B6 false), .tup [], .tup [], .tup [], .tup [], .tup [], .tup [], .tup [], (B6 false)], [⟨vecc g v, 1, .fresh⟩, ⟨[(I6 p), (I6 s)], 2, .fresh⟩]⟩ (by intro ext; kernel_rfl) ⟨by kernel_rfl, by kernel_rfl⟩ trivial ?_
      refine DerX.nil ?_
      refine AWP.ret ?_
      refine FI (B6 false) ?_
      refine Shrink.all ?_ rfl
      ((first | refine congrArg B6 ?_ | refine congrArg I6 ?_ | congr 2); rw [Bool.eq_iff_iff]; simp [hasB, hasP, *] <;> omega; done)
    · have h2' := of_decide_eq_true h2
      refine DerX.quiet (True) (.ptr 1 1) ⟨[.agg (vecc g v), .agg [(I6 p), (I6 s)], .ptr 0 0, .ptr 1 0, (B6 false), .ptr 1 0, (I6 p), (B6 true), (B6 true), .ptr 1 1, (I6 s), (B6 true), (B6 true), (B6 true), .ptr 1 1] ++ UU 7, [⟨vecc g v, 1, .fresh⟩, ⟨[(I6 p), (I6 s)], 2, .fresh⟩]⟩ (by intro ext; kernel_rfl) ⟨by kernel_rfl, by kernel_rfl⟩ trivial ?_
      refine DerX.quiet (1 < List.length [(I6 p), (I6 s)]) (I6 s) ⟨[.agg (vecc g v), .agg [(I6 p), (I6 s)], .ptr 0 0, .ptr 1 0, (B6 false), .ptr 1 0, (I6 p), (B6 true), (B6 true), .ptr 1 1, (I6 s), (B6 true), (B6 true), (B6 true), .ptr 1 1, (I6 s)] ++ UU 6, [⟨vecc g v, 1, .fresh⟩, ⟨[(I6 p), (I6 s)], 2, .fresh⟩]⟩ (by intro ext; kernel_rfl) ⟨by kernel_rfl, by kernel_rfl⟩ (by simp) ?_
      refine DerX.quiet (True) (.ptr 1 0) ⟨[.agg (vecc g v), .agg [(I6 p), (I6 s)], .ptr 0 0, .ptr 1 0, (B6 false), .ptr 1 0, (I6 p), (B6 true), (B6 true), .ptr 1 1, (I6 s), (B6 true), (B6 true), (B6 true), .ptr 1 1, (I6 s), .ptr 1 0] ++ UU 5, [⟨vecc g v, 1, .fresh⟩, ⟨[(I6 p), (I6 s)], 2, .fresh⟩]⟩ (by intro ext; kernel_rfl) ⟨by kernel_rfl, by kernel_rfl⟩ trivial ?_
      refine DerX.quiet (0 < List.length [(I6 p), (I6 s)]) (I6 p) ⟨[.agg (vecc g v), .agg [(I6 p), (I6 s)], .ptr 0 0, .ptr 1 0, (B6 false), .ptr 1 0, (I6 p), (B6 true), (B6 true), .ptr 1 1, (I6 s), (B6 true), (B6 true), (B6 true), .ptr 1 1, (I6 s), .ptr 1 0, (I6 p), U6, U6, U6, .undef], [⟨vecc g v, 1, .fresh⟩, ⟨[(I6 p), (I6 s)], 2, .fresh⟩]⟩ (by intro ext; kernel_rfl) ⟨by kernel_rfl, by kernel_rfl⟩ (by simp) ?_
      refine DerX.quiet ((0 ≤ p) ∧ (p < 13)) (.ptr 0 (0 + Int.toNat p * 1)) ⟨[.agg (vecc g v), .agg [(I6 p), (I6 s)], .ptr 0 0, .ptr 1 0, (B6 false), .ptr 1 0, (I6 p), (B6 true), (B6 true), .ptr 1 1, (I6 s), (B6 true), (B6 true), (B6 true), .ptr 1 1, (I6 s), .ptr 1 0, (I6 p), .ptr 0 (0 + Int.toNat p * 1), U6, U6, .undef], [⟨vecc g v, 1, .fresh⟩, ⟨[(I6 p), (I6 s)], 2, .fresh⟩]⟩ (by intro ext; kernel_rfl) ⟨by kernel_rfl, by kernel_rfl⟩ ⟨(by omega), (by omega)⟩ ?_
      rw [Nat.mul_one (Int.toNat p)]
      rw [Nat.zero_add (Int.toNat p)]
      refine DerX.quiet (Int.toNat p < List.length (vecc g v)) (List.getD (vecc g v) (Int.toNat p) AVal.undef) ⟨[.agg (vecc g v), .agg [(I6 p), (I6 s)], .ptr 0 0, .ptr 1 0, (B6 false), .ptr 1 0, (I6 p), (B6 true), (B6 true), .ptr 1 1, (I6 s), (B6 true), (B6 true), (B6 true), .ptr 1 1, (I6 s), .ptr 1 0, (I6 p), .ptr 0 (Int.toNat p), List.getD (vecc g v) (Int.toNat p) U6, U6, .undef], [⟨vecc g v, 1, .fresh⟩, ⟨[(I6 p), (I6 s)], 2, .fresh⟩]⟩ (by intro ext; kernel_rfl) ⟨by kernel_rfl, by kernel_rfl⟩ (by (simp [spliceA_length] <;> omega)) ?_
      rw [Go.Abs.vecc_get (g) (v) (Int.toNat p) (by omega)]
      refine DerX.quiet (True) (B6 (decide (s ≤ v (Int.toNat p)))) ⟨[.agg (vecc g v), .agg [(I6 p), (I6 s)], .ptr 0 0, .ptr 1 0, (B6 false), .ptr 1 0, (I6 p), (B6 true), (B6 true), .ptr 1 1, (I6 s), (B6 true), (B6 true), (B6 true), .ptr 1 1, (I6 s), .ptr 1 0, (I6 p), .ptr 0 (Int.toNat p), (I6 (v (Int.toNat p))), (B6 (decide (s ≤ v (Int.toNat p)))), .undef], [⟨vecc g v, 1, .fresh⟩, ⟨[(I6 p), (I6 s)], 2, .fresh⟩]⟩ (by intro ext; kernel_rfl) ⟨by kernel_rfl, by kernel_rfl⟩ trivial ?_
      refine DerX.quiet (True) (B6 (decide (s ≤ v (Int.toNat p)))) ⟨[.agg (vecc g v), .agg [(I6 p), (I6 s)], .ptr 0 0, .ptr 1 0, (B6 false), .ptr 1 0, (I6 p), (B6 true), (B6 true), .ptr 1 1, (I6 s), (B6 true), (B6 true), (B6 true), .ptr 1 1, (I6 s), .ptr 1 0, (I6 p), .ptr 0 (Int.toNat p), (I6 (v (Int.toNat p))), (B6 (decide (s ≤ v (Int.toNat p)))), (B6 (decide (s ≤ v (Int.toNat p))))], [⟨vecc g v, 1, .fresh⟩, ⟨[(I6 p), (I6 s)], 2, .fresh⟩]⟩ (by intro ext; kernel_rfl) ⟨by kernel_rfl, by kernel_rfl⟩ trivial ?_
      refine DerX.quiet (True) (B6 (decide (s ≤ v (Int.toNat p)))) ⟨[.agg (vecc g v), .agg [(I6 p), (I6 s)], .ptr 0 0, .ptr 1 0, (B6 (decide (s ≤ v (Int.toNat p)))), .ptr 1 0, (I6 p), (B6 true), (B6 true), .ptr 1 1, (I6 s), (B6 true), (B6 true), (B6 true), .ptr 1 1, (I6 s), .ptr 1 0, (I6 p), .ptr 0 (Int.toNat p), (I6 (v (Int.toNat p))), (B6 (decide (s ≤ v (Int.toNat p)))), (B6 (decide (s ≤ v (Int.toNat p))))], [⟨vecc g v, 1, .fresh⟩, ⟨[(I6 p), (I6 s)], 2, .fresh⟩]⟩ (by intro ext; kernel_rfl) ⟨by kernel_rfl, by kernel_rfl⟩ trivial ?_
      refine DerX.nil ?_
      refine AWP.ret ?_
      refine FI (B6 (decide (s ≤ v (Int.toNat p)))) ?_
      refine Shrink.all ?_ rfl
      ((first | refine congrArg B6 ?_ | refine congrArg I6 ?_ | congr 2); rw [Bool.eq_iff_iff]; simp [hasB, hasP, *] <;> omega; done)
end Go.Ops
