/- Walks and laws. -/
import Derived.Test.YtfkilkfaiiijbaaOps1
import Derived.Test.YtfkilkfaiiijbaaLibC
set_option maxRecDepth 100000
set_option maxHeartbeats 0
set_option linter.unusedSimpArgs false
set_option linter.unusedVariables false
namespace Go.Ops
open Go Go.Abs Go.Proofs
theorem v_peer (p : Int) : EvD Try.prog 94 [.sc (.int .i64 p)] (.sc (.bool (decide (1 ≤ p ∧ p ≤ 12)))) := by
  refine EvD.body Try.func94 rfl rfl rfl ?_
  refine AWP.seq ?_
  refine TO ⟨[(I6 p)] ++ UU 8, []⟩ ?_
  refine AWP.reg (RT 1 ?_)
  refine AWP.seq ?_
  refine TO ⟨[(I6 p), U6, (B6 false)] ++ UU 6, []⟩ ?_
  refine AWP.reg (PT 3 3 ?_)
  refine DerQ.to ⟨[(I6 p), U6, (B6 false), (I6 p), (B6 (decide (p ≥ 1))), (B6 (decide (p ≥ 1))), U6, U6, .undef], []⟩ (by kernel_rfl) ?_
  cases h1 : (decide (p ≥ 1))
  · have h1' := of_decide_eq_false h1
    refine RT 2 ?_
    refine AWP.ret ?_
    refine FI (B6 false) ?_
    refine Shrink.all ?_ rfl
    ((first | refine congrArg B6 ?_ | refine congrArg I6 ?_ | congr 2); rw [Bool.eq_iff_iff]; simp only [decide_eq_true_eq, Bool.false_eq_true, false_iff, true_iff, Bool.and_eq_true, Bool.or_eq_true, Bool.not_eq_true', Bool.not_eq_true, Bool.not_eq_false', decide_eq_false_iff_not, iff_true, iff_false, beq_iff_eq, beq_eq_false_iff_ne, ge_iff_le, gt_iff_lt, ne_eq, bne_iff_ne, not_true_eq_false, not_false_eq_true] at *; omega; done)
  · have h1' := of_decide_eq_true h1
    refine RT 4 ?_
    refine AWP.ret ?_
    refine FI (B6 (decide (p ≤ 12))) ?_
    refine Shrink.all ?_ rfl
    ((first | refine congrArg B6 ?_ | refine congrArg I6 ?_ | congr 2); rw [Bool.eq_iff_iff]; simp only [decide_eq_true_eq, Bool.false_eq_true, false_iff, true_iff, Bool.and_eq_true, Bool.or_eq_true, Bool.not_eq_true', Bool.not_eq_true, Bool.not_eq_false', decide_eq_false_iff_not, iff_true, iff_false, beq_iff_eq, beq_eq_false_iff_ne, ge_iff_le, gt_iff_lt, ne_eq, bne_iff_ne, not_true_eq_false, not_false_eq_true] at *; omega; done)
theorem o_peer (p : Int) : EvD Try.prog 63 [.sc (.int .i64 p)] (.sc (.bool (decide (1 ≤ p ∧ p ≤ 12)))) := by
  refine EvD.body Try.func63 rfl rfl rfl ?_
  refine AWP.seq ?_
  refine TO ⟨[(I6 p)] ++ UU 8, []⟩ ?_
  refine AWP.reg (RT 1 ?_)
  refine AWP.seq ?_
  refine TO ⟨[(I6 p), U6, (B6 false)] ++ UU 6, []⟩ ?_
  refine AWP.reg (PT 3 3 ?_)
  refine DerQ.to ⟨[(I6 p), U6, (B6 false), (I6 p), (B6 (decide (p ≥ 1))), (B6 (decide (p ≥ 1))), U6, U6, .undef], []⟩ (by kernel_rfl) ?_
  cases h1 : (decide (p ≥ 1))
  · have h1' := of_decide_eq_false h1
    refine RT 2 ?_
    refine AWP.ret ?_
    refine FI (B6 false) ?_
    refine Shrink.all ?_ rfl
    ((first | refine congrArg B6 ?_ | refine congrArg I6 ?_ | congr 2); rw [Bool.eq_iff_iff]; simp only [decide_eq_true_eq, Bool.false_eq_true, false_iff, true_iff, Bool.and_eq_true, Bool.or_eq_true, Bool.not_eq_true', Bool.not_eq_true, Bool.not_eq_false', decide_eq_false_iff_not, iff_true, iff_false, beq_iff_eq, beq_eq_false_iff_ne, ge_iff_le, gt_iff_lt, ne_eq, bne_iff_ne, not_true_eq_false, not_false_eq_true] at *; omega; done)
  · have h1' := of_decide_eq_true h1
    refine RT 4 ?_
    refine AWP.ret ?_
    refine FI (B6 (decide (p ≤ 12))) ?_
    refine Shrink.all ?_ rfl
    ((first | refine congrArg B6 ?_ | refine congrArg I6 ?_ | congr 2); rw [Bool.eq_iff_iff]; simp only [decide_eq_true_eq, Bool.false_eq_true, false_iff, true_iff, Bool.and_eq_true, Bool.or_eq_true, Bool.not_eq_true', Bool.not_eq_true, Bool.not_eq_false', decide_eq_false_iff_not, iff_true, iff_false, beq_iff_eq, beq_eq_false_iff_ne, ge_iff_le, gt_iff_lt, ne_eq, bne_iff_ne, not_true_eq_false, not_false_eq_true] at *; omega; done)
theorem r_peer (p : Int) : EvD Try.prog 55 [.sc (.int .i64 p)] (.sc (.bool (decide (1 ≤ p ∧ p ≤ 12)))) := by
  refine EvD.body Try.func55 rfl rfl rfl ?_
  refine AWP.seq ?_
  refine TO ⟨[(I6 p)] ++ UU 8, []⟩ ?_
  refine AWP.reg (RT 1 ?_)
  refine AWP.seq ?_
  refine TO ⟨[(I6 p), U6, (B6 false)] ++ UU 6, []⟩ ?_
  refine AWP.reg (PT 3 3 ?_)
  refine DerQ.to ⟨[(I6 p), U6, (B6 false), (I6 p), (B6 (decide (p ≥ 1))), (B6 (decide (p ≥ 1))), U6, U6, .undef], []⟩ (by kernel_rfl) ?_
  cases h1 : (decide (p ≥ 1))
  · have h1' := of_decide_eq_false h1
    refine RT 2 ?_
    refine AWP.ret ?_
    refine FI (B6 false) ?_
    refine Shrink.all ?_ rfl
    ((first | refine congrArg B6 ?_ | refine congrArg I6 ?_ | congr 2); rw [Bool.eq_iff_iff]; simp only [decide_eq_true_eq, Bool.false_eq_true, false_iff, true_iff, Bool.and_eq_true, Bool.or_eq_true, Bool.not_eq_true', Bool.not_eq_true, Bool.not_eq_false', decide_eq_false_iff_not, iff_true, iff_false, beq_iff_eq, beq_eq_false_iff_ne, ge_iff_le, gt_iff_lt, ne_eq, bne_iff_ne, not_true_eq_false, not_false_eq_true] at *; omega; done)
  · have h1' := of_decide_eq_true h1
    refine RT 4 ?_
    refine AWP.ret ?_
    refine FI (B6 (decide (p ≤ 12))) ?_
    refine Shrink.all ?_ rfl
    ((first | refine congrArg B6 ?_ | refine congrArg I6 ?_ | congr 2); rw [Bool.eq_iff_iff]; simp only [decide_eq_true_eq, Bool.false_eq_true, false_iff, true_iff, Bool.and_eq_true, Bool.or_eq_true, Bool.not_eq_true', Bool.not_eq_true, Bool.not_eq_false', decide_eq_false_iff_not, iff_true, iff_false, beq_iff_eq, beq_eq_false_iff_ne, ge_iff_le, gt_iff_lt, ne_eq, bne_iff_ne, not_true_eq_false, not_false_eq_true] at *; omega; done)
def hasP (v : Nat → Int) (p s : Int) : Prop := (1 ≤ p ∧ p ≤ 12) ∧ 1 ≤ s ∧ s ≤ v p.toNat
instance (v : Nat → Int) (p s : Int) : Decidable (hasP v p s) := by unfold hasP; infer_instance
def hasB (v : Nat → Int) (p s : Int) : Bool := decide (hasP v p s)
theorem v_has (g : Gate) (v : Nat → Int) (p s : Int) : EvD Try.prog 57 [.agg (vecc g v), .agg [.sc (.int .i64 p), .sc (.int .i64 s)]] (.sc (.bool (hasB v p s))) := by
  refine EvD.body Try.func57 rfl (by simp [dataAll, AVal.data]) rfl ?_
  refine AWP.seq ?_
  refine TO ⟨[.agg (vecc g v), .agg [(I6 p), (I6 s)]] ++ UU 20, []⟩ ?_
  refine AWP.reg (RT 3 ?_)
  refine AWP.seq (KL [0, 1] ⟨[U6, U6, .ptr 0 0, .ptr 1 0, (B6 false)] ++ UU 17, [⟨vecc g v, 1, .fresh⟩, ⟨[(I6 p), (I6 s)], 2, .fresh⟩]⟩ ?_)
  refine AWP.drawX mixed (fun o => [7].contains (o.dst.getD 0)) (by kernel_rfl) ?_
  refine DerX.preI 2 ((True) ∧ (((0 : Nat) < (2 : Nat)) ∧ (True))) (by intro ext; kernel_rfl) ⟨trivial, ⟨(by omega), trivial⟩⟩ ?_
  refine DerX.callDI (v_peer p) ⟨by kernel_rfl, by kernel_rfl⟩ ?_
  refine DerX.quietI (True) (by intro ext; kernel_rfl) (by kernel_rfl) trivial ?_
  refine AWP.toX ⟨[U6, U6, .ptr 0 0, .ptr 1 0, (B6 false), .ptr 1 0, (I6 p), (B6 (decide (1 ≤ p ∧ p ≤ 12))), (B6 (decide (1 ≤ p ∧ p ≤ 12)))] ++ UU 13, [⟨vecc g v, 1, .fresh⟩, ⟨[(I6 p), (I6 s)], 2, .fresh⟩]⟩ (by kernel_rfl) ?_
  cases h1 : (decide (1 ≤ p ∧ p ≤ 12))
  · have h1' := of_decide_eq_false h1
    refine DerX.preI 14 ((True) ∧ ((True) ∧ ((True) ∧ ((True) ∧ (True))))) (by intro ext; kernel_rfl) ⟨trivial, ⟨trivial, ⟨trivial, ⟨trivial, trivial⟩⟩⟩⟩ ?_
    refine DerX.nil ?_
    refine AWP.ret ?_
    refine FI (B6 false) ?_
    refine Shrink.all ?_ rfl
    ((first | refine congrArg B6 ?_ | refine congrArg I6 ?_ | congr 2); rw [Bool.eq_iff_iff]; simp [hasB, hasP, *] <;> omega; done)
  · have h1' := of_decide_eq_true h1
    refine DerX.preI 5 ((True) ∧ (((1 : Nat) < (2 : Nat)) ∧ ((True) ∧ ((True) ∧ ((True) ∧ (True)))))) (by intro ext; kernel_rfl) ⟨trivial, ⟨(by omega), ⟨trivial, ⟨trivial, ⟨trivial, trivial⟩⟩⟩⟩⟩ ?_
    refine AWP.toX ⟨[U6, U6, .ptr 0 0, .ptr 1 0, (B6 false), .ptr 1 0, (I6 p), (B6 true), (B6 true), .ptr 1 1, (I6 s), (B6 (decide (s ≥ 1))), (B6 (decide (s ≥ 1))), (B6 (decide (s ≥ 1)))] ++ UU 8, [⟨vecc g v, 1, .fresh⟩, ⟨[(I6 p), (I6 s)], 2, .fresh⟩]⟩ (by kernel_rfl) ?_
    cases h2 : (decide (s ≥ 1))
    · have h2' := of_decide_eq_false h2
      refine DerX.preI 9 ((True) ∧ ((True) ∧ (True))) (by intro ext; kernel_rfl) ⟨trivial, ⟨trivial, trivial⟩⟩ ?_
      refine DerX.nil ?_
      refine AWP.ret ?_
      refine FI (B6 false) ?_
      refine Shrink.all ?_ rfl
      ((first | refine congrArg B6 ?_ | refine congrArg I6 ?_ | congr 2); rw [Bool.eq_iff_iff]; simp [hasB, hasP, *] <;> omega; done)
    · have h2' := of_decide_eq_true h2
      refine DerX.pre 6 ((True) ∧ (((0 : Nat) < (2 : Nat)) ∧ (((0 ≤ p) ∧ (p < 13)) ∧ ((0 + Int.toNat p * 1 < (vecc g v).length) ∧ ((True) ∧ (((1 : Nat) < (2 : Nat)) ∧ (True))))))) [.ptr 1 0, (I6 p), .ptr 0 (0 + Int.toNat p * 1), (vecc g v).getD (0 + Int.toNat p * 1) U6, .ptr 1 1, (I6 s)] ⟨[U6, U6, .ptr 0 0, .ptr 1 0, (B6 false), .ptr 1 0, (I6 p), (B6 true), (B6 true), .ptr 1 1, (I6 s), (B6 true), (B6 true), (B6 true), .ptr 1 0, (I6 p), .ptr 0 (0 + Int.toNat p * 1), (vecc g v).getD (0 + Int.toNat p * 1) U6, .ptr 1 1, (I6 s), U6, .undef], [⟨vecc g v, 1, .fresh⟩, ⟨[(I6 p), (I6 s)], 2, .fresh⟩]⟩ (by intro ext; kernel_rfl) (by kernel_rfl) ⟨trivial, ⟨(by omega), ⟨⟨(by omega), (by omega)⟩, ⟨(by (simp [spliceA_length] <;> omega)), ⟨trivial, ⟨(by omega), trivial⟩⟩⟩⟩⟩⟩ ?_
      rw [Nat.mul_one (Int.toNat p)]
      rw [Nat.zero_add (Int.toNat p)]
      rw [Go.Abs.vecc_get (g) (v) (Int.toNat p) (by omega)]
      refine DerX.preI 3 ((True) ∧ ((True) ∧ ((True) ∧ (True)))) (by intro ext; kernel_rfl) ⟨trivial, ⟨trivial, ⟨trivial, trivial⟩⟩⟩ ?_
      refine DerX.nil ?_
      refine AWP.ret ?_
      refine FI (B6 (decide (v (Int.toNat p) ≥ s))) ?_
      refine Shrink.all ?_ rfl
      ((first | refine congrArg B6 ?_ | refine congrArg I6 ?_ | congr 2); rw [Bool.eq_iff_iff]; simp [hasB, hasP, *] <;> omega; done)
theorem r_has (g : Gate) (v : Nat → Int) (p s : Int) : EvD Try.prog 50 [.agg (vecc g v), .agg [.sc (.int .i64 p), .sc (.int .i64 s)]] (.sc (.bool (hasB v p s))) := by
  refine EvD.body Try.func50 rfl (by simp [dataAll, AVal.data]) rfl ?_
  refine AWP.seq ?_
  refine TO ⟨[.agg (vecc g v), .agg [(I6 p), (I6 s)]] ++ UU 20, []⟩ ?_
  refine AWP.reg (RT 3 ?_)
  refine AWP.seq (KL [0, 1] ⟨[U6, U6, .ptr 0 0, .ptr 1 0, (B6 false)] ++ UU 17, [⟨vecc g v, 1, .fresh⟩, ⟨[(I6 p), (I6 s)], 2, .fresh⟩]⟩ ?_)
  refine AWP.drawX mixed (fun o => [7].contains (o.dst.getD 0)) (by kernel_rfl) ?_
  refine DerX.preI 2 ((True) ∧ (((0 : Nat) < (2 : Nat)) ∧ (True))) (by intro ext; kernel_rfl) ⟨trivial, ⟨(by omega), trivial⟩⟩ ?_
  refine DerX.callDI (r_peer p) ⟨by kernel_rfl, by kernel_rfl⟩ ?_
  refine DerX.quietI (True) (by intro ext; kernel_rfl) (by kernel_rfl) trivial ?_
  refine AWP.toX ⟨[U6, U6, .ptr 0 0, .ptr 1 0, (B6 false), .ptr 1 0, (I6 p), (B6 (decide (1 ≤ p ∧ p ≤ 12))), (B6 (decide (1 ≤ p ∧ p ≤ 12)))] ++ UU 13, [⟨vecc g v, 1, .fresh⟩, ⟨[(I6 p), (I6 s)], 2, .fresh⟩]⟩ (by kernel_rfl) ?_
  cases h1 : (decide (1 ≤ p ∧ p ≤ 12))
  · have h1' := of_decide_eq_false h1
    refine DerX.preI 14 ((True) ∧ ((True) ∧ ((True) ∧ ((True) ∧ (True))))) (by intro ext; kernel_rfl) ⟨trivial, ⟨trivial, ⟨trivial, ⟨trivial, trivial⟩⟩⟩⟩ ?_
    refine DerX.nil ?_
    refine AWP.ret ?_
    refine FI (B6 false) ?_
    refine Shrink.all ?_ rfl
    ((first | refine congrArg B6 ?_ | refine congrArg I6 ?_ | congr 2); rw [Bool.eq_iff_iff]; simp [hasB, hasP, *] <;> omega; done)
  · have h1' := of_decide_eq_true h1
    refine DerX.preI 5 ((True) ∧ (((1 : Nat) < (2 : Nat)) ∧ ((True) ∧ ((True) ∧ ((True) ∧ (True)))))) (by intro ext; kernel_rfl) ⟨trivial, ⟨(by omega), ⟨trivial, ⟨trivial, ⟨trivial, trivial⟩⟩⟩⟩⟩ ?_
    refine AWP.toX ⟨[U6, U6, .ptr 0 0, .ptr 1 0, (B6 false), .ptr 1 0, (I6 p), (B6 true), (B6 true), .ptr 1 1, (I6 s), (B6 (decide (s ≥ 1))), (B6 (decide (s ≥ 1))), (B6 (decide (s ≥ 1)))] ++ UU 8, [⟨vecc g v, 1, .fresh⟩, ⟨[(I6 p), (I6 s)], 2, .fresh⟩]⟩ (by kernel_rfl) ?_
    cases h2 : (decide (s ≥ 1))
    · have h2' := of_decide_eq_false h2
      refine DerX.preI 9 ((True) ∧ ((True) ∧ (True))) (by intro ext; kernel_rfl) ⟨trivial, ⟨trivial, trivial⟩⟩ ?_
      refine DerX.nil ?_
      refine AWP.ret ?_
      refine FI (B6 false) ?_
      refine Shrink.all ?_ rfl
      ((first | refine congrArg B6 ?_ | refine congrArg I6 ?_ | congr 2); rw [Bool.eq_iff_iff]; simp [hasB, hasP, *] <;> omega; done)
    · have h2' := of_decide_eq_true h2
      refine DerX.pre 6 ((True) ∧ (((1 : Nat) < (2 : Nat)) ∧ ((True) ∧ (((0 : Nat) < (2 : Nat)) ∧ (((0 ≤ p) ∧ (p < 13)) ∧ ((0 + Int.toNat p * 1 < (vecc g v).length) ∧ (True))))))) [.ptr 1 1, (I6 s), .ptr 1 0, (I6 p), .ptr 0 (0 + Int.toNat p * 1), (vecc g v).getD (0 + Int.toNat p * 1) AVal.undef] ⟨[U6, U6, .ptr 0 0, .ptr 1 0, (B6 false), .ptr 1 0, (I6 p), (B6 true), (B6 true), .ptr 1 1, (I6 s), (B6 true), (B6 true), (B6 true), .ptr 1 1, (I6 s), .ptr 1 0, (I6 p), .ptr 0 (0 + Int.toNat p * 1), (vecc g v).getD (0 + Int.toNat p * 1) U6, U6, .undef], [⟨vecc g v, 1, .fresh⟩, ⟨[(I6 p), (I6 s)], 2, .fresh⟩]⟩ (by intro ext; kernel_rfl) (by kernel_rfl) ⟨trivial, ⟨(by omega), ⟨trivial, ⟨(by omega), ⟨⟨(by omega), (by omega)⟩, ⟨(by (simp [spliceA_length] <;> omega)), trivial⟩⟩⟩⟩⟩⟩ ?_
      rw [Nat.mul_one (Int.toNat p)]
      rw [Nat.zero_add (Int.toNat p)]
      rw [Go.Abs.vecc_get (g) (v) (Int.toNat p) (by omega)]
      refine DerX.preI 3 ((True) ∧ ((True) ∧ ((True) ∧ (True)))) (by intro ext; kernel_rfl) ⟨trivial, ⟨trivial, ⟨trivial, trivial⟩⟩⟩ ?_
      refine DerX.nil ?_
      refine AWP.ret ?_
      refine FI (B6 (decide (s ≤ v (Int.toNat p)))) ?_
      refine Shrink.all ?_ rfl
      ((first | refine congrArg B6 ?_ | refine congrArg I6 ?_ | congr 2); rw [Bool.eq_iff_iff]; simp [hasB, hasP, *] <;> omega; done)
end Go.Ops
