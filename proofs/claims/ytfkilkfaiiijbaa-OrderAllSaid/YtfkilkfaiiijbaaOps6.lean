/- Walks and laws. -/
import Derived.Test.YtfkilkfaiiijbaaOps5
import Derived.Test.YtfkilkfaiiijbaaOpsT
import Derived.Test.YtfkilkfaiiijbaaLibC
set_option maxRecDepth 100000
set_option maxHeartbeats 0
set_option linter.unusedSimpArgs false
set_option linter.unusedVariables false
namespace Go.Ops
open Go Go.Abs Go.Proofs
def befP (p s i : Int) (t : TxD) (idx : Int) : Prop := 1 ≤ i ∧ (hasP t.v p s ∨ (p = t.p ∧ s = t.s ∧ i < idx))
instance (p s i : Int) (t : TxD) (idx : Int) : Decidable (befP p s i t idx) := by unfold befP; infer_instance
theorem o_before (g : Gate) (p s i : Int) (t : TxD) (idx : Int) : EvD Try.prog 18 [.agg [.sc (.int .i64 p), .sc (.int .i64 s), .sc (.int .i64 i)], .agg (txc g t), .sc (.int .i64 idx)] (.sc (.bool (decide (befP p s i t idx)))) := by
  refine EvD.body Try.func18 rfl (by simp [dataAll, AVal.data]) rfl ?_
  refine AWP.seq ?_
  refine TO ⟨[.agg [(I6 p), (I6 s), (I6 i)], .agg (txc g t), (I6 idx)] ++ UU 27, []⟩ ?_
  refine AWP.reg (RT 3 ?_)
  refine AWP.seq (KL [0, 1] ⟨[U6, U6, (I6 idx), .ptr 0 0, .ptr 1 0, U6, (B6 false)] ++ UU 23, [⟨[(I6 p), (I6 s), (I6 i)], 3, .fresh⟩, ⟨txc g t, 17, .fresh⟩]⟩ ?_)
  refine AWP.reg (PI 4 (True ∧ 2 < 3 ∧ True ∧ True ∧ True) ⟨trivial, (by omega), trivial, trivial, trivial⟩ ?_)
  refine DerQ.to ⟨[U6, U6, (I6 idx), .ptr 0 0, .ptr 1 0, U6, (B6 false), .ptr 0 2, (I6 i), (B6 (decide (i ≥ 1))), (B6 (decide (i ≥ 1)))] ++ UU 19, [⟨[(I6 p), (I6 s), (I6 i)], 3, .fresh⟩, ⟨txc g t, 17, .fresh⟩]⟩ (by kernel_rfl) ?_
  cases h1 : (decide (i ≥ 1))
  · have h1' := of_decide_eq_false h1
    refine RT 2 ?_
    refine AWP.ret ?_
    refine FI (B6 false) ?_
    refine Shrink.all ?_ rfl
    ((first | refine congrArg B6 ?_ | refine congrArg I6 ?_ | congr 2); rw [Bool.eq_iff_iff]; simp [befP, hasB, *] <;> omega; done)
  · have h1' := of_decide_eq_true h1
    refine DerQ.pre 4 (True ∧ (15 ≤ (txc g t).length) ∧ True ∧ 2 ≤ 3 ∧ True) ⟨[U6, U6, (I6 idx), .ptr 0 0, .ptr 1 0, U6, (B6 false), .ptr 0 2, (I6 i), (B6 true), (B6 true), .ptr 1 2, .agg (List.take 13 (List.drop 2 (txc g t))), .ptr 0 0, .agg [(I6 p), (I6 s)]] ++ UU 15, [⟨[(I6 p), (I6 s), (I6 i)], 3, .fresh⟩, ⟨txc g t, 17, .fresh⟩]⟩ (by kernel_rfl) ⟨trivial, (by simp), trivial, (by omega), trivial⟩ ?_
    rw [Go.Ops.tx_deps (g) (t)]
    refine CD (v_has g t.v p s) ?_
    refine PT 1 1 ?_
    refine DerQ.to ⟨[U6, U6, (I6 idx), .ptr 0 0, .ptr 1 0, U6, (B6 false), .ptr 0 2, (I6 i), (B6 true), (B6 true), .ptr 1 2, .agg (vecc g t.v), .ptr 0 0, .agg [(I6 p), (I6 s)], (B6 (hasB t.v p s)), (B6 (hasB t.v p s))] ++ UU 13, [⟨[(I6 p), (I6 s), (I6 i)], 3, .fresh⟩, ⟨txc g t, 17, .fresh⟩]⟩ (by kernel_rfl) ?_
    cases h2 : (hasB t.v p s)
    · refine DerQ.pre 4 (True ∧ 2 ≤ 3 ∧ True ∧ (2 ≤ (txc g t).length) ∧ True) ⟨[U6, U6, (I6 idx), .ptr 0 0, .ptr 1 0, U6, (B6 false), .ptr 0 2, (I6 i), (B6 true), (B6 true), .ptr 1 2, .agg (vecc g t.v), .ptr 0 0, .agg [(I6 p), (I6 s)], (B6 false), (B6 false), .ptr 0 0, .agg [(I6 p), (I6 s)], .ptr 1 0, .agg (List.take 2 (List.drop 0 (txc g t)))] ++ UU 9, [⟨[(I6 p), (I6 s), (I6 i)], 3, .fresh⟩, ⟨txc g t, 17, .fresh⟩]⟩ (by kernel_rfl) ⟨trivial, (by omega), trivial, (by simp), trivial⟩ ?_
      rw [List.drop_zero]
      rw [Go.Ops.tx_dot (g) (t)]
      refine PI 2 (((((0 : Nat) < (2 : Nat)) ∧ (((0 : Nat) < (2 : Nat)) ∧ (True))) ∧ (((1 : Nat) < (2 : Nat)) ∧ (((1 : Nat) < (2 : Nat)) ∧ (True)))) ∧ True ∧ True) ⟨⟨⟨(by omega), ⟨(by omega), trivial⟩⟩, ⟨(by omega), ⟨(by omega), trivial⟩⟩⟩, trivial, trivial⟩ ?_
      refine DerQ.to ⟨[U6, U6, (I6 idx), .ptr 0 0, .ptr 1 0, U6, (B6 false), .ptr 0 2, (I6 i), (B6 true), (B6 true), .ptr 1 2, .agg (vecc g t.v), .ptr 0 0, .agg [(I6 p), (I6 s)], (B6 false), (B6 false), .ptr 0 0, .agg [(I6 p), (I6 s)], .ptr 1 0, .agg [(I6 (t.p)), (I6 (t.s))], (B6 (p == t.p && s == t.s)), (B6 (p == t.p && s == t.s))] ++ UU 7, [⟨[(I6 p), (I6 s), (I6 i)], 3, .fresh⟩, ⟨txc g t, 17, .fresh⟩]⟩ (by kernel_rfl) ?_
      cases h3 : (p == t.p && s == t.s)
      · have h3' := h3
        simp only [Bool.and_eq_true, Bool.and_eq_false_iff, Bool.or_eq_true, Bool.or_eq_false_iff, Bool.not_eq_true', Bool.not_eq_false', beq_iff_eq, beq_eq_false_iff_ne, decide_eq_true_eq, decide_eq_false_iff_not, ne_eq] at h3'
        refine RT 4 ?_
        refine AWP.ret ?_
        refine FI (B6 false) ?_
        refine Shrink.all ?_ rfl
        ((first | refine congrArg B6 ?_ | refine congrArg I6 ?_ | congr 2); grind [befP, hasB]; done)
      · have h3' := h3
        simp only [Bool.and_eq_true, Bool.and_eq_false_iff, Bool.or_eq_true, Bool.or_eq_false_iff, Bool.not_eq_true', Bool.not_eq_false', beq_iff_eq, beq_eq_false_iff_ne, decide_eq_true_eq, decide_eq_false_iff_not, ne_eq] at h3'
        refine RI (True ∧ 2 < 3 ∧ True ∧ True ∧ True ∧ True ∧ True ∧ True ∧ True) ⟨trivial, (by omega), trivial, trivial, trivial, trivial, trivial, trivial, trivial⟩ ?_
        refine AWP.ret ?_
        refine FI (B6 (decide (i < idx))) ?_
        refine Shrink.all ?_ rfl
        ((first | refine congrArg B6 ?_ | refine congrArg I6 ?_ | congr 2); grind [befP, hasB]; done)
    · refine RT 3 ?_
      refine AWP.ret ?_
      refine FI (B6 true) ?_
      refine Shrink.all ?_ rfl
      ((first | refine congrArg B6 ?_ | refine congrArg I6 ?_ | congr 2); grind [befP, hasB]; done)
theorem r_before (g : Gate) (p s i : Int) (t : TxD) (idx : Int) : EvD Try.prog 27 [.agg [.sc (.int .i64 p), .sc (.int .i64 s), .sc (.int .i64 i)], .agg (txc g t), .sc (.int .i64 idx)] (.sc (.bool (decide (befP p s i t idx)))) := by
  refine EvD.body Try.func27 rfl (by simp [dataAll, AVal.data]) rfl ?_
  refine AWP.seq ?_
  refine TO ⟨[.agg [(I6 p), (I6 s), (I6 i)], .agg (txc g t), (I6 idx)] ++ UU 23, []⟩ ?_
  refine AWP.reg (RT 3 ?_)
  refine AWP.seq (AWP.seq (KL [0, 1] ⟨[U6, U6, (I6 idx), .ptr 0 0, .ptr 1 0, U6, (B6 false)] ++ UU 19, [⟨[(I6 p), (I6 s), (I6 i)], 3, .fresh⟩, ⟨txc g t, 17, .fresh⟩]⟩ ?_))
  refine AWP.reg (RI (True ∧ 2 < 3 ∧ True ∧ True) ⟨trivial, (by omega), trivial, trivial⟩ ?_)
  refine KL [7, 8] ⟨[U6, U6, (I6 idx), .ptr 0 0, .ptr 1 0, U6, (B6 false), U6, U6, (B6 (decide (i < 1)))] ++ UU 16, [⟨[(I6 p), (I6 s), (I6 i)], 3, .fresh⟩, ⟨txc g t, 17, .fresh⟩]⟩ ?_
  refine CN (decide (i < 1)) (fun h1 => ?_) (fun h1 => ?_)
  · have h1' := of_decide_eq_true h1
    refine SQ (RT 1 ?_)
    refine AWP.ret ?_
    refine FI (B6 false) ?_
    refine Shrink.all ?_ rfl
    ((first | refine congrArg B6 ?_ | refine congrArg I6 ?_ | congr 2); grind [befP, hasB]; done)
  · have h1' := of_decide_eq_false h1
    refine AWP.skip (AWP.seq (SQ ?_))
    refine DerQ.pre 4 (True ∧ 2 ≤ 3 ∧ True ∧ (2 ≤ (txc g t).length) ∧ True) ⟨[U6, U6, (I6 idx), .ptr 0 0, .ptr 1 0, U6, (B6 false), U6, U6, (B6 (decide (i < 1))), .ptr 0 0, .agg [(I6 p), (I6 s)], .ptr 1 0, .agg (List.take 2 (List.drop 0 (txc g t)))] ++ UU 12, [⟨[(I6 p), (I6 s), (I6 i)], 3, .fresh⟩, ⟨txc g t, 17, .fresh⟩]⟩ (by kernel_rfl) ⟨trivial, (by omega), trivial, (by simp), trivial⟩ ?_
    rw [List.drop_zero]
    rw [Go.Ops.tx_dot (g) (t)]
    refine PI 2 (((((0 : Nat) < (2 : Nat)) ∧ (((0 : Nat) < (2 : Nat)) ∧ (True))) ∧ (((1 : Nat) < (2 : Nat)) ∧ (((1 : Nat) < (2 : Nat)) ∧ (True)))) ∧ True ∧ True) ⟨⟨⟨(by omega), ⟨(by omega), trivial⟩⟩, ⟨(by omega), ⟨(by omega), trivial⟩⟩⟩, trivial, trivial⟩ ?_
    refine DerQ.to ⟨[U6, U6, (I6 idx), .ptr 0 0, .ptr 1 0, U6, (B6 false), U6, U6, (B6 (decide (i < 1))), .ptr 0 0, .agg [(I6 p), (I6 s)], .ptr 1 0, .agg [(I6 (t.p)), (I6 (t.s))], (B6 (p == t.p && s == t.s)), (B6 (p == t.p && s == t.s))] ++ UU 10, [⟨[(I6 p), (I6 s), (I6 i)], 3, .fresh⟩, ⟨txc g t, 17, .fresh⟩]⟩ (by kernel_rfl) ?_
    cases h2 : (p == t.p && s == t.s)
    · have h2' := h2
      simp only [Bool.and_eq_true, Bool.and_eq_false_iff, Bool.or_eq_true, Bool.or_eq_false_iff, Bool.not_eq_true', Bool.not_eq_false', beq_iff_eq, beq_eq_false_iff_ne, decide_eq_true_eq, decide_eq_false_iff_not, ne_eq] at h2'
      refine RT 1 ?_
      refine KL ([2] ++ NN 9 11) ⟨[U6, U6, U6, .ptr 0 0, .ptr 1 0, U6, (B6 false)] ++ UU 13 ++ [(B6 false)] ++ UU 5, [⟨[(I6 p), (I6 s), (I6 i)], 3, .fresh⟩, ⟨txc g t, 17, .fresh⟩]⟩ ?_
      refine CN false (fun h => nomatch h) (fun _ => ?_)
      refine AWP.skip (SQ ?_)
      refine DerQ.pre 4 (True ∧ (15 ≤ (txc g t).length) ∧ True ∧ 2 ≤ 3 ∧ True) ⟨[U6, U6, U6, .ptr 0 0, .ptr 1 0, U6, (B6 false)] ++ UU 13 ++ [(B6 false), .ptr 1 2, .agg (List.take 13 (List.drop 2 (txc g t))), .ptr 0 0, .agg [(I6 p), (I6 s)], .undef], [⟨[(I6 p), (I6 s), (I6 i)], 3, .fresh⟩, ⟨txc g t, 17, .fresh⟩]⟩ (by kernel_rfl) ⟨trivial, (by simp), trivial, (by omega), trivial⟩ ?_
      rw [Go.Ops.tx_deps (g) (t)]
      refine CD (r_has g t.v p s) ?_
      refine RT 1 ?_
      refine AWP.ret ?_
      refine FI (B6 (hasB t.v p s)) ?_
      refine Shrink.all ?_ rfl
      ((first | refine congrArg B6 ?_ | refine congrArg I6 ?_ | congr 2); grind [befP, hasB]; done)
    · have h2' := h2
      simp only [Bool.and_eq_true, Bool.and_eq_false_iff, Bool.or_eq_true, Bool.or_eq_false_iff, Bool.not_eq_true', Bool.not_eq_false', beq_iff_eq, beq_eq_false_iff_ne, decide_eq_true_eq, decide_eq_false_iff_not, ne_eq] at h2'
      refine RI (True ∧ 2 < 3 ∧ True ∧ True ∧ True ∧ True) ⟨trivial, (by omega), trivial, trivial, trivial, trivial⟩ ?_
      refine KL ([2] ++ NN 9 11) ⟨[U6, U6, U6, .ptr 0 0, .ptr 1 0, U6, (B6 false)] ++ UU 13 ++ [(B6 (decide (i < idx)))] ++ UU 5, [⟨[(I6 p), (I6 s), (I6 i)], 3, .fresh⟩, ⟨txc g t, 17, .fresh⟩]⟩ ?_
      refine CN (decide (i < idx)) (fun h3 => ?_) (fun h3 => ?_)
      · have h3' := of_decide_eq_true h3
        refine SQ (RT 1 ?_)
        refine AWP.ret ?_
        refine FI (B6 true) ?_
        refine Shrink.all ?_ rfl
        ((first | refine congrArg B6 ?_ | refine congrArg I6 ?_ | congr 2); grind [befP, hasB]; done)
      · have h3' := of_decide_eq_false h3
        refine AWP.skip (SQ ?_)
        refine DerQ.pre 4 (True ∧ (15 ≤ (txc g t).length) ∧ True ∧ 2 ≤ 3 ∧ True) ⟨[U6, U6, U6, .ptr 0 0, .ptr 1 0, U6, (B6 false)] ++ UU 13 ++ [(B6 (decide (i < idx))), .ptr 1 2, .agg (List.take 13 (List.drop 2 (txc g t))), .ptr 0 0, .agg [(I6 p), (I6 s)], .undef], [⟨[(I6 p), (I6 s), (I6 i)], 3, .fresh⟩, ⟨txc g t, 17, .fresh⟩]⟩ (by kernel_rfl) ⟨trivial, (by simp), trivial, (by omega), trivial⟩ ?_
        rw [Go.Ops.tx_deps (g) (t)]
        refine CD (r_has g t.v p s) ?_
        refine RT 1 ?_
        refine AWP.ret ?_
        refine FI (B6 (hasB t.v p s)) ?_
        refine Shrink.all ?_ rfl
        ((first | refine congrArg B6 ?_ | refine congrArg I6 ?_ | congr 2); grind [befP, hasB]; done)
theorem vecc_take (g : Gate) (v : Nat → Int) : List.take 13 (vecc g v) = vecc g v := List.take_of_length_le (by simp)
def goodP (v : Nat → Int) (j : Nat) : Prop := 0 ≤ v j ∧ v j ≤ 1048576 ∧ (j = 0 → v j = 0)
instance (v : Nat → Int) (j : Nat) : Decidable (goodP v j) := by unfold goodP; infer_instance
def chkP (v : Nat → Int) : Prop := ∀ j, j < 13 → goodP v j
instance (v : Nat → Int) : Decidable (chkP v) := by unfold chkP; infer_instance
theorem chk_no (v : Nat → Int) (i : Nat) (hi : i < 13) (h : ¬ goodP v i) : AVal.sc (.bool false) = .sc (.bool (decide (chkP v))) := by
  have : decide (chkP v) = false := decide_eq_false_iff_not.2 fun hc => h (hc i hi)
  rw [this]
theorem chk_yes (v : Nat → Int) (h : ∀ j, j < 13 → goodP v j) : AVal.sc (.bool true) = .sc (.bool (decide (chkP v))) := by
  have : decide (chkP v) = true := decide_eq_true_iff.2 h
  rw [this]
theorem v_check (g : Gate) (v : Nat → Int) : EvD Try.prog 101 [.agg (vecc g v)] (.sc (.bool (decide (chkP v)))) := by
  refine EvD.body Try.func101 rfl (by simp [dataAll, AVal.data]) rfl ?_
  refine SQ ?_
  refine DerQ.run (TT 2) ⟨[.agg (vecc g v), .ptr 0 0, (B6 false)] ++ UU 22, [⟨vecc g v, 1, .fresh⟩]⟩ (by kernel_rfl) (tt 2) ?_
  refine AWP.seq (SQ ?_)
  refine DerQ.run ((13 ≤ (vecc g v).length) ∧ True ∧ True) ⟨[.agg (vecc g v), .ptr 0 0, (B6 false), U6, U6, .agg (List.take 13 (List.drop 0 (vecc g v))), (I6 0)] ++ UU 18, [⟨vecc g v, 1, .fresh⟩]⟩ (by kernel_rfl) ⟨(by simp), trivial, trivial⟩ ?_
  rw [List.drop_zero]
  refine AWP.block ?_
  refine AWP.loopM [true, true, true, false, false, true, true, false, false, false, false, false, false, false, false, false, false, false, false, false, false, false, false, false, false] (fun kk st => ∃ (i : Nat), kk = 13 - i ∧ i ≤ 13 ∧ (∀ j, j < i → goodP v j) ∧ st = ⟨[.agg (vecc g v), .ptr 0 0, (B6 false), U6, U6, .agg (vecc g v), (I6 (i : Int)), U6, U6, U6, U6, U6, U6, U6, U6, U6, U6, U6, U6, U6, U6, U6, U6, U6, .undef], [⟨vecc g v, 1, .fresh⟩]⟩) _ ⟨0, rfl, by omega, by omega, by rw [vecc_take]; kernel_rfl⟩ ?_
  rintro kk s ⟨i, rfl, hi, hd, rfl⟩
  refine SQ ?_
  refine DerQ.run (True ∧ True) ⟨[.agg (vecc g v), .ptr 0 0, (B6 false), U6, U6, .agg (vecc g v), (I6 i), (B6 (decide ((↑i : Int) < 13)))] ++ UU 17, [⟨vecc g v, 1, .fresh⟩]⟩ (by kernel_rfl) ⟨trivial, trivial⟩ ?_
  refine AWP.seq ?_
  refine CN (decide ((↑i : Int) < 13)) (fun h1 => ?_) (fun h1 => ?_)
  · have h1' := of_decide_eq_true h1
    refine AWP.skip (AWP.seq (AWP.block (SQ ?_)))
    refine DerQ.run (True ∧ (((0 ≤ (↑i : Int)) ∧ ((↑i : Int) < 13)) ∧ (Int.toNat i * 1 < (vecc g v).length)) ∧ True ∧ True ∧ True) ⟨[.agg (vecc g v), .ptr 0 0, (B6 false), (I6 i), ev [AVal.agg (vecc g v), AVal.ptr 0 0, (B6 false), (I6 i), U6, AVal.agg (vecc g v), (I6 i), (B6 (decide ((↑i : Int) < 13))), (I6 i), (vecc g v).getD (Int.toNat i * 1) U6, U6, U6, U6, U6, U6, U6, U6, U6, U6, U6, U6, U6, U6, U6, AVal.undef] (Operand.tmp 9), .agg (vecc g v), (I6 i), (B6 (decide ((↑i : Int) < 13))), (I6 i), (vecc g v).getD (Int.toNat i * 1) AVal.undef] ++ UU 15, [⟨vecc g v, 1, .fresh⟩]⟩ (by kernel_rfl) ⟨trivial, ⟨⟨(by omega), (by omega)⟩, (by (simp [spliceA_length] <;> omega))⟩, trivial, trivial, trivial⟩ ?_
    rw [Int.toNat_natCast (i)]
    rw [Nat.mul_one (i)]
    rw [Go.Abs.vecc_get (g) (v) (i) (by omega)]
    refine SQ ?_
    refine DerQ.pre 3 (TT 3) ⟨[.agg (vecc g v), .ptr 0 0, (B6 false), (I6 i), (I6 (v i)), .agg (vecc g v), (I6 i), (B6 (decide ((↑i : Int) < 13))), (I6 i), (I6 (v i)), (I6 (v i)), (B6 (decide (v i < 0))), (B6 (decide (v i < 0)))] ++ UU 12, [⟨vecc g v, 1, .fresh⟩]⟩ (by kernel_rfl) (tt 3) ?_
    cases h2 : (decide (v i < 0))
    · have h2' := of_decide_eq_false h2
      refine DerQ.pre 4 (TT 4) ⟨[.agg (vecc g v), .ptr 0 0, (B6 false), (I6 i), (I6 (v i)), .agg (vecc g v), (I6 i), (B6 (decide ((↑i : Int) < 13))), (I6 i), (I6 (v i)), (I6 (v i)), (B6 false), (B6 false), (I6 (v i)), (B6 (decide (v i > 1048576))), (B6 (decide (v i > 1048576))), (B6 (decide (v i > 1048576)))] ++ UU 8, [⟨vecc g v, 1, .fresh⟩]⟩ (by kernel_rfl) (tt 4) ?_
      cases h3 : (decide (v i > 1048576))
      · have h3' := of_decide_eq_false h3
        refine DerQ.pre 3 (TT 3) ⟨[.agg (vecc g v), .ptr 0 0, (B6 false), (I6 i), (I6 (v i)), .agg (vecc g v), (I6 i), (B6 (decide ((↑i : Int) < 13))), (I6 i), (I6 (v i)), (I6 (v i)), (B6 false), (B6 false), (I6 (v i)), (B6 false), (B6 false), (B6 false), (I6 i), (B6 ((↑i : Int) == 0)), (B6 ((↑i : Int) == 0))] ++ UU 5, [⟨vecc g v, 1, .fresh⟩]⟩ (by kernel_rfl) (tt 3) ?_
        cases h4 : ((↑i : Int) == 0)
        · have h4' := ne_of_beq_false h4
          refine DerQ.run (TT 2) ⟨[.agg (vecc g v), .ptr 0 0, (B6 false), (I6 i), (I6 (v i)), .agg (vecc g v), (I6 i), (B6 (decide ((↑i : Int) < 13))), (I6 i), (I6 (v i)), (I6 (v i)), (B6 false), (B6 false), (I6 (v i)), (B6 false), (B6 false), (B6 false), (I6 i), (B6 false), (B6 false), .tup [], .tup [], (B6 false), (B6 false), .undef], [⟨vecc g v, 1, .fresh⟩]⟩ (by kernel_rfl) (tt 2) ?_
          refine CN false (fun h => nomatch h) (fun _ => ?_)
          refine AWP.skip (AWP.reg ?_)
          refine DerQ.run (TT 2) ⟨[.agg (vecc g v), .ptr 0 0, (B6 false), (I6 i), (I6 (v i)), .agg (vecc g v), (I6 (IntKind.wrap IntKind.i64 ((↑i : Int) + 1))), (B6 (decide ((↑i : Int) < 13))), (I6 i), (I6 (v i)), (I6 (v i)), (B6 false), (B6 false), (I6 (v i)), (B6 false), (B6 false), (B6 false), (I6 i), (B6 false), (B6 false), .tup [], .tup [], (B6 false), (B6 false), (I6 (IntKind.wrap IntKind.i64 ((↑i : Int) + 1)))], [⟨vecc g v, 1, .fresh⟩]⟩ (by kernel_rfl) (tt 2) ?_
          rw [IntWalk.i64_in ((↑i : Int) + 1) (by omega)]
          exact ⟨_, by omega, i + 1, rfl, by omega, fun j hj => by
            by_cases e : j = i
            · subst e; unfold goodP; omega
            · exact hd j (by omega), by kernel_rfl⟩
        · have h4' := eq_of_beq h4
          refine DerQ.run (TT 4) ⟨[.agg (vecc g v), .ptr 0 0, (B6 false), (I6 i), (I6 (v i)), .agg (vecc g v), (I6 i), (B6 (decide ((↑i : Int) < 13))), (I6 i), (I6 (v i)), (I6 (v i)), (B6 false), (B6 false), (I6 (v i)), (B6 false), (B6 false), (B6 false), (I6 i), (B6 true), (B6 true), (I6 (v i)), (B6 (v i != 0)), (B6 (v i != 0)), (B6 (v i != 0)), .undef], [⟨vecc g v, 1, .fresh⟩]⟩ (by kernel_rfl) (tt 4) ?_
          refine CN (v i != 0) (fun h5 => ?_) (fun h5 => ?_)
          · have h5' := bne_iff_ne.1 h5
            refine SQ ?_
            refine DerQ.run (True ∧ True) ⟨[.agg (vecc g v), .ptr 0 0, (B6 false), (I6 i), (I6 (v i)), .agg (vecc g v), (I6 i), (B6 (decide ((↑i : Int) < 13))), (I6 i), (I6 (v i)), (I6 (v i)), (B6 false), (B6 false), (I6 (v i)), (B6 false), (B6 false), (B6 false), (I6 i), (B6 true), (B6 true), (I6 (v i)), (B6 (v i != 0)), (B6 (v i != 0)), (B6 (v i != 0)), .undef], [⟨vecc g v, 1, .fresh⟩]⟩ (by kernel_rfl) ⟨trivial, trivial⟩ ?_
            refine AWP.ret ?_
            refine FI (B6 false) ?_
            refine Shrink.all ?_ rfl
            (exact chk_no v i (by omega) (by unfold goodP; omega); done)
          · have h5' := bne_eq_false_iff_eq.1 h5
            refine AWP.skip (AWP.reg ?_)
            refine DerQ.run (TT 2) ⟨[.agg (vecc g v), .ptr 0 0, (B6 false), (I6 i), (I6 (v i)), .agg (vecc g v), (I6 (IntKind.wrap IntKind.i64 ((↑i : Int) + 1))), (B6 (decide ((↑i : Int) < 13))), (I6 i), (I6 (v i)), (I6 (v i)), (B6 false), (B6 false), (I6 (v i)), (B6 false), (B6 false), (B6 false), (I6 i), (B6 true), (B6 true), (I6 (v i)), (B6 (v i != 0)), (B6 (v i != 0)), (B6 (v i != 0)), (I6 (IntKind.wrap IntKind.i64 ((↑i : Int) + 1)))], [⟨vecc g v, 1, .fresh⟩]⟩ (by kernel_rfl) (tt 2) ?_
            rw [IntWalk.i64_in ((↑i : Int) + 1) (by omega)]
            exact ⟨_, by omega, i + 1, rfl, by omega, fun j hj => by
              by_cases e : j = i
              · subst e; unfold goodP; omega
              · exact hd j (by omega), by kernel_rfl⟩
      · have h3' := of_decide_eq_true h3
        refine DerQ.run (True ∧ True) ⟨[.agg (vecc g v), .ptr 0 0, (B6 false), (I6 i), (I6 (v i)), .agg (vecc g v), (I6 i), (B6 (decide ((↑i : Int) < 13))), (I6 i), (I6 (v i)), (I6 (v i)), (B6 false), (B6 false), (I6 (v i)), (B6 true), (B6 true), (B6 true), .tup [], .tup [], .tup [], .tup [], .tup [], .tup [], (B6 true), .undef], [⟨vecc g v, 1, .fresh⟩]⟩ (by kernel_rfl) ⟨trivial, trivial⟩ ?_
        refine CN true (fun _ => ?_) (fun h => nomatch h)
        refine SQ ?_
        refine DerQ.run (True ∧ True) ⟨[.agg (vecc g v), .ptr 0 0, (B6 false), (I6 i), (I6 (v i)), .agg (vecc g v), (I6 i), (B6 (decide ((↑i : Int) < 13))), (I6 i), (I6 (v i)), (I6 (v i)), (B6 false), (B6 false), (I6 (v i)), (B6 true), (B6 true), (B6 true), .tup [], .tup [], .tup [], .tup [], .tup [], .tup [], (B6 true), .undef], [⟨vecc g v, 1, .fresh⟩]⟩ (by kernel_rfl) ⟨trivial, trivial⟩ ?_
        refine AWP.ret ?_
        refine FI (B6 false) ?_
        refine Shrink.all ?_ rfl
        (exact chk_no v i (by omega) (by unfold goodP; omega); done)
    · have h2' := of_decide_eq_true h2
      refine DerQ.run (TT 3) ⟨[.agg (vecc g v), .ptr 0 0, (B6 false), (I6 i), (I6 (v i)), .agg (vecc g v), (I6 i), (B6 (decide ((↑i : Int) < 13))), (I6 i), (I6 (v i)), (I6 (v i)), (B6 true), (B6 true), .tup [], .tup [], (B6 true), (B6 true), .tup [], .tup [], .tup [], .tup [], .tup [], .tup [], (B6 true), .undef], [⟨vecc g v, 1, .fresh⟩]⟩ (by kernel_rfl) (tt 3) ?_
      refine CN true (fun _ => ?_) (fun h => nomatch h)
      refine SQ ?_
      refine DerQ.run (True ∧ True) ⟨[.agg (vecc g v), .ptr 0 0, (B6 false), (I6 i), (I6 (v i)), .agg (vecc g v), (I6 i), (B6 (decide ((↑i : Int) < 13))), (I6 i), (I6 (v i)), (I6 (v i)), (B6 true), (B6 true), .tup [], .tup [], (B6 true), (B6 true), .tup [], .tup [], .tup [], .tup [], .tup [], .tup [], (B6 true), .undef], [⟨vecc g v, 1, .fresh⟩]⟩ (by kernel_rfl) ⟨trivial, trivial⟩ ?_
      refine AWP.ret ?_
      refine FI (B6 false) ?_
      refine Shrink.all ?_ rfl
      (exact chk_no v i (by omega) (by unfold goodP; omega); done)
  · have h1' := of_decide_eq_false h1
    refine AWP.exit ?_
    refine SQ ?_
    refine DerQ.run (True ∧ True) ⟨[.agg (vecc g v), .ptr 0 0, (B6 true), U6, U6, .agg (vecc g v), (I6 i), (B6 (decide ((↑i : Int) < 13)))] ++ UU 17, [⟨vecc g v, 1, .fresh⟩]⟩ (by kernel_rfl) ⟨trivial, trivial⟩ ?_
    refine AWP.ret ?_
    refine FI (B6 true) ?_
    refine Shrink.all ?_ rfl
    (exact chk_yes v (fun j hj => hd j (by omega)); done)
theorem r_check (g : Gate) (v : Nat → Int) : EvD Try.prog 93 [.agg (vecc g v)] (.sc (.bool (decide (chkP v)))) := by
  refine EvD.body Try.func93 rfl (by simp [dataAll, AVal.data]) rfl ?_
  refine SQ ?_
  refine DerQ.run (TT 2) ⟨[.agg (vecc g v), .ptr 0 0, (B6 false)] ++ UU 18, [⟨vecc g v, 1, .fresh⟩]⟩ (by kernel_rfl) (tt 2) ?_
  refine AWP.seq (SQ ?_)
  refine DerQ.run (True ∧ True) ⟨[.agg (vecc g v), .ptr 0 0, (B6 false), (I6 1)] ++ UU 17, [⟨vecc g v, 1, .fresh⟩]⟩ (by kernel_rfl) ⟨trivial, trivial⟩ ?_
  refine AWP.block ?_
  refine AWP.loopM [true, true, true, true, false, false, false, false, false, false, false, false, false, false, false, false, false, false, false, false, false] (fun kk st => ∃ (i : Nat), kk = 13 - i ∧ i ≤ 13 ∧ 1 ≤ i ∧ (∀ j, 1 ≤ j → j < i → goodP v j) ∧ st = ⟨[.agg (vecc g v), .ptr 0 0, (B6 false), (I6 (i : Int)), U6, U6, U6, U6, U6, U6, U6, U6, U6, U6, U6, U6, U6, U6, U6, U6, .undef], [⟨vecc g v, 1, .fresh⟩]⟩) _ ⟨1, rfl, by omega, by omega, by omega, rfl⟩ ?_
  rintro kk s ⟨i, rfl, hi, hi1, hd, rfl⟩
  refine AWP.seq (SQ ?_)
  refine DerQ.run (TT 2) ⟨[.agg (vecc g v), .ptr 0 0, (B6 false), (I6 i), (I6 i), (B6 (decide ((↑i : Int) ≤ 12)))] ++ UU 15, [⟨vecc g v, 1, .fresh⟩]⟩ (by kernel_rfl) (tt 2) ?_
  refine CN (decide ((↑i : Int) ≤ 12)) (fun h1 => ?_) (fun h1 => ?_)
  · have h1' := of_decide_eq_true h1
    refine AWP.skip (AWP.seq (AWP.block (SQ ?_)))
    refine DerQ.pre 3 (True ∧ ((0 ≤ (↑i : Int)) ∧ ((↑i : Int) < 13)) ∧ (0 + Int.toNat i * 1 < (vecc g v).length) ∧ True) ⟨[.agg (vecc g v), .ptr 0 0, (B6 false), (I6 i), (I6 i), (B6 (decide ((↑i : Int) ≤ 12))), U6, U6, (I6 i), .ptr 0 (0 + Int.toNat i * 1), (vecc g v).getD (0 + Int.toNat i * 1) AVal.undef] ++ UU 10, [⟨vecc g v, 1, .fresh⟩]⟩ (by kernel_rfl) ⟨trivial, ⟨(by omega), (by omega)⟩, (by (simp [spliceA_length] <;> omega)), trivial⟩ ?_
    rw [Int.toNat_natCast (i)]
    rw [Nat.mul_one (i)]
    rw [Nat.zero_add (i)]
    rw [Go.Abs.vecc_get (g) (v) (i) (by omega)]
    refine DerQ.pre 2 (TT 2) ⟨[.agg (vecc g v), .ptr 0 0, (B6 false), (I6 i), (I6 i), (B6 (decide ((↑i : Int) ≤ 12))), U6, U6, (I6 i), .ptr 0 (i), (I6 (v i)), (B6 (decide (v i < 0))), (B6 (decide (v i < 0)))] ++ UU 8, [⟨vecc g v, 1, .fresh⟩]⟩ (by kernel_rfl) (tt 2) ?_
    cases h2 : (decide (v i < 0))
    · have h2' := of_decide_eq_false h2
      refine DerQ.pre 3 (True ∧ ((0 ≤ (↑i : Int)) ∧ ((↑i : Int) < 13)) ∧ (0 + Int.toNat i * 1 < (vecc g v).length) ∧ True) ⟨[.agg (vecc g v), .ptr 0 0, (B6 false), (I6 i), (I6 i), (B6 (decide ((↑i : Int) ≤ 12))), U6, U6, (I6 i), .ptr 0 (i), (I6 (v i)), (B6 false), (B6 false), (I6 i), .ptr 0 (0 + Int.toNat i * 1), (vecc g v).getD (0 + Int.toNat i * 1) AVal.undef] ++ UU 5, [⟨vecc g v, 1, .fresh⟩]⟩ (by kernel_rfl) ⟨trivial, ⟨(by omega), (by omega)⟩, (by (simp [spliceA_length] <;> omega)), trivial⟩ ?_
      rw [Int.toNat_natCast (i)]
      rw [Nat.mul_one (i)]
      rw [Nat.zero_add (i)]
      rw [Go.Abs.vecc_get (g) (v) (i) (by omega)]
      refine DerQ.run (TT 2) ⟨[.agg (vecc g v), .ptr 0 0, (B6 false), (I6 i), (I6 i), (B6 (decide ((↑i : Int) ≤ 12))), U6, U6, (I6 i), .ptr 0 (i), (I6 (v i)), (B6 false), (B6 false), (I6 i), .ptr 0 (i), (I6 (v i)), (B6 (decide (v i > 1048576))), (B6 (decide (v i > 1048576))), U6, U6, .undef], [⟨vecc g v, 1, .fresh⟩]⟩ (by kernel_rfl) (tt 2) ?_
      refine CN (decide (v i > 1048576)) (fun h3 => ?_) (fun h3 => ?_)
      · have h3' := of_decide_eq_true h3
        refine SQ ?_
        refine DerQ.run (True ∧ True) ⟨[.agg (vecc g v), .ptr 0 0, (B6 false), (I6 i), (I6 i), (B6 (decide ((↑i : Int) ≤ 12))), U6, U6, (I6 i), .ptr 0 (i), (I6 (v i)), (B6 false), (B6 false), (I6 i), .ptr 0 (i), (I6 (v i)), (B6 (decide (v i > 1048576))), (B6 (decide (v i > 1048576))), U6, U6, .undef], [⟨vecc g v, 1, .fresh⟩]⟩ (by kernel_rfl) ⟨trivial, trivial⟩ ?_
        refine AWP.ret ?_
        refine FI (B6 false) ?_
        refine Shrink.all ?_ rfl
        (exact chk_no v i (by omega) (by unfold goodP; omega); done)
      · have h3' := of_decide_eq_false h3
        refine AWP.skip (AWP.reg ?_)
        refine DerQ.run (TT 3) ⟨[.agg (vecc g v), .ptr 0 0, (B6 false), (I6 (IntKind.wrap IntKind.i64 ((↑i : Int) + 1))), (I6 i), (B6 (decide ((↑i : Int) ≤ 12))), (I6 i), (I6 (IntKind.wrap IntKind.i64 ((↑i : Int) + 1))), (I6 i), .ptr 0 (i), (I6 (v i)), (B6 false), (B6 false), (I6 i), .ptr 0 (i), (I6 (v i)), (B6 (decide (v i > 1048576))), (B6 (decide (v i > 1048576))), U6, U6, .undef], [⟨vecc g v, 1, .fresh⟩]⟩ (by kernel_rfl) (tt 3) ?_
        rw [IntWalk.i64_in ((↑i : Int) + 1) (by omega)]
        exact ⟨_, by omega, i + 1, rfl, by omega, by omega, fun j hj1 hj => by
          by_cases e : j = i
          · subst e; unfold goodP; omega
          · exact hd j hj1 (by omega), by kernel_rfl⟩
    · have h2' := of_decide_eq_true h2
      refine DerQ.run (True ∧ True) ⟨[.agg (vecc g v), .ptr 0 0, (B6 false), (I6 i), (I6 i), (B6 (decide ((↑i : Int) ≤ 12))), U6, U6, (I6 i), .ptr 0 (i), (I6 (v i)), (B6 true), (B6 true), .tup [], .tup [], .tup [], .tup [], (B6 true), U6, U6, .undef], [⟨vecc g v, 1, .fresh⟩]⟩ (by kernel_rfl) ⟨trivial, trivial⟩ ?_
      refine CN true (fun _ => ?_) (fun h => nomatch h)
      refine SQ ?_
      refine DerQ.run (True ∧ True) ⟨[.agg (vecc g v), .ptr 0 0, (B6 false), (I6 i), (I6 i), (B6 (decide ((↑i : Int) ≤ 12))), U6, U6, (I6 i), .ptr 0 (i), (I6 (v i)), (B6 true), (B6 true), .tup [], .tup [], .tup [], .tup [], (B6 true), U6, U6, .undef], [⟨vecc g v, 1, .fresh⟩]⟩ (by kernel_rfl) ⟨trivial, trivial⟩ ?_
      refine AWP.ret ?_
      refine FI (B6 false) ?_
      refine Shrink.all ?_ rfl
      (exact chk_no v i (by omega) (by unfold goodP; omega); done)
  · have h1' := of_decide_eq_false h1
    refine AWP.exit ?_
    refine SQ ?_
    refine DerQ.pre 2 ((((0 : Int) ≤ (0 : Int)) ∧ ((0 : Int) < (13 : Int))) ∧ (0 < (vecc g v).length) ∧ True) ⟨[.agg (vecc g v), .ptr 0 0, (B6 false), (I6 i), (I6 i), (B6 (decide ((↑i : Int) ≤ 12)))] ++ UU 12 ++ [.ptr 0 0, (vecc g v).getD 0 U6, .undef], [⟨vecc g v, 1, .fresh⟩]⟩ (by kernel_rfl) ⟨⟨(by omega), (by omega)⟩, (by simp), trivial⟩ ?_
    rw [Go.Abs.vecc_get (g) (v) ((0 : Nat)) (by omega)]
    refine DerQ.run (TT 2) ⟨[.agg (vecc g v), .ptr 0 0, (B6 (v 0 == 0)), (I6 i), (I6 i), (B6 (decide ((↑i : Int) ≤ 12)))] ++ UU 12 ++ [.ptr 0 0, (I6 (v 0)), (B6 (v 0 == 0))], [⟨vecc g v, 1, .fresh⟩]⟩ (by kernel_rfl) (tt 2) ?_
    refine AWP.ret ?_
    refine FI (B6 (v 0 == 0)) ?_
    refine Shrink.all ?_ rfl
    congr 2
    rw [Bool.eq_iff_iff, beq_iff_eq, decide_eq_true_iff]
    refine ⟨fun h0 j hj => ?_, fun hc => (hc 0 (by omega)).2.2 rfl⟩
    rcases Nat.eq_zero_or_pos j with rfl | hp
    · unfold goodP; omega
    · exact hd j hp (by omega)
end Go.Ops
