/- Walks and laws. -/
import Derived.Test.YtfkilkfaiiijbaaOps5
import Derived.Test.YtfkilkfaiiijbaaOpsT
import Derived.Test.YtfkilkfaiiijbaaLibC
set_option maxRecDepth 100000
set_option maxHeartbeats 0
set_option linter.unusedSimpArgs false
set_option linter.unusedVariables false
namespace Go.Ops
open Go Go.Abs Go.Proofs
def befP (p s i : Int) (t : TxD) (idx : Int) : Prop := 1 ≤ i ∧ (hasP t.v p s ∨ (p = t.p ∧ s = t.s ∧ i < idx))
instance (p s i : Int) (t : TxD) (idx : Int) : Decidable (befP p s i t idx) := by unfold befP; infer_instance
theorem o_before (g : Gate) (p s i : Int) (t : TxD) (idx : Int) : EvD Try.prog 18 [.agg [.sc (.int .i64 p), .sc (.int .i64 s), .sc (.int .i64 i)], .agg (txc g t), .sc (.int .i64 idx)] (.sc (.bool (decide (befP p s i t idx)))) := by
  refine EvD.body Try.func18 rfl (by simp [dataAll, AVal.data]) rfl ?_
  refine SQ ?_
  refine DerQ.run (TT 3) ⟨[.agg [(I6 p), (I6 s), (I6 i)], .agg (txc g t), (I6 idx), .ptr 0 0, .ptr 1 0, U6, (B6 false)] ++ UU 23, [⟨[(I6 p), (I6 s), (I6 i)], 3, .fresh⟩, ⟨txc g t, 17, .fresh⟩]⟩ (by kernel_rfl) (tt 3) ?_
  refine SQ ?_
  refine DerQ.pre 4 (True ∧ (2 < List.length [(I6 p), (I6 s), (I6 i)]) ∧ True ∧ True ∧ True) ⟨[.agg [(I6 p), (I6 s), (I6 i)], .agg (txc g t), (I6 idx), .ptr 0 0, .ptr 1 0, U6, (B6 false), .ptr 0 2, (I6 i), (B6 (decide (i ≥ 1))), (B6 (decide (i ≥ 1)))] ++ UU 19, [⟨[(I6 p), (I6 s), (I6 i)], 3, .fresh⟩, ⟨txc g t, 17, .fresh⟩]⟩ (by kernel_rfl) ⟨trivial, (by simp), trivial, trivial, trivial⟩ ?_
  cases h1 : (decide (i ≥ 1))
  · have h1' := of_decide_eq_false h1
    refine DerQ.run (TT 2) ⟨[.agg [(I6 p), (I6 s), (I6 i)], .agg (txc g t), (I6 idx), .ptr 0 0, .ptr 1 0, U6, (B6 false), .ptr 0 2, (I6 i), (B6 false), (B6 false), .tup [], .tup [], .tup [], .tup [], .tup [], .tup [], .tup [], .tup [], .tup [], .tup [], .tup [], .tup [], .tup [], .tup [], .tup [], .tup [], .tup [], .tup [], (B6 false)], [⟨[(I6 p), (I6 s), (I6 i)], 3, .fresh⟩, ⟨txc g t, 17, .fresh⟩]⟩ (by kernel_rfl) (tt 2) ?_
    refine AWP.ret ?_
    refine FI (B6 false) ?_
    refine Shrink.all ?_ rfl
    ((first | refine congrArg B6 ?_ | refine congrArg I6 ?_ | congr 2); rw [Bool.eq_iff_iff]; simp [befP, hasB, *] <;> omega; done)
  · have h1' := of_decide_eq_true h1
    refine DerQ.pre 4 (True ∧ (15 ≤ List.length (txc g t)) ∧ True ∧ (2 ≤ List.length [(I6 p), (I6 s), (I6 i)]) ∧ True) ⟨[.agg [(I6 p), (I6 s), (I6 i)], .agg (txc g t), (I6 idx), .ptr 0 0, .ptr 1 0, U6, (B6 false), .ptr 0 2, (I6 i), (B6 true), (B6 true), .ptr 1 2, .agg (List.take 13 (List.drop 2 (txc g t))), .ptr 0 0, .agg [(I6 p), (I6 s)]] ++ UU 15, [⟨[(I6 p), (I6 s), (I6 i)], 3, .fresh⟩, ⟨txc g t, 17, .fresh⟩]⟩ (by kernel_rfl) ⟨trivial, (by simp), trivial, (by simp), trivial⟩ ?_
    rw [Go.Ops.tx_deps (g) (t)]
    refine DerQ.callD (v_has g t.v p s) ⟨[.agg [(I6 p), (I6 s), (I6 i)], .agg (txc g t), (I6 idx), .ptr 0 0, .ptr 1 0, U6, (B6 false), .ptr 0 2, (I6 i), (B6 true), (B6 true), .ptr 1 2, .agg (vecc g t.v), .ptr 0 0, .agg [(I6 p), (I6 s)], (B6 (hasB t.v p s))] ++ UU 14, [⟨[(I6 p), (I6 s), (I6 i)], 3, .fresh⟩, ⟨txc g t, 17, .fresh⟩]⟩ ⟨by kernel_rfl, by kernel_rfl, by kernel_rfl⟩ ?_
    refine DerQ.pre 1 (True ∧ True) ⟨[.agg [(I6 p), (I6 s), (I6 i)], .agg (txc g t), (I6 idx), .ptr 0 0, .ptr 1 0, U6, (B6 false), .ptr 0 2, (I6 i), (B6 true), (B6 true), .ptr 1 2, .agg (vecc g t.v), .ptr 0 0, .agg [(I6 p), (I6 s)], (B6 (hasB t.v p s)), (B6 (hasB t.v p s))] ++ UU 13, [⟨[(I6 p), (I6 s), (I6 i)], 3, .fresh⟩, ⟨txc g t, 17, .fresh⟩]⟩ (by kernel_rfl) ⟨trivial, trivial⟩ ?_
    cases h2 : (hasB t.v p s)
    · refine DerQ.pre 4 (True ∧ (2 ≤ List.length [(I6 p), (I6 s), (I6 i)]) ∧ True ∧ (2 ≤ List.length (txc g t)) ∧ True) ⟨[.agg [(I6 p), (I6 s), (I6 i)], .agg (txc g t), (I6 idx), .ptr 0 0, .ptr 1 0, U6, (B6 false), .ptr 0 2, (I6 i), (B6 true), (B6 true), .ptr 1 2, .agg (vecc g t.v), .ptr 0 0, .agg [(I6 p), (I6 s)], (B6 false), (B6 false), .ptr 0 0, .agg [(I6 p), (I6 s)], .ptr 1 0, .agg (List.take 2 (List.drop 0 (txc g t)))] ++ UU 9, [⟨[(I6 p), (I6 s), (I6 i)], 3, .fresh⟩, ⟨txc g t, 17, .fresh⟩]⟩ (by kernel_rfl) ⟨trivial, (by simp), trivial, (by simp), trivial⟩ ?_
      rw [List.drop_zero]
      rw [Go.Ops.tx_dot (g) (t)]
      refine DerQ.pre 2 ((((0 < List.length [(I6 p), (I6 s)]) ∧ ((0 < List.length [(I6 t.p), (I6 t.s)]) ∧ (True))) ∧ ((1 < List.length [(I6 p), (I6 s)]) ∧ ((1 < List.length [(I6 t.p), (I6 t.s)]) ∧ (True)))) ∧ True ∧ True) ⟨[.agg [(I6 p), (I6 s), (I6 i)], .agg (txc g t), (I6 idx), .ptr 0 0, .ptr 1 0, U6, (B6 false), .ptr 0 2, (I6 i), (B6 true), (B6 true), .ptr 1 2, .agg (vecc g t.v), .ptr 0 0, .agg [(I6 p), (I6 s)], (B6 false), (B6 false), .ptr 0 0, .agg [(I6 p), (I6 s)], .ptr 1 0, .agg [(I6 (t.p)), (I6 (t.s))], (B6 (p == t.p && s == t.s)), (B6 (p == t.p && s == t.s))] ++ UU 7, [⟨[(I6 p), (I6 s), (I6 i)], 3, .fresh⟩, ⟨txc g t, 17, .fresh⟩]⟩ (by kernel_rfl) ⟨⟨⟨(by simp), ⟨(by simp), trivial⟩⟩, ⟨(by simp), ⟨(by simp), trivial⟩⟩⟩, trivial, trivial⟩ ?_
      cases h3 : (p == t.p && s == t.s)
      · have h3' := h3
        simp only [Bool.and_eq_true, Bool.and_eq_false_iff, Bool.or_eq_true, Bool.or_eq_false_iff, Bool.not_eq_true', Bool.not_eq_false', beq_iff_eq, beq_eq_false_iff_ne, decide_eq_true_eq, decide_eq_false_iff_not, ne_eq] at h3'
        refine DerQ.run (TT 4) ⟨[.agg [(I6 p), (I6 s), (I6 i)], .agg (txc g t), (I6 idx), .ptr 0 0, .ptr 1 0, U6, (B6 false), .ptr 0 2, (I6 i), (B6 true), (B6 true), .ptr 1 2, .agg (vecc g t.v), .ptr 0 0, .agg [(I6 p), (I6 s)], (B6 false), (B6 false), .ptr 0 0, .agg [(I6 p), (I6 s)], .ptr 1 0, .agg [(I6 (t.p)), (I6 (t.s))], (B6 false), (B6 false), .tup [], .tup [], .tup [], .tup [], (B6 false), (B6 false), (B6 false)], [⟨[(I6 p), (I6 s), (I6 i)], 3, .fresh⟩, ⟨txc g t, 17, .fresh⟩]⟩ (by kernel_rfl) (tt 4) ?_
        refine AWP.ret ?_
        refine FI (B6 false) ?_
        refine Shrink.all ?_ rfl
        ((first | refine congrArg B6 ?_ | refine congrArg I6 ?_ | congr 2); grind [befP, hasB]; done)
      · have h3' := h3
        simp only [Bool.and_eq_true, Bool.and_eq_false_iff, Bool.or_eq_true, Bool.or_eq_false_iff, Bool.not_eq_true', Bool.not_eq_false', beq_iff_eq, beq_eq_false_iff_ne, decide_eq_true_eq, decide_eq_false_iff_not, ne_eq] at h3'
        refine DerQ.run (True ∧ (2 < List.length [(I6 p), (I6 s), (I6 i)]) ∧ True ∧ True ∧ True ∧ True ∧ True ∧ True ∧ True) ⟨[.agg [(I6 p), (I6 s), (I6 i)], .agg (txc g t), (I6 idx), .ptr 0 0, .ptr 1 0, U6, (B6 (decide (i < idx))), .ptr 0 2, (I6 i), (B6 true), (B6 true), .ptr 1 2, .agg (vecc g t.v), .ptr 0 0, .agg [(I6 p), (I6 s)], (B6 false), (B6 false), .ptr 0 0, .agg [(I6 p), (I6 s)], .ptr 1 0, .agg [(I6 (t.p)), (I6 (t.s))], (B6 true), (B6 true), .ptr 0 2, (I6 i), (I6 idx), (B6 (decide (i < idx))), (B6 (decide (i < idx))), (B6 (decide (i < idx))), (B6 (decide (i < idx)))], [⟨[(I6 p), (I6 s), (I6 i)], 3, .fresh⟩, ⟨txc g t, 17, .fresh⟩]⟩ (by kernel_rfl) ⟨trivial, (by simp), trivial, trivial, trivial, trivial, trivial, trivial, trivial⟩ ?_
        refine AWP.ret ?_
        refine FI (B6 (decide (i < idx))) ?_
        refine Shrink.all ?_ rfl
        ((first | refine congrArg B6 ?_ | refine congrArg I6 ?_ | congr 2); grind [befP, hasB]; done)
    · refine DerQ.run (TT 3) ⟨[.agg [(I6 p), (I6 s), (I6 i)], .agg (txc g t), (I6 idx), .ptr 0 0, .ptr 1 0, U6, (B6 true), .ptr 0 2, (I6 i), (B6 true), (B6 true), .ptr 1 2, .agg (vecc g t.v), .ptr 0 0, .agg [(I6 p), (I6 s)], (B6 true), (B6 true), .tup [], .tup [], .tup [], .tup [], .tup [], .tup [], .tup [], .tup [], .tup [], .tup [], .tup [], (B6 true), (B6 true)], [⟨[(I6 p), (I6 s), (I6 i)], 3, .fresh⟩, ⟨txc g t, 17, .fresh⟩]⟩ (by kernel_rfl) (tt 3) ?_
      refine AWP.ret ?_
      refine FI (B6 true) ?_
      refine Shrink.all ?_ rfl
      ((first | refine congrArg B6 ?_ | refine congrArg I6 ?_ | congr 2); grind [befP, hasB]; done)
theorem r_before (g : Gate) (p s i : Int) (t : TxD) (idx : Int) : EvD Try.prog 27 [.agg [.sc (.int .i64 p), .sc (.int .i64 s), .sc (.int .i64 i)], .agg (txc g t), .sc (.int .i64 idx)] (.sc (.bool (decide (befP p s i t idx)))) := by
  refine EvD.body Try.func27 rfl (by simp [dataAll, AVal.data]) rfl ?_
  refine SQ ?_
  refine DerQ.run (TT 3) ⟨[.agg [(I6 p), (I6 s), (I6 i)], .agg (txc g t), (I6 idx), .ptr 0 0, .ptr 1 0, U6, (B6 false)] ++ UU 19, [⟨[(I6 p), (I6 s), (I6 i)], 3, .fresh⟩, ⟨txc g t, 17, .fresh⟩]⟩ (by kernel_rfl) (tt 3) ?_
  refine AWP.seq (SQ ?_)
  refine DerQ.run (True ∧ (2 < List.length [(I6 p), (I6 s), (I6 i)]) ∧ True ∧ True) ⟨[.agg [(I6 p), (I6 s), (I6 i)], .agg (txc g t), (I6 idx), .ptr 0 0, .ptr 1 0, U6, (B6 false), .ptr 0 2, (I6 i), (B6 (decide (i < 1)))] ++ UU 16, [⟨[(I6 p), (I6 s), (I6 i)], 3, .fresh⟩, ⟨txc g t, 17, .fresh⟩]⟩ (by kernel_rfl) ⟨trivial, (by simp), trivial, trivial⟩ ?_
  refine CN (decide (i < 1)) (fun h1 => ?_) (fun h1 => ?_)
  · have h1' := of_decide_eq_true h1
    refine SQ ?_
    refine DerQ.run (True ∧ True) ⟨[.agg [(I6 p), (I6 s), (I6 i)], .agg (txc g t), (I6 idx), .ptr 0 0, .ptr 1 0, U6, (B6 false), .ptr 0 2, (I6 i), (B6 (decide (i < 1)))] ++ UU 16, [⟨[(I6 p), (I6 s), (I6 i)], 3, .fresh⟩, ⟨txc g t, 17, .fresh⟩]⟩ (by kernel_rfl) ⟨trivial, trivial⟩ ?_
    refine AWP.ret ?_
    refine FI (B6 false) ?_
    refine Shrink.all ?_ rfl
    ((first | refine congrArg B6 ?_ | refine congrArg I6 ?_ | congr 2); grind [befP, hasB]; done)
  · have h1' := of_decide_eq_false h1
    refine AWP.skip (AWP.seq (SQ ?_))
    refine DerQ.pre 4 (True ∧ (2 ≤ List.length [(I6 p), (I6 s), (I6 i)]) ∧ True ∧ (2 ≤ List.length (txc g t)) ∧ True) ⟨[.agg [(I6 p), (I6 s), (I6 i)], .agg (txc g t), (I6 idx), .ptr 0 0, .ptr 1 0, U6, (B6 false), .ptr 0 2, (I6 i), (B6 (decide (i < 1))), .ptr 0 0, .agg [(I6 p), (I6 s)], .ptr 1 0, .agg (List.take 2 (List.drop 0 (txc g t)))] ++ UU 12, [⟨[(I6 p), (I6 s), (I6 i)], 3, .fresh⟩, ⟨txc g t, 17, .fresh⟩]⟩ (by kernel_rfl) ⟨trivial, (by simp), trivial, (by simp), trivial⟩ ?_
    rw [List.drop_zero]
    rw [Go.Ops.tx_dot (g) (t)]
    refine DerQ.pre 2 ((((0 < List.length [(I6 p), (I6 s)]) ∧ ((0 < List.length [(I6 t.p), (I6 t.s)]) ∧ (True))) ∧ ((1 < List.length [(I6 p), (I6 s)]) ∧ ((1 < List.length [(I6 t.p), (I6 t.s)]) ∧ (True)))) ∧ True ∧ True) ⟨[.agg [(I6 p), (I6 s), (I6 i)], .agg (txc g t), (I6 idx), .ptr 0 0, .ptr 1 0, U6, (B6 false), .ptr 0 2, (I6 i), (B6 (decide (i < 1))), .ptr 0 0, .agg [(I6 p), (I6 s)], .ptr 1 0, .agg [(I6 (t.p)), (I6 (t.s))], (B6 (p == t.p && s == t.s)), (B6 (p == t.p && s == t.s))] ++ UU 10, [⟨[(I6 p), (I6 s), (I6 i)], 3, .fresh⟩, ⟨txc g t, 17, .fresh⟩]⟩ (by kernel_rfl) ⟨⟨⟨(by simp), ⟨(by simp), trivial⟩⟩, ⟨(by simp), ⟨(by simp), trivial⟩⟩⟩, trivial, trivial⟩ ?_
    cases h2 : (p == t.p && s == t.s)
    · have h2' := h2
      simp only [Bool.and_eq_true, Bool.and_eq_false_iff, Bool.or_eq_true, Bool.or_eq_false_iff, Bool.not_eq_true', Bool.not_eq_false', beq_iff_eq, beq_eq_false_iff_ne, decide_eq_true_eq, decide_eq_false_iff_not, ne_eq] at h2'
      refine DerQ.run (True ∧ True) ⟨[.agg [(I6 p), (I6 s), (I6 i)], .agg (txc g t), (I6 idx), .ptr 0 0, .ptr 1 0, U6, (B6 false), .ptr 0 2, (I6 i), (B6 (decide (i < 1))), .ptr 0 0, .agg [(I6 p), (I6 s)], .ptr 1 0, .agg [(I6 (t.p)), (I6 (t.s))], (B6 false), (B6 false), .tup [], .tup [], .tup [], .tup [], (B6 false)] ++ UU 5, [⟨[(I6 p), (I6 s), (I6 i)], 3, .fresh⟩, ⟨txc g t, 17, .fresh⟩]⟩ (by kernel_rfl) ⟨trivial, trivial⟩ ?_
      refine CN false (fun h => nomatch h) (fun _ => ?_)
      refine AWP.skip (SQ ?_)
      refine DerQ.pre 4 (True ∧ (15 ≤ List.length (txc g t)) ∧ True ∧ (2 ≤ List.length [(I6 p), (I6 s), (I6 i)]) ∧ True) ⟨[.agg [(I6 p), (I6 s), (I6 i)], .agg (txc g t), (I6 idx), .ptr 0 0, .ptr 1 0, U6, (B6 false), .ptr 0 2, (I6 i), (B6 (decide (i < 1))), .ptr 0 0, .agg [(I6 p), (I6 s)], .ptr 1 0, .agg [(I6 (t.p)), (I6 (t.s))], (B6 false), (B6 false), .tup [], .tup [], .tup [], .tup [], (B6 false), .ptr 1 2, .agg (List.take 13 (List.drop 2 (txc g t))), .ptr 0 0, .agg [(I6 p), (I6 s)], .undef], [⟨[(I6 p), (I6 s), (I6 i)], 3, .fresh⟩, ⟨txc g t, 17, .fresh⟩]⟩ (by kernel_rfl) ⟨trivial, (by simp), trivial, (by simp), trivial⟩ ?_
      rw [Go.Ops.tx_deps (g) (t)]
      refine DerQ.callD (r_has g t.v p s) ⟨[.agg [(I6 p), (I6 s), (I6 i)], .agg (txc g t), (I6 idx), .ptr 0 0, .ptr 1 0, U6, (B6 false), .ptr 0 2, (I6 i), (B6 (decide (i < 1))), .ptr 0 0, .agg [(I6 p), (I6 s)], .ptr 1 0, .agg [(I6 (t.p)), (I6 (t.s))], (B6 false), (B6 false), .tup [], .tup [], .tup [], .tup [], (B6 false), .ptr 1 2, .agg (vecc g t.v), .ptr 0 0, .agg [(I6 p), (I6 s)], (B6 (hasB t.v p s))], [⟨[(I6 p), (I6 s), (I6 i)], 3, .fresh⟩, ⟨txc g t, 17, .fresh⟩]⟩ ⟨by kernel_rfl, by kernel_rfl, by kernel_rfl⟩ ?_
      refine DerQ.run (True ∧ True) ⟨[.agg [(I6 p), (I6 s), (I6 i)], .agg (txc g t), (I6 idx), .ptr 0 0, .ptr 1 0, U6, (B6 (hasB t.v p s)), .ptr 0 2, (I6 i), (B6 (decide (i < 1))), .ptr 0 0, .agg [(I6 p), (I6 s)], .ptr 1 0, .agg [(I6 (t.p)), (I6 (t.s))], (B6 false), (B6 false), .tup [], .tup [], .tup [], .tup [], (B6 false), .ptr 1 2, .agg (vecc g t.v), .ptr 0 0, .agg [(I6 p), (I6 s)], (B6 (hasB t.v p s))], [⟨[(I6 p), (I6 s), (I6 i)], 3, .fresh⟩, ⟨txc g t, 17, .fresh⟩]⟩ (by kernel_rfl) ⟨trivial, trivial⟩ ?_
      refine AWP.ret ?_
      refine FI (B6 (hasB t.v p s)) ?_
      refine Shrink.all ?_ rfl
      ((first | refine congrArg B6 ?_ | refine congrArg I6 ?_ | congr 2); grind [befP, hasB]; done)
    · have h2' := h2
      simp only [Bool.and_eq_true, Bool.and_eq_false_iff, Bool.or_eq_true, Bool.or_eq_false_iff, Bool.not_eq_true', Bool.not_eq_false', beq_iff_eq, beq_eq_false_iff_ne, decide_eq_true_eq, decide_eq_false_iff_not, ne_eq] at h2'
      refine DerQ.run (True ∧ (2 < List.length [(I6 p), (I6 s), (I6 i)]) ∧ True ∧ True ∧ True ∧ True) ⟨[.agg [(I6 p), (I6 s), (I6 i)], .agg (txc g t), (I6 idx), .ptr 0 0, .ptr 1 0, U6, (B6 false), .ptr 0 2, (I6 i), (B6 (decide (i < 1))), .ptr 0 0, .agg [(I6 p), (I6 s)], .ptr 1 0, .agg [(I6 (t.p)), (I6 (t.s))], (B6 true), (B6 true), .ptr 0 2, (I6 i), (I6 idx), (B6 (decide (i < idx))), (B6 (decide (i < idx)))] ++ UU 5, [⟨[(I6 p), (I6 s), (I6 i)], 3, .fresh⟩, ⟨txc g t, 17, .fresh⟩]⟩ (by kernel_rfl) ⟨trivial, (by simp), trivial, trivial, trivial, trivial⟩ ?_
      refine CN (decide (i < idx)) (fun h3 => ?_) (fun h3 => ?_)
      · have h3' := of_decide_eq_true h3
        refine SQ ?_
        refine DerQ.run (True ∧ True) ⟨[.agg [(I6 p), (I6 s), (I6 i)], .agg (txc g t), (I6 idx), .ptr 0 0, .ptr 1 0, U6, (B6 true), .ptr 0 2, (I6 i), (B6 (decide (i < 1))), .ptr 0 0, .agg [(I6 p), (I6 s)], .ptr 1 0, .agg [(I6 (t.p)), (I6 (t.s))], (B6 true), (B6 true), .ptr 0 2, (I6 i), (I6 idx), (B6 (decide (i < idx))), (B6 (decide (i < idx)))] ++ UU 5, [⟨[(I6 p), (I6 s), (I6 i)], 3, .fresh⟩, ⟨txc g t, 17, .fresh⟩]⟩ (by kernel_rfl) ⟨trivial, trivial⟩ ?_
        refine AWP.ret ?_
        refine FI (B6 true) ?_
        refine Shrink.all ?_ rfl
        ((first | refine congrArg B6 ?_ | refine congrArg I6 ?_ | congr 2); rw [Bool.eq_iff_iff]; simp [befP, hasB, *] <;> omega; done)
      · have h3' := of_decide_eq_false h3
        refine AWP.skip (SQ ?_)
        refine DerQ.pre 4 (True ∧ (15 ≤ List.length (txc g t)) ∧ True ∧ (2 ≤ List.length [(I6 p), (I6 s), (I6 i)]) ∧ True) ⟨[.agg [(I6 p), (I6 s), (I6 i)], .agg (txc g t), (I6 idx), .ptr 0 0, .ptr 1 0, U6, (B6 false), .ptr 0 2, (I6 i), (B6 (decide (i < 1))), .ptr 0 0, .agg [(I6 p), (I6 s)], .ptr 1 0, .agg [(I6 (t.p)), (I6 (t.s))], (B6 true), (B6 true), .ptr 0 2, (I6 i), (I6 idx), (B6 (decide (i < idx))), (B6 (decide (i < idx))), .ptr 1 2, .agg (List.take 13 (List.drop 2 (txc g t))), .ptr 0 0, .agg [(I6 p), (I6 s)], .undef], [⟨[(I6 p), (I6 s), (I6 i)], 3, .fresh⟩, ⟨txc g t, 17, .fresh⟩]⟩ (by kernel_rfl) ⟨trivial, (by simp), trivial, (by simp), trivial⟩ ?_
        rw [Go.Ops.tx_deps (g) (t)]
        refine DerQ.callD (r_has g t.v p s) ⟨[.agg [(I6 p), (I6 s), (I6 i)], .agg (txc g t), (I6 idx), .ptr 0 0, .ptr 1 0, U6, (B6 false), .ptr 0 2, (I6 i), (B6 (decide (i < 1))), .ptr 0 0, .agg [(I6 p), (I6 s)], .ptr 1 0, .agg [(I6 (t.p)), (I6 (t.s))], (B6 true), (B6 true), .ptr 0 2, (I6 i), (I6 idx), (B6 (decide (i < idx))), (B6 (decide (i < idx))), .ptr 1 2, .agg (vecc g t.v), .ptr 0 0, .agg [(I6 p), (I6 s)], (B6 (hasB t.v p s))], [⟨[(I6 p), (I6 s), (I6 i)], 3, .fresh⟩, ⟨txc g t, 17, .fresh⟩]⟩ ⟨by kernel_rfl, by kernel_rfl, by kernel_rfl⟩ ?_
        refine DerQ.run (True ∧ True) ⟨[.agg [(I6 p), (I6 s), (I6 i)], .agg (txc g t), (I6 idx), .ptr 0 0, .ptr 1 0, U6, (B6 (hasB t.v p s)), .ptr 0 2, (I6 i), (B6 (decide (i < 1))), .ptr 0 0, .agg [(I6 p), (I6 s)], .ptr 1 0, .agg [(I6 (t.p)), (I6 (t.s))], (B6 true), (B6 true), .ptr 0 2, (I6 i), (I6 idx), (B6 (decide (i < idx))), (B6 (decide (i < idx))), .ptr 1 2, .agg (vecc g t.v), .ptr 0 0, .agg [(I6 p), (I6 s)], (B6 (hasB t.v p s))], [⟨[(I6 p), (I6 s), (I6 i)], 3, .fresh⟩, ⟨txc g t, 17, .fresh⟩]⟩ (by kernel_rfl) ⟨trivial, trivial⟩ ?_
        refine AWP.ret ?_
        refine FI (B6 (hasB t.v p s)) ?_
        refine Shrink.all ?_ rfl
        ((first | refine congrArg B6 ?_ | refine congrArg I6 ?_ | congr 2); rw [Bool.eq_iff_iff]; simp [befP, hasB, *] <;> omega; done)
theorem vecc_take (g : Gate) (v : Nat → Int) : List.take 13 (vecc g v) = vecc g v := List.take_of_length_le (by simp)
def goodP (v : Nat → Int) (j : Nat) : Prop := 0 ≤ v j ∧ v j ≤ 1048576 ∧ (j = 0 → v j = 0)
instance (v : Nat → Int) (j : Nat) : Decidable (goodP v j) := by unfold goodP; infer_instance
def chkP (v : Nat → Int) : Prop := ∀ j, j < 13 → goodP v j
instance (v : Nat → Int) : Decidable (chkP v) := by unfold chkP; infer_instance
theorem chk_no (v : Nat → Int) (i : Nat) (hi : i < 13) (h : ¬ goodP v i) : AVal.sc (.bool false) = .sc (.bool (decide (chkP v))) := by
  have : decide (chkP v) = false := decide_eq_false_iff_not.2 fun hc => h (hc i hi)
  rw [this]
end Go.Ops
