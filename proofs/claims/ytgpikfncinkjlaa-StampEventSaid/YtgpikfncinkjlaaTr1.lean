/- Walks and laws. -/
import Derived.Test.YtgpikfncinkjlaaTr0
import Derived.Test.YtgpikfncinkjlaaLibB
set_option maxRecDepth 100000
set_option maxHeartbeats 0
set_option linter.unusedSimpArgs false
set_option linter.unusedVariables false
namespace Go.Tr
open Go Go.Abs Go.Proofs
theorem leaf (n : Int) : EvD Try.prog 112 [.sc (.int .i64 n)] (.agg [.sc (.int .i64 n), .sl [] 0 .any]) := by
  refine EvD.body Try.func112 rfl rfl rfl ?_
  refine SQ ?_
  refine DerQ.run (True ∧ True) ⟨[(I6 n), U6, .ptr 0 0, U6, .undef], [⟨[(I6 0), .sl [] 0 .nil], 2, .fresh⟩]⟩ (by kernel_rfl) ⟨trivial, trivial⟩ ?_
  refine SQ ?_
  refine DerQ.run (True ∧ True ∧ 2 ≤ 2 ∧ True) ⟨[(I6 n), U6, .ptr 0 0, (I6 n), .agg [(I6 n), .sl [] 0 .nil]], [⟨[(I6 n), .sl [] 0 .nil], 2, .fresh⟩]⟩ (by kernel_rfl) ⟨trivial, trivial, (by omega), trivial⟩ ?_
  refine AWP.ret ?_
  refine FI (.agg [.sc (.int .i64 (n)), .sl [] 0 .nil]) ?_
  refine Shrink.dataK [] (True) (.agg [.sc (.int .i64 (n)), .sl [] 0 .nil]) (by kernel_rfl) trivial ?_ rfl
  kernel_rfl
theorem r_leaf (n : Int) : EvD Try.prog 104 [.sc (.int .i64 n)] (.agg [.sc (.int .i64 n), .sl [] 0 .any]) := by
  refine EvD.body Try.func104 rfl rfl rfl ?_
  refine SQ ?_
  refine DerQ.run (True ∧ True) ⟨[(I6 n), U6, .ptr 0 0, U6, .undef], [⟨[(I6 0), .sl [] 0 .nil], 2, .fresh⟩]⟩ (by kernel_rfl) ⟨trivial, trivial⟩ ?_
  refine SQ ?_
  refine DerQ.run (True ∧ True ∧ 2 ≤ 2 ∧ True) ⟨[(I6 n), U6, .ptr 0 0, (I6 n), .agg [(I6 n), .sl [] 0 .nil]], [⟨[(I6 n), .sl [] 0 .nil], 2, .fresh⟩]⟩ (by kernel_rfl) ⟨trivial, trivial, (by omega), trivial⟩ ?_
  refine AWP.ret ?_
  refine FI (.agg [.sc (.int .i64 (n)), .sl [] 0 .nil]) ?_
  refine Shrink.dataK [] (True) (.agg [.sc (.int .i64 (n)), .sl [] 0 .nil]) (by kernel_rfl) trivial ?_ rfl
  kernel_rfl
theorem inner (a b : Int) (c d : List AVal) (k l : Nat) : EvD Try.prog 115 [.agg [.sc (.int .i64 a), .sl c k .any], .agg [.sc (.int .i64 b), .sl d l .any]] (.agg [.sc (.int .i64 0), .sl [.sc (.int .i64 a), .sl c k .any, .sc (.int .i64 b), .sl d l .any] 2 .any]) := by
  refine EvD.body Try.func115 rfl rfl rfl ?_
  refine SQ ?_
  refine DerQ.run (TT 3) ⟨[.agg [(I6 a), .sl c (k) .any], .agg [(I6 b), .sl d (l) .any], .ptr 0 0, .ptr 1 0, .ptr 2 0, U6, U6, U6, .undef], [⟨[(I6 a), .sl c (k) .any], 2, .fresh⟩, ⟨[(I6 b), .sl d (l) .any], 2, .fresh⟩, ⟨[(I6 0), .sl [] 0 .nil], 2, .fresh⟩]⟩ (by kernel_rfl) (tt 3) ?_
  refine SQ ?_
  refine DerQ.run ((2 ≤ List.length [(I6 a), AVal.sl c k SlK.any]) ∧ (2 ≤ List.length [(I6 b), AVal.sl d l SlK.any]) ∧ True ∧ True ∧ 2 ≤ 2 ∧ True) ⟨[.agg [(I6 a), .sl c (k) .any], .agg [(I6 b), .sl d (l) .any], .ptr 0 0, .ptr 1 0, .ptr 2 0, .agg [(I6 a), .sl c (k) .any], .agg [(I6 b), .sl d (l) .any], .sl [(I6 a), .sl c (k) .any, (I6 b), .sl d (l) .any] 2 .nn, .agg [(I6 0), .sl [(I6 a), .sl c (k) .any, (I6 b), .sl d (l) .any] 2 .nn]], [⟨[(I6 a), .sl c (k) .any], 2, .fresh⟩, ⟨[(I6 b), .sl d (l) .any], 2, .fresh⟩, ⟨[(I6 0), .sl [(I6 a), .sl c (k) .any, (I6 b), .sl d (l) .any] 2 .nn], 2, .fresh⟩]⟩ (by kernel_rfl) ⟨(by simp), (by simp), trivial, trivial, (by omega), trivial⟩ ?_
  refine AWP.ret ?_
  refine FI (.agg [.sc (.int .i64 0), .sl [.sc (.int .i64 (a)), .sl c (k) .any, .sc (.int .i64 (b)), .sl d (l) .any] 2 .nn]) ?_
  refine Shrink.dataK [] (True) (.agg [.sc (.int .i64 0), .sl [.sc (.int .i64 (a)), .sl c (k) .any, .sc (.int .i64 (b)), .sl d (l) .any] 2 .nn]) (by kernel_rfl) trivial ?_ rfl
  kernel_rfl
theorem r_inner (n a b : Int) (c d : List AVal) (k l : Nat) : EvD Try.prog 114 [.sc (.int .i64 n), .agg [.sc (.int .i64 a), .sl c k .any], .agg [.sc (.int .i64 b), .sl d l .any]] (.agg [.sc (.int .i64 n), .sl [.sc (.int .i64 a), .sl c k .any, .sc (.int .i64 b), .sl d l .any] 2 .any]) := by
  refine EvD.body Try.func114 rfl rfl rfl ?_
  refine SQ ?_
  refine DerQ.run (TT 3) ⟨[(I6 n), .agg [(I6 a), .sl c (k) .any], .agg [(I6 b), .sl d (l) .any], U6, .ptr 0 0, .ptr 1 0, .ptr 2 0] ++ UU 5, [⟨[(I6 a), .sl c (k) .any], 2, .fresh⟩, ⟨[(I6 b), .sl d (l) .any], 2, .fresh⟩, ⟨[(I6 0), .sl [] 0 .nil], 2, .fresh⟩]⟩ (by kernel_rfl) (tt 3) ?_
  refine SQ ?_
  refine DerQ.run (True ∧ (2 ≤ List.length [(I6 a), AVal.sl c k SlK.any]) ∧ (2 ≤ List.length [(I6 b), AVal.sl d l SlK.any]) ∧ True ∧ True ∧ 2 ≤ 2 ∧ True) ⟨[(I6 n), .agg [(I6 a), .sl c (k) .any], .agg [(I6 b), .sl d (l) .any], U6, .ptr 0 0, .ptr 1 0, .ptr 2 0, (I6 n), .agg [(I6 a), .sl c (k) .any], .agg [(I6 b), .sl d (l) .any], .sl [(I6 a), .sl c (k) .any, (I6 b), .sl d (l) .any] 2 .nn, .agg [(I6 n), .sl [(I6 a), .sl c (k) .any, (I6 b), .sl d (l) .any] 2 .nn]], [⟨[(I6 a), .sl c (k) .any], 2, .fresh⟩, ⟨[(I6 b), .sl d (l) .any], 2, .fresh⟩, ⟨[(I6 n), .sl [(I6 a), .sl c (k) .any, (I6 b), .sl d (l) .any] 2 .nn], 2, .fresh⟩]⟩ (by kernel_rfl) ⟨trivial, (by simp), (by simp), trivial, trivial, (by omega), trivial⟩ ?_
  refine AWP.ret ?_
  refine FI (.agg [.sc (.int .i64 (n)), .sl [.sc (.int .i64 (a)), .sl c (k) .any, .sc (.int .i64 (b)), .sl d (l) .any] 2 .nn]) ?_
  refine Shrink.dataK [] (True) (.agg [.sc (.int .i64 (n)), .sl [.sc (.int .i64 (a)), .sl c (k) .any, .sc (.int .i64 (b)), .sl d (l) .any] 2 .nn]) (by kernel_rfl) trivial ?_ rfl
  kernel_rfl
theorem is (a b : Int) (c : List AVal) (k : Nat) : EvD Try.prog 87 [.agg [.sc (.int .i64 a), .sl c k .any], .sc (.int .i64 b)] (.sc (.bool (decide (k = 0 ∧ a = b)))) := by
  refine EvD.body Try.func87 rfl rfl rfl ?_
  refine SQ ?_
  refine DerQ.run (TT 2) ⟨[.agg [(I6 a), .sl c (k) .any], (I6 b), .ptr 0 0, U6, (B6 false)] ++ UU 10, [⟨[(I6 a), .sl c (k) .any], 2, .fresh⟩]⟩ (by kernel_rfl) (tt 2) ?_
  refine SQ ?_
  refine DerQ.pre 5 (True ∧ (1 < List.length [(I6 a), AVal.sl c k SlK.any]) ∧ True ∧ True ∧ True ∧ True) ⟨[.agg [(I6 a), .sl c (k) .any], (I6 b), .ptr 0 0, U6, (B6 false), .ptr 0 1, .sl c (k) .any, (I6 (↑k : Int)), (B6 ((↑k : Int) == 0)), (B6 ((↑k : Int) == 0))] ++ UU 5, [⟨[(I6 a), .sl c (k) .any], 2, .fresh⟩]⟩ (by kernel_rfl) ⟨trivial, (by simp), trivial, trivial, trivial, trivial⟩ ?_
  cases h1 : ((↑k : Int) == 0)
  · have h1' := ne_of_beq_false h1
    refine DerQ.run (TT 2) ⟨[.agg [(I6 a), .sl c (k) .any], (I6 b), .ptr 0 0, U6, (B6 false), .ptr 0 1, .sl c (k) .any, (I6 (↑k : Int)), (B6 false), (B6 false), .tup [], .tup [], .tup [], .tup [], (B6 false)], [⟨[(I6 a), .sl c (k) .any], 2, .fresh⟩]⟩ (by kernel_rfl) (tt 2) ?_
    refine AWP.ret ?_
    refine FI (.sc (.bool false)) ?_
    refine Shrink.all ?_ rfl
    (congr 2; rw [Bool.eq_iff_iff]; simp only [decide_eq_true_eq, Bool.false_eq_true, false_iff, true_iff, Bool.and_eq_true, Bool.or_eq_true, Bool.not_eq_true', Bool.not_eq_true, Bool.not_eq_false', decide_eq_false_iff_not, iff_true, iff_false, beq_iff_eq, beq_eq_false_iff_ne, ge_iff_le, gt_iff_lt, ne_eq, bne_iff_ne, not_true_eq_false, not_false_eq_true] at *; omega; done)
  · have h1' := eq_of_beq h1
    refine DerQ.run (True ∧ (0 < List.length [(I6 a), AVal.sl c k SlK.any]) ∧ True ∧ True ∧ True ∧ True ∧ True) ⟨[.agg [(I6 a), .sl c (k) .any], (I6 b), .ptr 0 0, U6, (B6 (a == b)), .ptr 0 1, .sl c (k) .any, (I6 (↑k : Int)), (B6 true), (B6 true), .ptr 0 0, (I6 a), (I6 b), (B6 (a == b)), (B6 (a == b))], [⟨[(I6 a), .sl c (k) .any], 2, .fresh⟩]⟩ (by kernel_rfl) ⟨trivial, (by simp), trivial, trivial, trivial, trivial, trivial⟩ ?_
    refine AWP.ret ?_
    refine FI (.sc (.bool (a == b))) ?_
    refine Shrink.all ?_ rfl
    (congr 2; rw [Bool.eq_iff_iff]; simp only [decide_eq_true_eq, Bool.false_eq_true, false_iff, true_iff, Bool.and_eq_true, Bool.or_eq_true, Bool.not_eq_true', Bool.not_eq_true, Bool.not_eq_false', decide_eq_false_iff_not, iff_true, iff_false, beq_iff_eq, beq_eq_false_iff_ne, ge_iff_le, gt_iff_lt, ne_eq, bne_iff_ne, not_true_eq_false, not_false_eq_true] at *; omega; done)
theorem r_is (a b : Int) (c : List AVal) (k : Nat) : EvD Try.prog 89 [.agg [.sc (.int .i64 a), .sl c k .any], .sc (.int .i64 b)] (.sc (.bool (decide (k = 0 ∧ a = b)))) := by
  refine EvD.body Try.func89 rfl rfl rfl ?_
  refine SQ ?_
  refine DerQ.run (TT 2) ⟨[.agg [(I6 a), .sl c (k) .any], (I6 b), .ptr 0 0, U6, (B6 false)] ++ UU 10, [⟨[(I6 a), .sl c (k) .any], 2, .fresh⟩]⟩ (by kernel_rfl) (tt 2) ?_
  refine SQ ?_
  refine DerQ.pre 5 (True ∧ (1 < List.length [(I6 a), AVal.sl c k SlK.any]) ∧ True ∧ True ∧ True ∧ True) ⟨[.agg [(I6 a), .sl c (k) .any], (I6 b), .ptr 0 0, U6, (B6 false), .ptr 0 1, .sl c (k) .any, (I6 (↑k : Int)), (B6 ((↑k : Int) == 0)), (B6 ((↑k : Int) == 0))] ++ UU 5, [⟨[(I6 a), .sl c (k) .any], 2, .fresh⟩]⟩ (by kernel_rfl) ⟨trivial, (by simp), trivial, trivial, trivial, trivial⟩ ?_
  cases h1 : ((↑k : Int) == 0)
  · have h1' := ne_of_beq_false h1
    refine DerQ.run (TT 2) ⟨[.agg [(I6 a), .sl c (k) .any], (I6 b), .ptr 0 0, U6, (B6 false), .ptr 0 1, .sl c (k) .any, (I6 (↑k : Int)), (B6 false), (B6 false), .tup [], .tup [], .tup [], .tup [], (B6 false)], [⟨[(I6 a), .sl c (k) .any], 2, .fresh⟩]⟩ (by kernel_rfl) (tt 2) ?_
    refine AWP.ret ?_
    refine FI (.sc (.bool false)) ?_
    refine Shrink.all ?_ rfl
    (congr 2; rw [Bool.eq_iff_iff]; simp only [decide_eq_true_eq, Bool.false_eq_true, false_iff, true_iff, Bool.and_eq_true, Bool.or_eq_true, Bool.not_eq_true', Bool.not_eq_true, Bool.not_eq_false', decide_eq_false_iff_not, iff_true, iff_false, beq_iff_eq, beq_eq_false_iff_ne, ge_iff_le, gt_iff_lt, ne_eq, bne_iff_ne, not_true_eq_false, not_false_eq_true] at *; omega; done)
  · have h1' := eq_of_beq h1
    refine DerQ.run (True ∧ (0 < List.length [(I6 a), AVal.sl c k SlK.any]) ∧ True ∧ True ∧ True ∧ True ∧ True) ⟨[.agg [(I6 a), .sl c (k) .any], (I6 b), .ptr 0 0, U6, (B6 (a == b)), .ptr 0 1, .sl c (k) .any, (I6 (↑k : Int)), (B6 true), (B6 true), .ptr 0 0, (I6 a), (I6 b), (B6 (a == b)), (B6 (a == b))], [⟨[(I6 a), .sl c (k) .any], 2, .fresh⟩]⟩ (by kernel_rfl) ⟨trivial, (by simp), trivial, trivial, trivial, trivial, trivial⟩ ?_
    refine AWP.ret ?_
    refine FI (.sc (.bool (a == b))) ?_
    refine Shrink.all ?_ rfl
    (congr 2; rw [Bool.eq_iff_iff]; simp only [decide_eq_true_eq, Bool.false_eq_true, false_iff, true_iff, Bool.and_eq_true, Bool.or_eq_true, Bool.not_eq_true', Bool.not_eq_true, Bool.not_eq_false', decide_eq_false_iff_not, iff_true, iff_false, beq_iff_eq, beq_eq_false_iff_ne, ge_iff_le, gt_iff_lt, ne_eq, bne_iff_ne, not_true_eq_false, not_false_eq_true] at *; omega; done)
theorem s_is (a b : Int) (c : List AVal) (k : Nat) : EvD Try.prog 97 [.agg [.sc (.int .i64 a), .sl c k .any], .sc (.int .i64 b)] (.sc (.bool (decide (k = 0 ∧ a = b)))) := by
  refine EvD.body Try.func97 rfl rfl rfl ?_
  refine SQ ?_
  refine DerQ.run (TT 2) ⟨[.agg [(I6 a), .sl c (k) .any], (I6 b), .ptr 0 0, U6, (B6 false)] ++ UU 10, [⟨[(I6 a), .sl c (k) .any], 2, .fresh⟩]⟩ (by kernel_rfl) (tt 2) ?_
  refine SQ ?_
  refine DerQ.pre 5 (True ∧ (1 < List.length [(I6 a), AVal.sl c k SlK.any]) ∧ True ∧ True ∧ True ∧ True) ⟨[.agg [(I6 a), .sl c (k) .any], (I6 b), .ptr 0 0, U6, (B6 false), .ptr 0 1, .sl c (k) .any, (I6 (↑k : Int)), (B6 ((↑k : Int) == 0)), (B6 ((↑k : Int) == 0))] ++ UU 5, [⟨[(I6 a), .sl c (k) .any], 2, .fresh⟩]⟩ (by kernel_rfl) ⟨trivial, (by simp), trivial, trivial, trivial, trivial⟩ ?_
  cases h1 : ((↑k : Int) == 0)
  · have h1' := ne_of_beq_false h1
    refine DerQ.run (TT 2) ⟨[.agg [(I6 a), .sl c (k) .any], (I6 b), .ptr 0 0, U6, (B6 false), .ptr 0 1, .sl c (k) .any, (I6 (↑k : Int)), (B6 false), (B6 false), .tup [], .tup [], .tup [], .tup [], (B6 false)], [⟨[(I6 a), .sl c (k) .any], 2, .fresh⟩]⟩ (by kernel_rfl) (tt 2) ?_
    refine AWP.ret ?_
    refine FI (.sc (.bool false)) ?_
    refine Shrink.all ?_ rfl
    (congr 2; rw [Bool.eq_iff_iff]; simp only [decide_eq_true_eq, Bool.false_eq_true, false_iff, true_iff, Bool.and_eq_true, Bool.or_eq_true, Bool.not_eq_true', Bool.not_eq_true, Bool.not_eq_false', decide_eq_false_iff_not, iff_true, iff_false, beq_iff_eq, beq_eq_false_iff_ne, ge_iff_le, gt_iff_lt, ne_eq, bne_iff_ne, not_true_eq_false, not_false_eq_true] at *; omega; done)
  · have h1' := eq_of_beq h1
    refine DerQ.run (True ∧ (0 < List.length [(I6 a), AVal.sl c k SlK.any]) ∧ True ∧ True ∧ True ∧ True ∧ True) ⟨[.agg [(I6 a), .sl c (k) .any], (I6 b), .ptr 0 0, U6, (B6 (a == b)), .ptr 0 1, .sl c (k) .any, (I6 (↑k : Int)), (B6 true), (B6 true), .ptr 0 0, (I6 a), (I6 b), (B6 (a == b)), (B6 (a == b))], [⟨[(I6 a), .sl c (k) .any], 2, .fresh⟩]⟩ (by kernel_rfl) ⟨trivial, (by simp), trivial, trivial, trivial, trivial, trivial⟩ ?_
    refine AWP.ret ?_
    refine FI (.sc (.bool (a == b))) ?_
    refine Shrink.all ?_ rfl
    (congr 2; rw [Bool.eq_iff_iff]; simp only [decide_eq_true_eq, Bool.false_eq_true, false_iff, true_iff, Bool.and_eq_true, Bool.or_eq_true, Bool.not_eq_true', Bool.not_eq_true, Bool.not_eq_false', decide_eq_false_iff_not, iff_true, iff_false, beq_iff_eq, beq_eq_false_iff_ne, ge_iff_le, gt_iff_lt, ne_eq, bne_iff_ne, not_true_eq_false, not_false_eq_true] at *; omega; done)
end Go.Tr
