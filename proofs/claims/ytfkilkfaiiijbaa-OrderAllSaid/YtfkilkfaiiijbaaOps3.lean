/- Walks and laws. -/
import Derived.Test.YtfkilkfaiiijbaaOps2
import Derived.Test.YtfkilkfaiiijbaaLibC
set_option maxRecDepth 100000
set_option maxHeartbeats 0
set_option linter.unusedSimpArgs false
set_option linter.unusedVariables false
namespace Go.Ops
open Go Go.Abs Go.Proofs
theorem o_named (s : ByteArray) : EvD Try.prog 113 [.sc (.string s)] (.sc (.bool (decide (1 ≤ s.size ∧ s.size ≤ 64)))) := by
  refine EvD.body Try.func113 rfl rfl rfl ?_
  refine AWP.seq ?_
  refine TO ⟨[(S6 s)] ++ UU 9, []⟩ ?_
  refine AWP.reg (RT 1 ?_)
  refine AWP.seq ?_
  refine TO ⟨[(S6 s), U6, (B6 false)] ++ UU 7, []⟩ ?_
  refine AWP.reg ?_
  refine DerQ.pre 3 (TT 3) ⟨[(S6 s), U6, (B6 false), (S6 s), (B6 (!ByteArray.toList s == ByteArray.toList { data := #[] })), (B6 (!ByteArray.toList s == ByteArray.toList { data := #[] })), U6, U6, U6, .undef], []⟩ (by kernel_rfl) (tt 3) ?_
  rw [Go.Abs.nil_beq (s)]
  cases h1 : (!decide (ByteArray.size s = 0))
  · have h1' := h1
    simp only [Bool.and_eq_true, Bool.and_eq_false_iff, Bool.or_eq_true, Bool.or_eq_false_iff, Bool.not_eq_true', Bool.not_eq_false', beq_iff_eq, beq_eq_false_iff_ne, decide_eq_true_eq, decide_eq_false_iff_not, ne_eq] at h1'
    refine RT 2 ?_
    refine AWP.ret ?_
    refine FI (B6 false) ?_
    refine Shrink.all ?_ rfl
    ((first | refine congrArg B6 ?_ | refine congrArg I6 ?_ | congr 2); rw [Bool.eq_iff_iff]; simp only [decide_eq_true_eq, Bool.false_eq_true, false_iff, true_iff, Bool.and_eq_true, Bool.or_eq_true, Bool.not_eq_true', Bool.not_eq_true, Bool.not_eq_false', decide_eq_false_iff_not, iff_true, iff_false, beq_iff_eq, beq_eq_false_iff_ne, ge_iff_le, gt_iff_lt, ne_eq, bne_iff_ne, not_true_eq_false, not_false_eq_true] at *; omega; done)
  · have h1' := h1
    simp only [Bool.and_eq_true, Bool.and_eq_false_iff, Bool.or_eq_true, Bool.or_eq_false_iff, Bool.not_eq_true', Bool.not_eq_false', beq_iff_eq, beq_eq_false_iff_ne, decide_eq_true_eq, decide_eq_false_iff_not, ne_eq] at h1'
    refine RT 5 ?_
    refine AWP.ret ?_
    refine FI (B6 (decide ((↑(ByteArray.size s) : Int) ≤ 64))) ?_
    refine Shrink.all ?_ rfl
    ((first | refine congrArg B6 ?_ | refine congrArg I6 ?_ | congr 2); rw [Bool.eq_iff_iff]; simp only [decide_eq_true_eq, Bool.false_eq_true, false_iff, true_iff, Bool.and_eq_true, Bool.or_eq_true, Bool.not_eq_true', Bool.not_eq_true, Bool.not_eq_false', decide_eq_false_iff_not, iff_true, iff_false, beq_iff_eq, beq_eq_false_iff_ne, ge_iff_le, gt_iff_lt, ne_eq, bne_iff_ne, not_true_eq_false, not_false_eq_true] at *; omega; done)
theorem r_named (s : ByteArray) : EvD Try.prog 98 [.sc (.string s)] (.sc (.bool (decide (1 ≤ s.size ∧ s.size ≤ 64)))) := by
  refine EvD.body Try.func98 rfl rfl rfl ?_
  refine AWP.seq ?_
  refine TO ⟨[(S6 s)] ++ UU 10, []⟩ ?_
  refine AWP.reg (RT 1 ?_)
  refine AWP.seq ?_
  refine TO ⟨[(S6 s), U6, (B6 false)] ++ UU 8, []⟩ ?_
  refine AWP.reg (PT 4 4 ?_)
  refine DerQ.to ⟨[(S6 s), U6, (B6 false), (S6 s), (I6 (↑(ByteArray.size s) : Int)), (B6 (decide ((↑(ByteArray.size s) : Int) ≥ 1))), (B6 (decide ((↑(ByteArray.size s) : Int) ≥ 1))), U6, U6, U6, .undef], []⟩ (by kernel_rfl) ?_
  cases h1 : (decide ((↑(ByteArray.size s) : Int) ≥ 1))
  · have h1' := of_decide_eq_false h1
    refine RT 2 ?_
    refine AWP.ret ?_
    refine FI (B6 false) ?_
    refine Shrink.all ?_ rfl
    ((first | refine congrArg B6 ?_ | refine congrArg I6 ?_ | congr 2); rw [Bool.eq_iff_iff]; simp only [decide_eq_true_eq, Bool.false_eq_true, false_iff, true_iff, Bool.and_eq_true, Bool.or_eq_true, Bool.not_eq_true', Bool.not_eq_true, Bool.not_eq_false', decide_eq_false_iff_not, iff_true, iff_false, beq_iff_eq, beq_eq_false_iff_ne, ge_iff_le, gt_iff_lt, ne_eq, bne_iff_ne, not_true_eq_false, not_false_eq_true] at *; omega; done)
  · have h1' := of_decide_eq_true h1
    refine RT 5 ?_
    refine AWP.ret ?_
    refine FI (B6 (decide ((↑(ByteArray.size s) : Int) ≤ 64))) ?_
    refine Shrink.all ?_ rfl
    ((first | refine congrArg B6 ?_ | refine congrArg I6 ?_ | congr 2); rw [Bool.eq_iff_iff]; simp only [decide_eq_true_eq, Bool.false_eq_true, false_iff, true_iff, Bool.and_eq_true, Bool.or_eq_true, Bool.not_eq_true', Bool.not_eq_true, Bool.not_eq_false', decide_eq_false_iff_not, iff_true, iff_false, beq_iff_eq, beq_eq_false_iff_ne, ge_iff_le, gt_iff_lt, ne_eq, bne_iff_ne, not_true_eq_false, not_false_eq_true] at *; omega; done)
def leafI (k inner : Int) : Int := if k = 6 then inner else k
theorem leaf_if {k inner : Int} : (k = 6 ∧ leafI k inner = inner) ∨ (k ≠ 6 ∧ leafI k inner = k) := by unfold leafI; split <;> omega
theorem o_leaf (k inner a n p s i at_ : Int) (key f t : ByteArray) : EvD Try.prog 112 [.agg [.sc (.int .i64 k), .sc (.string key), .sc (.string f), .sc (.int .i64 inner), .sc (.int .i64 a), .sc (.int .i64 n), .sc (.string t), .sc (.int .i64 p), .sc (.int .i64 s), .sc (.int .i64 i), .sc (.int .i64 at_)]] (.sc (.int .i64 (leafI k inner))) := by
  refine EvD.body Try.func112 rfl rfl rfl ?_
  have hl := @leaf_if k inner
  refine AWP.seq ?_
  refine TO ⟨[.agg [(I6 k), (S6 key), (S6 f), (I6 inner), (I6 a), (I6 n), (S6 t), (I6 p), (I6 s), (I6 i), (I6 at_)]] ++ UU 12, []⟩ ?_
  refine AWP.reg (RT 2 ?_)
  refine AWP.seq (AWP.seq (KL [0] ⟨[U6, .ptr 0 0, (I6 0)] ++ UU 10, [⟨[(I6 k), (S6 key), (S6 f), (I6 inner), (I6 a), (I6 n), (S6 t), (I6 p), (I6 s), (I6 i), (I6 at_)], 11, .fresh⟩]⟩ ?_))
  refine AWP.reg (RI (True ∧ True ∧ 0 < 11 ∧ True ∧ True) ⟨trivial, trivial, (by omega), trivial, trivial⟩ ?_)
  refine KL [3, 4, 5] ⟨[U6, .ptr 0 0, (I6 0), U6, U6, U6, (B6 (k == 6))] ++ UU 6, [⟨[(I6 k), (S6 key), (S6 f), (I6 inner), (I6 a), (I6 n), (S6 t), (I6 p), (I6 s), (I6 i), (I6 at_)], 11, .fresh⟩]⟩ ?_
  refine CN (k == 6) (fun h1 => ?_) (fun h1 => ?_)
  · have h1' := eq_of_beq h1
    refine SQ (RI (True ∧ True ∧ 3 < 11 ∧ True ∧ True) ⟨trivial, trivial, (by omega), trivial, trivial⟩ ?_)
    refine AWP.ret ?_
    refine FI (I6 inner) ?_
    refine Shrink.all ?_ rfl
    ((first | refine congrArg B6 ?_ | refine congrArg I6 ?_ | congr 2); omega; done)
  · have h1' := ne_of_beq_false h1
    refine AWP.skip (SQ (RI (True ∧ True ∧ 0 < 11 ∧ True ∧ True) ⟨trivial, trivial, (by omega), trivial, trivial⟩ ?_))
    refine AWP.ret ?_
    refine FI (I6 k) ?_
    refine Shrink.all ?_ rfl
    ((first | refine congrArg B6 ?_ | refine congrArg I6 ?_ | congr 2); omega; done)
def whereP (k inner : Int) (key f : ByteArray) : Prop := (1 ≤ k ∧ k ≤ 6) ∧ (1 ≤ key.size ∧ key.size ≤ 64) ∧ ((k = 6 ∧ (1 ≤ f.size ∧ f.size ≤ 64) ∧ 1 ≤ inner ∧ inner ≤ 5) ∨ (k ≠ 6 ∧ f.size = 0 ∧ inner = 0))
instance (k inner : Int) (key f : ByteArray) : Decidable (whereP k inner key f) := by unfold whereP; infer_instance
theorem o_where (k inner a n p s i at_ : Int) (key f t : ByteArray) : EvD Try.prog 97 [.agg [.sc (.int .i64 k), .sc (.string key), .sc (.string f), .sc (.int .i64 inner), .sc (.int .i64 a), .sc (.int .i64 n), .sc (.string t), .sc (.int .i64 p), .sc (.int .i64 s), .sc (.int .i64 i), .sc (.int .i64 at_)]] (.sc (.bool (decide (whereP k inner key f)))) := by
  refine EvD.body Try.func97 rfl rfl rfl ?_
  refine AWP.seq ?_
  refine TO ⟨[.agg [(I6 k), (S6 key), (S6 f), (I6 inner), (I6 a), (I6 n), (S6 t), (I6 p), (I6 s), (I6 i), (I6 at_)]] ++ UU 51, []⟩ ?_
  refine AWP.reg (RT 2 ?_)
  refine AWP.seq (AWP.block (AWP.seq (KL [0] ⟨[U6, .ptr 0 0, (B6 false)] ++ UU 49, [⟨[(I6 k), (S6 key), (S6 f), (I6 inner), (I6 a), (I6 n), (S6 t), (I6 p), (I6 s), (I6 i), (I6 at_)], 11, .fresh⟩]⟩ ?_)))
  refine AWP.reg (PI 5 (True ∧ True ∧ 0 < 11 ∧ True ∧ True ∧ True) ⟨trivial, trivial, (by omega), trivial, trivial, trivial⟩ ?_)
  refine DerQ.to ⟨[U6, .ptr 0 0, (B6 false), U6, .ptr 0 0, .ptr 0 0, (I6 k), (B6 (decide (k < 1))), (B6 (decide (k < 1)))] ++ UU 43, [⟨[(I6 k), (S6 key), (S6 f), (I6 inner), (I6 a), (I6 n), (S6 t), (I6 p), (I6 s), (I6 i), (I6 at_)], 11, .fresh⟩]⟩ (by kernel_rfl) ?_
  cases h1 : (decide (k < 1))
  · have h1' := of_decide_eq_false h1
    refine PI 6 (True ∧ True ∧ 0 < 11 ∧ True ∧ True ∧ True ∧ True) ⟨trivial, trivial, (by omega), trivial, trivial, trivial, trivial⟩ ?_
    refine DerQ.to ⟨[U6, .ptr 0 0, (B6 false), U6, .ptr 0 0, .ptr 0 0, (I6 k), (B6 false), (B6 false), .ptr 0 0, .ptr 0 0, (I6 k), (B6 (decide (k > 6))), (B6 (decide (k > 6))), (B6 (decide (k > 6)))] ++ UU 37, [⟨[(I6 k), (S6 key), (S6 f), (I6 inner), (I6 a), (I6 n), (S6 t), (I6 p), (I6 s), (I6 i), (I6 at_)], 11, .fresh⟩]⟩ (by kernel_rfl) ?_
    cases h2 : (decide (k > 6))
    · have h2' := of_decide_eq_false h2
      refine PI 3 (True ∧ True ∧ 1 < 11 ∧ True) ⟨trivial, trivial, (by omega), trivial⟩ ?_
      refine CD (o_named key) ?_
      refine RT 3 ?_
      refine KL (NN 4 17) ⟨[U6, .ptr 0 0, (B6 false), (B6 (!decide (1 ≤ ByteArray.size key ∧ ByteArray.size key ≤ 64)))] ++ UU 48, [⟨[(I6 k), (S6 key), (S6 f), (I6 inner), (I6 a), (I6 n), (S6 t), (I6 p), (I6 s), (I6 i), (I6 at_)], 11, .fresh⟩]⟩ ?_
      refine CN (!decide (1 ≤ ByteArray.size key ∧ ByteArray.size key ≤ 64)) (fun h3 => ?_) (fun h3 => ?_)
      · have h3' := h3
        simp only [Bool.and_eq_true, Bool.and_eq_false_iff, Bool.or_eq_true, Bool.or_eq_false_iff, Bool.not_eq_true', Bool.not_eq_false', beq_iff_eq, beq_eq_false_iff_ne, decide_eq_true_eq, decide_eq_false_iff_not, ne_eq] at h3'
        refine SQ (RT 1 ?_)
        refine AWP.ret ?_
        refine FI (B6 false) ?_
        refine Shrink.all ?_ rfl
        ((first | refine congrArg B6 ?_ | refine congrArg I6 ?_ | congr 2); rw [Bool.eq_iff_iff]; simp [whereP, *] <;> omega; done)
      · have h3' := h3
        simp only [Bool.and_eq_true, Bool.and_eq_false_iff, Bool.or_eq_true, Bool.or_eq_false_iff, Bool.not_eq_true', Bool.not_eq_false', beq_iff_eq, beq_eq_false_iff_ne, decide_eq_true_eq, decide_eq_false_iff_not, ne_eq] at h3'
        refine SQ (RI (True ∧ True ∧ 0 < 11 ∧ True ∧ True ∧ True) ⟨trivial, trivial, (by omega), trivial, trivial, trivial⟩ ?_)
        refine KL [3, 22, 23, 24, 25] ⟨[U6, .ptr 0 0, (B6 false)] ++ UU 18 ++ [(B6 (k == 6))] ++ UU 30, [⟨[(I6 k), (S6 key), (S6 f), (I6 inner), (I6 a), (I6 n), (S6 t), (I6 p), (I6 s), (I6 i), (I6 at_)], 11, .fresh⟩]⟩ ?_
        refine CN (k == 6) (fun h4 => ?_) (fun h4 => ?_)
        · have h4' := eq_of_beq h4
          refine SQ (PI 3 (True ∧ True ∧ 2 < 11 ∧ True) ⟨trivial, trivial, (by omega), trivial⟩ ?_)
          refine CD (o_named f) ?_
          refine PT 1 1 ?_
          refine DerQ.to ⟨[U6, .ptr 0 0, (B6 false)] ++ UU 18 ++ [(B6 (k == 6)), U6, U6, U6, U6, .ptr 0 0, .ptr 0 2, (S6 f), (B6 (decide (1 ≤ ByteArray.size f ∧ ByteArray.size f ≤ 64))), (B6 (decide (1 ≤ ByteArray.size f ∧ ByteArray.size f ≤ 64)))] ++ UU 21, [⟨[(I6 k), (S6 key), (S6 f), (I6 inner), (I6 a), (I6 n), (S6 t), (I6 p), (I6 s), (I6 i), (I6 at_)], 11, .fresh⟩]⟩ (by kernel_rfl) ?_
          cases h5 : (decide (1 ≤ ByteArray.size f ∧ ByteArray.size f ≤ 64))
          · have h5' := of_decide_eq_false h5
            refine RT 4 ?_
            refine AWP.ret ?_
            refine FI (B6 false) ?_
            refine Shrink.all ?_ rfl
            ((first | refine congrArg B6 ?_ | refine congrArg I6 ?_ | congr 2); rw [Bool.eq_iff_iff]; simp [whereP, *] <;> omega; done)
          · have h5' := of_decide_eq_true h5
            refine PI 6 (True ∧ True ∧ 3 < 11 ∧ True ∧ True ∧ True ∧ True) ⟨trivial, trivial, (by omega), trivial, trivial, trivial, trivial⟩ ?_
            refine DerQ.to ⟨[U6, .ptr 0 0, (B6 false)] ++ UU 18 ++ [(B6 (k == 6)), U6, U6, U6, U6, .ptr 0 0, .ptr 0 2, (S6 f), (B6 true), (B6 true), .ptr 0 0, .ptr 0 3, (I6 inner), (B6 (decide (inner ≥ 1))), (B6 (decide (inner ≥ 1))), (B6 (decide (inner ≥ 1)))] ++ UU 15, [⟨[(I6 k), (S6 key), (S6 f), (I6 inner), (I6 a), (I6 n), (S6 t), (I6 p), (I6 s), (I6 i), (I6 at_)], 11, .fresh⟩]⟩ (by kernel_rfl) ?_
            cases h6 : (decide (inner ≥ 1))
            · have h6' := of_decide_eq_false h6
              refine RT 2 ?_
              refine AWP.ret ?_
              refine FI (B6 false) ?_
              refine Shrink.all ?_ rfl
              ((first | refine congrArg B6 ?_ | refine congrArg I6 ?_ | congr 2); rw [Bool.eq_iff_iff]; simp [whereP, *] <;> omega; done)
            · have h6' := of_decide_eq_true h6
              refine RI (True ∧ True ∧ 3 < 11 ∧ True ∧ True ∧ True ∧ True) ⟨trivial, trivial, (by omega), trivial, trivial, trivial, trivial⟩ ?_
              refine AWP.ret ?_
              refine FI (B6 (decide (inner ≤ 5))) ?_
              refine Shrink.all ?_ rfl
              ((first | refine congrArg B6 ?_ | refine congrArg I6 ?_ | congr 2); rw [Bool.eq_iff_iff]; simp [whereP, *] <;> omega; done)
        · have h4' := ne_of_beq_false h4
          refine AWP.skip (SQ ?_)
          refine DerQ.pre 5 (True ∧ True ∧ 2 < 11 ∧ True ∧ True ∧ True) ⟨[U6, .ptr 0 0, (B6 false)] ++ UU 18 ++ [(B6 (k == 6))] ++ UU 20 ++ [.ptr 0 0, .ptr 0 2, (S6 f), (B6 (ByteArray.toList f == ByteArray.toList { data := #[] })), (B6 (ByteArray.toList f == ByteArray.toList { data := #[] }))] ++ UU 5, [⟨[(I6 k), (S6 key), (S6 f), (I6 inner), (I6 a), (I6 n), (S6 t), (I6 p), (I6 s), (I6 i), (I6 at_)], 11, .fresh⟩]⟩ (by kernel_rfl) ⟨trivial, trivial, (by omega), trivial, trivial, trivial⟩ ?_
          rw [Go.Abs.nil_beq (f)]
          cases h5 : (decide (ByteArray.size f = 0))
          · have h5' := of_decide_eq_false h5
            refine RT 2 ?_
            refine AWP.ret ?_
            refine FI (B6 false) ?_
            refine Shrink.all ?_ rfl
            ((first | refine congrArg B6 ?_ | refine congrArg I6 ?_ | congr 2); rw [Bool.eq_iff_iff]; simp [whereP, *] <;> omega; done)
          · have h5' := of_decide_eq_true h5
            refine RI (True ∧ True ∧ 3 < 11 ∧ True ∧ True ∧ True ∧ True) ⟨trivial, trivial, (by omega), trivial, trivial, trivial, trivial⟩ ?_
            refine AWP.ret ?_
            refine FI (B6 (inner == 0)) ?_
            refine Shrink.all ?_ rfl
            ((first | refine congrArg B6 ?_ | refine congrArg I6 ?_ | congr 2); rw [Bool.eq_iff_iff]; simp [whereP, *] <;> omega; done)
    · have h2' := of_decide_eq_true h2
      refine RT 2 ?_
      refine KL (NN 4 17) ⟨[U6, .ptr 0 0, (B6 false), (B6 true)] ++ UU 48, [⟨[(I6 k), (S6 key), (S6 f), (I6 inner), (I6 a), (I6 n), (S6 t), (I6 p), (I6 s), (I6 i), (I6 at_)], 11, .fresh⟩]⟩ ?_
      refine CN true (fun _ => ?_) (fun h => nomatch h)
      refine SQ (RT 1 ?_)
      refine AWP.ret ?_
      refine FI (B6 false) ?_
      refine Shrink.all ?_ rfl
      ((first | refine congrArg B6 ?_ | refine congrArg I6 ?_ | congr 2); rw [Bool.eq_iff_iff]; simp [whereP, *] <;> omega; done)
  · have h1' := of_decide_eq_true h1
    refine RT 4 ?_
    refine KL (NN 4 17) ⟨[U6, .ptr 0 0, (B6 false), (B6 true)] ++ UU 48, [⟨[(I6 k), (S6 key), (S6 f), (I6 inner), (I6 a), (I6 n), (S6 t), (I6 p), (I6 s), (I6 i), (I6 at_)], 11, .fresh⟩]⟩ ?_
    refine CN true (fun _ => ?_) (fun h => nomatch h)
    refine SQ (RT 1 ?_)
    refine AWP.ret ?_
    refine FI (B6 false) ?_
    refine Shrink.all ?_ rfl
    ((first | refine congrArg B6 ?_ | refine congrArg I6 ?_ | congr 2); rw [Bool.eq_iff_iff]; simp [whereP, *] <;> omega; done)
def dropP (k a : Int) : Prop := k = 6 ∧ a = 5
def numP (k inner a : Int) : Prop := ¬ (k = 6 ∧ a = 5) ∧ leafI k inner = 1
def textP (k inner a : Int) : Prop := ¬ (k = 6 ∧ a = 5) ∧ (leafI k inner = 2 ∨ leafI k inner = 3 ∨ leafI k inner = 4 ∨ (leafI k inner = 5 ∧ a = 4))
def placeP (k inner a : Int) : Prop := ¬ (k = 6 ∧ a = 5) ∧ leafI k inner = 5
def okP (k inner a : Int) : Prop := (k = 6 ∧ a = 5) ∨ (leafI k inner = 1 ∧ a = 1) ∨ ((leafI k inner = 2 ∨ leafI k inner = 3) ∧ a = 3) ∨ (leafI k inner = 4 ∧ (a = 1 ∨ a = 2)) ∨ (leafI k inner = 5 ∧ (a = 4 ∨ a = 2))
instance (k inner a : Int) : Decidable (numP k inner a) := by unfold numP; infer_instance
instance (k inner a : Int) : Decidable (textP k inner a) := by unfold textP; infer_instance
instance (k inner a : Int) : Decidable (placeP k inner a) := by unfold placeP; infer_instance
instance (k inner a : Int) : Decidable (okP k inner a) := by unfold okP; infer_instance
theorem tup4 {a b c d : Bool} {A B C D : Prop} [Decidable A] [Decidable B] [Decidable C] [Decidable D] (ha : a = true ↔ A) (hb : b = true ↔ B) (hc : c = true ↔ C) (hd : d = true ↔ D) :
    AVal.tup [.sc (.bool a), .sc (.bool b), .sc (.bool c), .sc (.bool d)] = .tup [.sc (.bool (decide A)), .sc (.bool (decide B)), .sc (.bool (decide C)), .sc (.bool (decide D))] := by
  have h1 : a = decide A := by rw [Bool.eq_iff_iff, decide_eq_true_iff]; exact ha
  have h2 : b = decide B := by rw [Bool.eq_iff_iff, decide_eq_true_iff]; exact hb
  have h3 : c = decide C := by rw [Bool.eq_iff_iff, decide_eq_true_iff]; exact hc
  have h4 : d = decide D := by rw [Bool.eq_iff_iff, decide_eq_true_iff]; exact hd
  rw [h1, h2, h3, h4]
theorem o_uses (k inner a n p s i at_ : Int) (key f t : ByteArray) : EvD Try.prog 96 [.agg [.sc (.int .i64 k), .sc (.string key), .sc (.string f), .sc (.int .i64 inner), .sc (.int .i64 a), .sc (.int .i64 n), .sc (.string t), .sc (.int .i64 p), .sc (.int .i64 s), .sc (.int .i64 i), .sc (.int .i64 at_)]]
    (.tup [.sc (.bool (decide (numP k inner a))), .sc (.bool (decide (textP k inner a))), .sc (.bool (decide (placeP k inner a))), .sc (.bool (decide (okP k inner a)))]) := by
  refine EvD.body Try.func96 rfl rfl rfl ?_
  refine AWP.seq ?_
  refine TO ⟨[.agg [(I6 k), (S6 key), (S6 f), (I6 inner), (I6 a), (I6 n), (S6 t), (I6 p), (I6 s), (I6 i), (I6 at_)]] ++ UU 59, []⟩ ?_
  refine AWP.reg (RT 5 ?_)
  refine AWP.seq (AWP.seq (KL [0] ⟨[U6, .ptr 0 0, (B6 false), (B6 false), (B6 false), (B6 false)] ++ UU 54, [⟨[(I6 k), (S6 key), (S6 f), (I6 inner), (I6 a), (I6 n), (S6 t), (I6 p), (I6 s), (I6 i), (I6 at_)], 11, .fresh⟩]⟩ ?_))
  refine AWP.reg (PI 5 (True ∧ True ∧ 0 < 11 ∧ True ∧ True ∧ True) ⟨trivial, trivial, (by omega), trivial, trivial, trivial⟩ ?_)
  refine DerQ.to ⟨[U6, .ptr 0 0, (B6 false), (B6 false), (B6 false), (B6 false), .ptr 0 0, .ptr 0 0, (I6 k), (B6 (k == 6)), (B6 (k == 6))] ++ UU 49, [⟨[(I6 k), (S6 key), (S6 f), (I6 inner), (I6 a), (I6 n), (S6 t), (I6 p), (I6 s), (I6 i), (I6 at_)], 11, .fresh⟩]⟩ (by kernel_rfl) ?_
  cases h1 : (k == 6)
  · have h1' := ne_of_beq_false h1
    refine RT 1 ?_
    refine KL (NN 6 9) ⟨[U6, .ptr 0 0, (B6 false), (B6 false), (B6 false), (B6 false)] ++ UU 9 ++ [(B6 false)] ++ UU 44, [⟨[(I6 k), (S6 key), (S6 f), (I6 inner), (I6 a), (I6 n), (S6 t), (I6 p), (I6 s), (I6 i), (I6 at_)], 11, .fresh⟩]⟩ ?_
    refine CN false (fun h => nomatch h) (fun _ => ?_)
    refine AWP.skip (AWP.seq (SQ (PI 1 (11 ≤ 11 ∧ True) ⟨(by omega), trivial⟩ ?_)))
    refine CD (o_leaf k inner a n p s i at_ key f t) ?_
    refine DerQ.nil ?_
    refine AWP.block (AWP.seq (AWP.block (AWP.seq (AWP.block (AWP.seq (AWP.block (AWP.block (AWP.seq (AWP.block (AWP.seq (AWP.seq (AWP.seq (KL [15, 16] ⟨[U6, .ptr 0 0, (B6 false), (B6 false), (B6 false), (B6 false)] ++ UU 11 ++ [(I6 (leafI k inner))] ++ UU 42, [⟨[(I6 k), (S6 key), (S6 f), (I6 inner), (I6 a), (I6 n), (S6 t), (I6 p), (I6 s), (I6 i), (I6 at_)], 11, .fresh⟩]⟩ ?_)))))))))))))
    refine AWP.reg (RT 2 ?_)
    refine KL [19] ⟨[U6, .ptr 0 0, (B6 false), (B6 false), (B6 false), (B6 false)] ++ UU 11 ++ [(I6 (leafI k inner)), (B6 (leafI k inner == 1))] ++ UU 41, [⟨[(I6 k), (S6 key), (S6 f), (I6 inner), (I6 a), (I6 n), (S6 t), (I6 p), (I6 s), (I6 i), (I6 at_)], 11, .fresh⟩]⟩ ?_
    refine CN (leafI k inner == 1) (fun h2 => ?_) (fun h2 => ?_)
    · have h2' := eq_of_beq h2
      refine AWP.exit ?_
      refine AWP.seq (AWP.seq ?_)
      refine AWP.drawX mixed (fun _ => false) (by kernel_rfl) ?_
      refine DerX.preI 8 ((True) ∧ ((True) ∧ (((4 : Nat) < (11 : Nat)) ∧ ((True) ∧ ((True) ∧ ((True) ∧ ((True) ∧ ((True) ∧ (True))))))))) (by intro ext; kernel_rfl) ⟨trivial, ⟨trivial, ⟨(by omega), ⟨trivial, ⟨trivial, ⟨trivial, ⟨trivial, ⟨trivial, trivial⟩⟩⟩⟩⟩⟩⟩⟩ ?_
      refine DerX.nil ?_
      refine AWP.ret ?_
      refine FI (.tup [(B6 true), (B6 false), (B6 false), (B6 (a == 1))]) ?_
      refine Shrink.all ?_ rfl
      (exact tup4 (by simp only [numP, true_iff, eq_self_iff_true, Bool.false_eq_true, false_iff, beq_iff_eq, Bool.or_eq_true]; omega) (by simp only [textP, true_iff, eq_self_iff_true, Bool.false_eq_true, false_iff, beq_iff_eq, Bool.or_eq_true]; omega) (by simp only [placeP, true_iff, eq_self_iff_true, Bool.false_eq_true, false_iff, beq_iff_eq, Bool.or_eq_true]; omega) (by simp only [okP, true_iff, eq_self_iff_true, Bool.false_eq_true, false_iff, beq_iff_eq, Bool.or_eq_true]; omega); done)
    · have h2' := ne_of_beq_false h2
      refine AWP.skip (AWP.seq (SQ (RT 2 ?_)))
      refine KL [18, 21] ⟨[U6, .ptr 0 0, (B6 false), (B6 false), (B6 false), (B6 false)] ++ UU 11 ++ [(I6 (leafI k inner)), U6, U6, (B6 (leafI k inner == 2))] ++ UU 39, [⟨[(I6 k), (S6 key), (S6 f), (I6 inner), (I6 a), (I6 n), (S6 t), (I6 p), (I6 s), (I6 i), (I6 at_)], 11, .fresh⟩]⟩ ?_
      refine CN (leafI k inner == 2) (fun h3 => ?_) (fun h3 => ?_)
      · have h3' := eq_of_beq h3
        refine AWP.exit ?_
        refine AWP.seq (AWP.seq ?_)
        refine AWP.drawX mixed (fun _ => false) (by kernel_rfl) ?_
        refine DerX.preI 8 ((True) ∧ ((True) ∧ (((4 : Nat) < (11 : Nat)) ∧ ((True) ∧ ((True) ∧ ((True) ∧ ((True) ∧ ((True) ∧ (True))))))))) (by intro ext; kernel_rfl) ⟨trivial, ⟨trivial, ⟨(by omega), ⟨trivial, ⟨trivial, ⟨trivial, ⟨trivial, ⟨trivial, trivial⟩⟩⟩⟩⟩⟩⟩⟩ ?_
        refine DerX.nil ?_
        refine AWP.ret ?_
        refine FI (.tup [(B6 false), (B6 true), (B6 false), (B6 (a == 3))]) ?_
        refine Shrink.all ?_ rfl
        (exact tup4 (by simp only [numP, true_iff, eq_self_iff_true, Bool.false_eq_true, false_iff, beq_iff_eq, Bool.or_eq_true]; omega) (by simp only [textP, true_iff, eq_self_iff_true, Bool.false_eq_true, false_iff, beq_iff_eq, Bool.or_eq_true]; omega) (by simp only [placeP, true_iff, eq_self_iff_true, Bool.false_eq_true, false_iff, beq_iff_eq, Bool.or_eq_true]; omega) (by simp only [okP, true_iff, eq_self_iff_true, Bool.false_eq_true, false_iff, beq_iff_eq, Bool.or_eq_true]; omega); done)
      · have h3' := ne_of_beq_false h3
        refine AWP.skip (AWP.seq (SQ (RT 2 ?_)))
        refine KL [20, 23] ⟨[U6, .ptr 0 0, (B6 false), (B6 false), (B6 false), (B6 false)] ++ UU 11 ++ [(I6 (leafI k inner)), U6, U6, U6, U6, (B6 (leafI k inner == 3))] ++ UU 37, [⟨[(I6 k), (S6 key), (S6 f), (I6 inner), (I6 a), (I6 n), (S6 t), (I6 p), (I6 s), (I6 i), (I6 at_)], 11, .fresh⟩]⟩ ?_
        refine CN (leafI k inner == 3) (fun h4 => ?_) (fun h4 => ?_)
        · have h4' := eq_of_beq h4
          refine AWP.exit ?_
          refine AWP.seq (AWP.seq ?_)
          refine AWP.drawX mixed (fun _ => false) (by kernel_rfl) ?_
          refine DerX.preI 8 ((True) ∧ ((True) ∧ (((4 : Nat) < (11 : Nat)) ∧ ((True) ∧ ((True) ∧ ((True) ∧ ((True) ∧ ((True) ∧ (True))))))))) (by intro ext; kernel_rfl) ⟨trivial, ⟨trivial, ⟨(by omega), ⟨trivial, ⟨trivial, ⟨trivial, ⟨trivial, ⟨trivial, trivial⟩⟩⟩⟩⟩⟩⟩⟩ ?_
          refine DerX.nil ?_
          refine AWP.ret ?_
          refine FI (.tup [(B6 false), (B6 true), (B6 false), (B6 (a == 3))]) ?_
          refine Shrink.all ?_ rfl
          (exact tup4 (by simp only [numP, true_iff, eq_self_iff_true, Bool.false_eq_true, false_iff, beq_iff_eq, Bool.or_eq_true]; omega) (by simp only [textP, true_iff, eq_self_iff_true, Bool.false_eq_true, false_iff, beq_iff_eq, Bool.or_eq_true]; omega) (by simp only [placeP, true_iff, eq_self_iff_true, Bool.false_eq_true, false_iff, beq_iff_eq, Bool.or_eq_true]; omega) (by simp only [okP, true_iff, eq_self_iff_true, Bool.false_eq_true, false_iff, beq_iff_eq, Bool.or_eq_true]; omega); done)
        · have h4' := ne_of_beq_false h4
          refine AWP.skip (AWP.seq (SQ (RT 2 ?_)))
          refine KL [22, 25] ⟨[U6, .ptr 0 0, (B6 false), (B6 false), (B6 false), (B6 false)] ++ UU 11 ++ [(I6 (leafI k inner))] ++ UU 6 ++ [(B6 (leafI k inner == 4))] ++ UU 35, [⟨[(I6 k), (S6 key), (S6 f), (I6 inner), (I6 a), (I6 n), (S6 t), (I6 p), (I6 s), (I6 i), (I6 at_)], 11, .fresh⟩]⟩ ?_
          refine CN (leafI k inner == 4) (fun h5 => ?_) (fun h5 => ?_)
          · have h5' := eq_of_beq h5
            refine AWP.exit ?_
            refine AWP.seq (AWP.seq ?_)
            refine AWP.drawX mixed (fun _ => false) (by kernel_rfl) ?_
            refine DerX.preI 5 ((True) ∧ ((True) ∧ (((4 : Nat) < (11 : Nat)) ∧ ((True) ∧ ((True) ∧ (True)))))) (by intro ext; kernel_rfl) ⟨trivial, ⟨trivial, ⟨(by omega), ⟨trivial, ⟨trivial, trivial⟩⟩⟩⟩⟩ ?_
            refine AWP.toX ⟨[U6, .ptr 0 0, (B6 false), (B6 false), (B6 false), (B6 false)] ++ UU 11 ++ [(I6 (leafI k inner))] ++ UU 6 ++ [(B6 (leafI k inner == 4))] ++ UU 11 ++ [.ptr 0 0, .ptr 0 4, (I6 a), (B6 (a == 1)), (B6 (a == 1))] ++ UU 19, [⟨[(I6 k), (S6 key), (S6 f), (I6 inner), (I6 a), (I6 n), (S6 t), (I6 p), (I6 s), (I6 i), (I6 at_)], 11, .fresh⟩]⟩ (by kernel_rfl) ?_
            cases h6 : (a == 1)
            · have h6' := ne_of_beq_false h6
              refine DerX.preI 9 ((True) ∧ ((True) ∧ (((4 : Nat) < (11 : Nat)) ∧ ((True) ∧ ((True) ∧ ((True) ∧ ((True) ∧ ((True) ∧ ((True) ∧ (True)))))))))) (by intro ext; kernel_rfl) ⟨trivial, ⟨trivial, ⟨(by omega), ⟨trivial, ⟨trivial, ⟨trivial, ⟨trivial, ⟨trivial, ⟨trivial, trivial⟩⟩⟩⟩⟩⟩⟩⟩⟩ ?_
              refine DerX.nil ?_
              refine AWP.ret ?_
              refine FI (.tup [(B6 false), (B6 true), (B6 false), (B6 (a == 2))]) ?_
              refine Shrink.all ?_ rfl
              (exact tup4 (by simp only [numP, true_iff, eq_self_iff_true, Bool.false_eq_true, false_iff, beq_iff_eq, Bool.or_eq_true]; omega) (by simp only [textP, true_iff, eq_self_iff_true, Bool.false_eq_true, false_iff, beq_iff_eq, Bool.or_eq_true]; omega) (by simp only [placeP, true_iff, eq_self_iff_true, Bool.false_eq_true, false_iff, beq_iff_eq, Bool.or_eq_true]; omega) (by simp only [okP, true_iff, eq_self_iff_true, Bool.false_eq_true, false_iff, beq_iff_eq, Bool.or_eq_true]; omega); done)
            · have h6' := eq_of_beq h6
              refine DerX.preI 9 ((True) ∧ ((True) ∧ ((True) ∧ ((True) ∧ ((True) ∧ (True)))))) (by intro ext; kernel_rfl) ⟨trivial, ⟨trivial, ⟨trivial, ⟨trivial, ⟨trivial, trivial⟩⟩⟩⟩⟩ ?_
              refine DerX.nil ?_
              refine AWP.ret ?_
              refine FI (.tup [(B6 false), (B6 true), (B6 false), (B6 true)]) ?_
              refine Shrink.all ?_ rfl
              (exact tup4 (by simp only [numP, true_iff, eq_self_iff_true, Bool.false_eq_true, false_iff, beq_iff_eq, Bool.or_eq_true]; omega) (by simp only [textP, true_iff, eq_self_iff_true, Bool.false_eq_true, false_iff, beq_iff_eq, Bool.or_eq_true]; omega) (by simp only [placeP, true_iff, eq_self_iff_true, Bool.false_eq_true, false_iff, beq_iff_eq, Bool.or_eq_true]; omega) (by simp only [okP, true_iff, eq_self_iff_true, Bool.false_eq_true, false_iff, beq_iff_eq, Bool.or_eq_true]; omega); done)
          · have h5' := ne_of_beq_false h5
            refine AWP.skip (SQ (RT 2 ?_))
            refine KL [17, 24, 27] ⟨[U6, .ptr 0 0, (B6 false), (B6 false), (B6 false), (B6 false)] ++ UU 20 ++ [(B6 (leafI k inner == 5))] ++ UU 33, [⟨[(I6 k), (S6 key), (S6 f), (I6 inner), (I6 a), (I6 n), (S6 t), (I6 p), (I6 s), (I6 i), (I6 at_)], 11, .fresh⟩]⟩ ?_
            refine CN (leafI k inner == 5) (fun h6 => ?_) (fun h6 => ?_)
            · have h6' := eq_of_beq h6
              refine AWP.exit ?_
              refine AWP.seq (AWP.seq ?_)
              refine AWP.drawX mixed (fun _ => false) (by kernel_rfl) ?_
              refine DerX.preI 9 ((True) ∧ ((True) ∧ (((4 : Nat) < (11 : Nat)) ∧ ((True) ∧ ((True) ∧ ((True) ∧ (((4 : Nat) < (11 : Nat)) ∧ ((True) ∧ ((True) ∧ (True)))))))))) (by intro ext; kernel_rfl) ⟨trivial, ⟨trivial, ⟨(by omega), ⟨trivial, ⟨trivial, ⟨trivial, ⟨(by omega), ⟨trivial, ⟨trivial, trivial⟩⟩⟩⟩⟩⟩⟩⟩⟩ ?_
              refine AWP.toX ⟨[U6, .ptr 0 0, (B6 false), (B6 false), (B6 false), (B6 false)] ++ UU 20 ++ [(B6 (leafI k inner == 5))] ++ UU 19 ++ [.ptr 0 0, .ptr 0 4, (I6 a), (B6 (a == 4)), .ptr 0 0, .ptr 0 4, (I6 a), (B6 (a == 4)), (B6 (a == 4))] ++ UU 5, [⟨[(I6 k), (S6 key), (S6 f), (I6 inner), (I6 a), (I6 n), (S6 t), (I6 p), (I6 s), (I6 i), (I6 at_)], 11, .fresh⟩]⟩ (by kernel_rfl) ?_
              cases h7 : (a == 4)
              · have h7' := ne_of_beq_false h7
                refine DerX.preI 9 ((True) ∧ ((True) ∧ (((4 : Nat) < (11 : Nat)) ∧ ((True) ∧ ((True) ∧ ((True) ∧ ((True) ∧ ((True) ∧ ((True) ∧ (True)))))))))) (by intro ext; kernel_rfl) ⟨trivial, ⟨trivial, ⟨(by omega), ⟨trivial, ⟨trivial, ⟨trivial, ⟨trivial, ⟨trivial, ⟨trivial, trivial⟩⟩⟩⟩⟩⟩⟩⟩⟩ ?_
                refine DerX.nil ?_
                refine AWP.ret ?_
                refine FI (.tup [(B6 false), (B6 false), (B6 true), (B6 (a == 2))]) ?_
                refine Shrink.all ?_ rfl
                (exact tup4 (by simp only [numP, true_iff, eq_self_iff_true, Bool.false_eq_true, false_iff, beq_iff_eq, Bool.or_eq_true]; omega) (by simp only [textP, true_iff, eq_self_iff_true, Bool.false_eq_true, false_iff, beq_iff_eq, Bool.or_eq_true]; omega) (by simp only [placeP, true_iff, eq_self_iff_true, Bool.false_eq_true, false_iff, beq_iff_eq, Bool.or_eq_true]; omega) (by simp only [okP, true_iff, eq_self_iff_true, Bool.false_eq_true, false_iff, beq_iff_eq, Bool.or_eq_true]; omega); done)
              · have h7' := eq_of_beq h7
                refine DerX.preI 9 ((True) ∧ ((True) ∧ ((True) ∧ ((True) ∧ ((True) ∧ (True)))))) (by intro ext; kernel_rfl) ⟨trivial, ⟨trivial, ⟨trivial, ⟨trivial, ⟨trivial, trivial⟩⟩⟩⟩⟩ ?_
                refine DerX.nil ?_
                refine AWP.ret ?_
                refine FI (.tup [(B6 false), (B6 true), (B6 true), (B6 true)]) ?_
                refine Shrink.all ?_ rfl
                (exact tup4 (by simp only [numP, true_iff, eq_self_iff_true, Bool.false_eq_true, false_iff, beq_iff_eq, Bool.or_eq_true]; omega) (by simp only [textP, true_iff, eq_self_iff_true, Bool.false_eq_true, false_iff, beq_iff_eq, Bool.or_eq_true]; omega) (by simp only [placeP, true_iff, eq_self_iff_true, Bool.false_eq_true, false_iff, beq_iff_eq, Bool.or_eq_true]; omega) (by simp only [okP, true_iff, eq_self_iff_true, Bool.false_eq_true, false_iff, beq_iff_eq, Bool.or_eq_true]; omega); done)
            · have h6' := ne_of_beq_false h6
              refine AWP.skip ?_
              refine AWP.exit ?_
              refine SQ (RT 4 ?_)
              refine AWP.ret ?_
              refine FI (.tup [(B6 false), (B6 false), (B6 false), (B6 false)]) ?_
              refine Shrink.all ?_ rfl
              (exact tup4 (by simp only [numP, true_iff, eq_self_iff_true, Bool.false_eq_true, false_iff, beq_iff_eq, Bool.or_eq_true]; omega) (by simp only [textP, true_iff, eq_self_iff_true, Bool.false_eq_true, false_iff, beq_iff_eq, Bool.or_eq_true]; omega) (by simp only [placeP, true_iff, eq_self_iff_true, Bool.false_eq_true, false_iff, beq_iff_eq, Bool.or_eq_true]; omega) (by simp only [okP, true_iff, eq_self_iff_true, Bool.false_eq_true, false_iff, beq_iff_eq, Bool.or_eq_true]; omega); done)
  · have h1' := eq_of_beq h1
    refine RI (True ∧ True ∧ 4 < 11 ∧ True ∧ True ∧ True) ⟨trivial, trivial, (by omega), trivial, trivial, trivial⟩ ?_
    refine KL (NN 6 9) ⟨[U6, .ptr 0 0, (B6 false), (B6 false), (B6 false), (B6 false)] ++ UU 9 ++ [(B6 (a == 5))] ++ UU 44, [⟨[(I6 k), (S6 key), (S6 f), (I6 inner), (I6 a), (I6 n), (S6 t), (I6 p), (I6 s), (I6 i), (I6 at_)], 11, .fresh⟩]⟩ ?_
    refine CN (a == 5) (fun h2 => ?_) (fun h2 => ?_)
    · have h2' := eq_of_beq h2
      refine SQ (RT 4 ?_)
      refine AWP.ret ?_
      refine FI (.tup [(B6 false), (B6 false), (B6 false), (B6 true)]) ?_
      refine Shrink.all ?_ rfl
      (exact tup4 (by simp only [numP, true_iff, eq_self_iff_true, Bool.false_eq_true, false_iff, beq_iff_eq, Bool.or_eq_true]; omega) (by simp only [textP, true_iff, eq_self_iff_true, Bool.false_eq_true, false_iff, beq_iff_eq, Bool.or_eq_true]; omega) (by simp only [placeP, true_iff, eq_self_iff_true, Bool.false_eq_true, false_iff, beq_iff_eq, Bool.or_eq_true]; omega) (by simp only [okP, true_iff, eq_self_iff_true, Bool.false_eq_true, false_iff, beq_iff_eq, Bool.or_eq_true]; omega); done)
    · have h2' := ne_of_beq_false h2
      refine AWP.skip (AWP.seq (SQ (PI 1 (11 ≤ 11 ∧ True) ⟨(by omega), trivial⟩ ?_)))
      refine CD (o_leaf k inner a n p s i at_ key f t) ?_
      refine DerQ.nil ?_
      refine AWP.block (AWP.seq (AWP.block (AWP.seq (AWP.block (AWP.seq (AWP.block (AWP.block (AWP.seq (AWP.block (AWP.seq (AWP.seq (AWP.seq (KL [15, 16] ⟨[U6, .ptr 0 0, (B6 false), (B6 false), (B6 false), (B6 false)] ++ UU 11 ++ [(I6 (leafI k inner))] ++ UU 42, [⟨[(I6 k), (S6 key), (S6 f), (I6 inner), (I6 a), (I6 n), (S6 t), (I6 p), (I6 s), (I6 i), (I6 at_)], 11, .fresh⟩]⟩ ?_)))))))))))))
      refine AWP.reg (RT 2 ?_)
      refine KL [19] ⟨[U6, .ptr 0 0, (B6 false), (B6 false), (B6 false), (B6 false)] ++ UU 11 ++ [(I6 (leafI k inner)), (B6 (leafI k inner == 1))] ++ UU 41, [⟨[(I6 k), (S6 key), (S6 f), (I6 inner), (I6 a), (I6 n), (S6 t), (I6 p), (I6 s), (I6 i), (I6 at_)], 11, .fresh⟩]⟩ ?_
      refine CN (leafI k inner == 1) (fun h3 => ?_) (fun h3 => ?_)
      · have h3' := eq_of_beq h3
        refine AWP.exit ?_
        refine AWP.seq (AWP.seq ?_)
        refine AWP.drawX mixed (fun _ => false) (by kernel_rfl) ?_
        refine DerX.preI 8 ((True) ∧ ((True) ∧ (((4 : Nat) < (11 : Nat)) ∧ ((True) ∧ ((True) ∧ ((True) ∧ ((True) ∧ ((True) ∧ (True))))))))) (by intro ext; kernel_rfl) ⟨trivial, ⟨trivial, ⟨(by omega), ⟨trivial, ⟨trivial, ⟨trivial, ⟨trivial, ⟨trivial, trivial⟩⟩⟩⟩⟩⟩⟩⟩ ?_
        refine DerX.nil ?_
        refine AWP.ret ?_
        refine FI (.tup [(B6 true), (B6 false), (B6 false), (B6 (a == 1))]) ?_
        refine Shrink.all ?_ rfl
        (exact tup4 (by simp only [numP, true_iff, eq_self_iff_true, Bool.false_eq_true, false_iff, beq_iff_eq, Bool.or_eq_true]; omega) (by simp only [textP, true_iff, eq_self_iff_true, Bool.false_eq_true, false_iff, beq_iff_eq, Bool.or_eq_true]; omega) (by simp only [placeP, true_iff, eq_self_iff_true, Bool.false_eq_true, false_iff, beq_iff_eq, Bool.or_eq_true]; omega) (by simp only [okP, true_iff, eq_self_iff_true, Bool.false_eq_true, false_iff, beq_iff_eq, Bool.or_eq_true]; omega); done)
      · have h3' := ne_of_beq_false h3
        refine AWP.skip (AWP.seq (SQ (RT 2 ?_)))
        refine KL [18, 21] ⟨[U6, .ptr 0 0, (B6 false), (B6 false), (B6 false), (B6 false)] ++ UU 11 ++ [(I6 (leafI k inner)), U6, U6, (B6 (leafI k inner == 2))] ++ UU 39, [⟨[(I6 k), (S6 key), (S6 f), (I6 inner), (I6 a), (I6 n), (S6 t), (I6 p), (I6 s), (I6 i), (I6 at_)], 11, .fresh⟩]⟩ ?_
        refine CN (leafI k inner == 2) (fun h4 => ?_) (fun h4 => ?_)
        · have h4' := eq_of_beq h4
          refine AWP.exit ?_
          refine AWP.seq (AWP.seq ?_)
          refine AWP.drawX mixed (fun _ => false) (by kernel_rfl) ?_
          refine DerX.preI 8 ((True) ∧ ((True) ∧ (((4 : Nat) < (11 : Nat)) ∧ ((True) ∧ ((True) ∧ ((True) ∧ ((True) ∧ ((True) ∧ (True))))))))) (by intro ext; kernel_rfl) ⟨trivial, ⟨trivial, ⟨(by omega), ⟨trivial, ⟨trivial, ⟨trivial, ⟨trivial, ⟨trivial, trivial⟩⟩⟩⟩⟩⟩⟩⟩ ?_
          refine DerX.nil ?_
          refine AWP.ret ?_
          refine FI (.tup [(B6 false), (B6 true), (B6 false), (B6 (a == 3))]) ?_
          refine Shrink.all ?_ rfl
          (exact tup4 (by simp only [numP, true_iff, eq_self_iff_true, Bool.false_eq_true, false_iff, beq_iff_eq, Bool.or_eq_true]; omega) (by simp only [textP, true_iff, eq_self_iff_true, Bool.false_eq_true, false_iff, beq_iff_eq, Bool.or_eq_true]; omega) (by simp only [placeP, true_iff, eq_self_iff_true, Bool.false_eq_true, false_iff, beq_iff_eq, Bool.or_eq_true]; omega) (by simp only [okP, true_iff, eq_self_iff_true, Bool.false_eq_true, false_iff, beq_iff_eq, Bool.or_eq_true]; omega); done)
        · have h4' := ne_of_beq_false h4
          refine AWP.skip (AWP.seq (SQ (RT 2 ?_)))
          refine KL [20, 23] ⟨[U6, .ptr 0 0, (B6 false), (B6 false), (B6 false), (B6 false)] ++ UU 11 ++ [(I6 (leafI k inner)), U6, U6, U6, U6, (B6 (leafI k inner == 3))] ++ UU 37, [⟨[(I6 k), (S6 key), (S6 f), (I6 inner), (I6 a), (I6 n), (S6 t), (I6 p), (I6 s), (I6 i), (I6 at_)], 11, .fresh⟩]⟩ ?_
          refine CN (leafI k inner == 3) (fun h5 => ?_) (fun h5 => ?_)
          · have h5' := eq_of_beq h5
            refine AWP.exit ?_
            refine AWP.seq (AWP.seq ?_)
            refine AWP.drawX mixed (fun _ => false) (by kernel_rfl) ?_
            refine DerX.preI 8 ((True) ∧ ((True) ∧ (((4 : Nat) < (11 : Nat)) ∧ ((True) ∧ ((True) ∧ ((True) ∧ ((True) ∧ ((True) ∧ (True))))))))) (by intro ext; kernel_rfl) ⟨trivial, ⟨trivial, ⟨(by omega), ⟨trivial, ⟨trivial, ⟨trivial, ⟨trivial, ⟨trivial, trivial⟩⟩⟩⟩⟩⟩⟩⟩ ?_
            refine DerX.nil ?_
            refine AWP.ret ?_
            refine FI (.tup [(B6 false), (B6 true), (B6 false), (B6 (a == 3))]) ?_
            refine Shrink.all ?_ rfl
            (exact tup4 (by simp only [numP, true_iff, eq_self_iff_true, Bool.false_eq_true, false_iff, beq_iff_eq, Bool.or_eq_true]; omega) (by simp only [textP, true_iff, eq_self_iff_true, Bool.false_eq_true, false_iff, beq_iff_eq, Bool.or_eq_true]; omega) (by simp only [placeP, true_iff, eq_self_iff_true, Bool.false_eq_true, false_iff, beq_iff_eq, Bool.or_eq_true]; omega) (by simp only [okP, true_iff, eq_self_iff_true, Bool.false_eq_true, false_iff, beq_iff_eq, Bool.or_eq_true]; omega); done)
          · have h5' := ne_of_beq_false h5
            refine AWP.skip (AWP.seq (SQ (RT 2 ?_)))
            refine KL [22, 25] ⟨[U6, .ptr 0 0, (B6 false), (B6 false), (B6 false), (B6 false)] ++ UU 11 ++ [(I6 (leafI k inner))] ++ UU 6 ++ [(B6 (leafI k inner == 4))] ++ UU 35, [⟨[(I6 k), (S6 key), (S6 f), (I6 inner), (I6 a), (I6 n), (S6 t), (I6 p), (I6 s), (I6 i), (I6 at_)], 11, .fresh⟩]⟩ ?_
            refine CN (leafI k inner == 4) (fun h6 => ?_) (fun h6 => ?_)
            · have h6' := eq_of_beq h6
              refine AWP.exit ?_
              refine AWP.seq (AWP.seq ?_)
              refine AWP.drawX mixed (fun _ => false) (by kernel_rfl) ?_
              refine DerX.preI 5 ((True) ∧ ((True) ∧ (((4 : Nat) < (11 : Nat)) ∧ ((True) ∧ ((True) ∧ (True)))))) (by intro ext; kernel_rfl) ⟨trivial, ⟨trivial, ⟨(by omega), ⟨trivial, ⟨trivial, trivial⟩⟩⟩⟩⟩ ?_
              refine AWP.toX ⟨[U6, .ptr 0 0, (B6 false), (B6 false), (B6 false), (B6 false)] ++ UU 11 ++ [(I6 (leafI k inner))] ++ UU 6 ++ [(B6 (leafI k inner == 4))] ++ UU 11 ++ [.ptr 0 0, .ptr 0 4, (I6 a), (B6 (a == 1)), (B6 (a == 1))] ++ UU 19, [⟨[(I6 k), (S6 key), (S6 f), (I6 inner), (I6 a), (I6 n), (S6 t), (I6 p), (I6 s), (I6 i), (I6 at_)], 11, .fresh⟩]⟩ (by kernel_rfl) ?_
              cases h7 : (a == 1)
              · have h7' := ne_of_beq_false h7
                refine DerX.preI 9 ((True) ∧ ((True) ∧ (((4 : Nat) < (11 : Nat)) ∧ ((True) ∧ ((True) ∧ ((True) ∧ ((True) ∧ ((True) ∧ ((True) ∧ (True)))))))))) (by intro ext; kernel_rfl) ⟨trivial, ⟨trivial, ⟨(by omega), ⟨trivial, ⟨trivial, ⟨trivial, ⟨trivial, ⟨trivial, ⟨trivial, trivial⟩⟩⟩⟩⟩⟩⟩⟩⟩ ?_
                refine DerX.nil ?_
                refine AWP.ret ?_
                refine FI (.tup [(B6 false), (B6 true), (B6 false), (B6 (a == 2))]) ?_
                refine Shrink.all ?_ rfl
                (exact tup4 (by simp only [numP, true_iff, eq_self_iff_true, Bool.false_eq_true, false_iff, beq_iff_eq, Bool.or_eq_true]; omega) (by simp only [textP, true_iff, eq_self_iff_true, Bool.false_eq_true, false_iff, beq_iff_eq, Bool.or_eq_true]; omega) (by simp only [placeP, true_iff, eq_self_iff_true, Bool.false_eq_true, false_iff, beq_iff_eq, Bool.or_eq_true]; omega) (by simp only [okP, true_iff, eq_self_iff_true, Bool.false_eq_true, false_iff, beq_iff_eq, Bool.or_eq_true]; omega); done)
              · have h7' := eq_of_beq h7
                refine DerX.preI 9 ((True) ∧ ((True) ∧ ((True) ∧ ((True) ∧ ((True) ∧ (True)))))) (by intro ext; kernel_rfl) ⟨trivial, ⟨trivial, ⟨trivial, ⟨trivial, ⟨trivial, trivial⟩⟩⟩⟩⟩ ?_
                refine DerX.nil ?_
                refine AWP.ret ?_
                refine FI (.tup [(B6 false), (B6 true), (B6 false), (B6 true)]) ?_
                refine Shrink.all ?_ rfl
                (exact tup4 (by simp only [numP, true_iff, eq_self_iff_true, Bool.false_eq_true, false_iff, beq_iff_eq, Bool.or_eq_true]; omega) (by simp only [textP, true_iff, eq_self_iff_true, Bool.false_eq_true, false_iff, beq_iff_eq, Bool.or_eq_true]; omega) (by simp only [placeP, true_iff, eq_self_iff_true, Bool.false_eq_true, false_iff, beq_iff_eq, Bool.or_eq_true]; omega) (by simp only [okP, true_iff, eq_self_iff_true, Bool.false_eq_true, false_iff, beq_iff_eq, Bool.or_eq_true]; omega); done)
            · have h6' := ne_of_beq_false h6
              refine AWP.skip (SQ (RT 2 ?_))
              refine KL [17, 24, 27] ⟨[U6, .ptr 0 0, (B6 false), (B6 false), (B6 false), (B6 false)] ++ UU 20 ++ [(B6 (leafI k inner == 5))] ++ UU 33, [⟨[(I6 k), (S6 key), (S6 f), (I6 inner), (I6 a), (I6 n), (S6 t), (I6 p), (I6 s), (I6 i), (I6 at_)], 11, .fresh⟩]⟩ ?_
              refine CN (leafI k inner == 5) (fun h7 => ?_) (fun h7 => ?_)
              · have h7' := eq_of_beq h7
                refine AWP.exit ?_
                refine AWP.seq (AWP.seq ?_)
                refine AWP.drawX mixed (fun _ => false) (by kernel_rfl) ?_
                refine DerX.preI 9 ((True) ∧ ((True) ∧ (((4 : Nat) < (11 : Nat)) ∧ ((True) ∧ ((True) ∧ ((True) ∧ (((4 : Nat) < (11 : Nat)) ∧ ((True) ∧ ((True) ∧ (True)))))))))) (by intro ext; kernel_rfl) ⟨trivial, ⟨trivial, ⟨(by omega), ⟨trivial, ⟨trivial, ⟨trivial, ⟨(by omega), ⟨trivial, ⟨trivial, trivial⟩⟩⟩⟩⟩⟩⟩⟩⟩ ?_
                refine AWP.toX ⟨[U6, .ptr 0 0, (B6 false), (B6 false), (B6 false), (B6 false)] ++ UU 20 ++ [(B6 (leafI k inner == 5))] ++ UU 19 ++ [.ptr 0 0, .ptr 0 4, (I6 a), (B6 (a == 4)), .ptr 0 0, .ptr 0 4, (I6 a), (B6 (a == 4)), (B6 (a == 4))] ++ UU 5, [⟨[(I6 k), (S6 key), (S6 f), (I6 inner), (I6 a), (I6 n), (S6 t), (I6 p), (I6 s), (I6 i), (I6 at_)], 11, .fresh⟩]⟩ (by kernel_rfl) ?_
                cases h8 : (a == 4)
                · have h8' := ne_of_beq_false h8
                  refine DerX.preI 9 ((True) ∧ ((True) ∧ (((4 : Nat) < (11 : Nat)) ∧ ((True) ∧ ((True) ∧ ((True) ∧ ((True) ∧ ((True) ∧ ((True) ∧ (True)))))))))) (by intro ext; kernel_rfl) ⟨trivial, ⟨trivial, ⟨(by omega), ⟨trivial, ⟨trivial, ⟨trivial, ⟨trivial, ⟨trivial, ⟨trivial, trivial⟩⟩⟩⟩⟩⟩⟩⟩⟩ ?_
                  refine DerX.nil ?_
                  refine AWP.ret ?_
                  refine FI (.tup [(B6 false), (B6 false), (B6 true), (B6 (a == 2))]) ?_
                  refine Shrink.all ?_ rfl
                  (exact tup4 (by simp only [numP, true_iff, eq_self_iff_true, Bool.false_eq_true, false_iff, beq_iff_eq, Bool.or_eq_true]; omega) (by simp only [textP, true_iff, eq_self_iff_true, Bool.false_eq_true, false_iff, beq_iff_eq, Bool.or_eq_true]; omega) (by simp only [placeP, true_iff, eq_self_iff_true, Bool.false_eq_true, false_iff, beq_iff_eq, Bool.or_eq_true]; omega) (by simp only [okP, true_iff, eq_self_iff_true, Bool.false_eq_true, false_iff, beq_iff_eq, Bool.or_eq_true]; omega); done)
                · have h8' := eq_of_beq h8
                  refine DerX.preI 9 ((True) ∧ ((True) ∧ ((True) ∧ ((True) ∧ ((True) ∧ (True)))))) (by intro ext; kernel_rfl) ⟨trivial, ⟨trivial, ⟨trivial, ⟨trivial, ⟨trivial, trivial⟩⟩⟩⟩⟩ ?_
                  refine DerX.nil ?_
                  refine AWP.ret ?_
                  refine FI (.tup [(B6 false), (B6 true), (B6 true), (B6 true)]) ?_
                  refine Shrink.all ?_ rfl
                  (exact tup4 (by simp only [numP, true_iff, eq_self_iff_true, Bool.false_eq_true, false_iff, beq_iff_eq, Bool.or_eq_true]; omega) (by simp only [textP, true_iff, eq_self_iff_true, Bool.false_eq_true, false_iff, beq_iff_eq, Bool.or_eq_true]; omega) (by simp only [placeP, true_iff, eq_self_iff_true, Bool.false_eq_true, false_iff, beq_iff_eq, Bool.or_eq_true]; omega) (by simp only [okP, true_iff, eq_self_iff_true, Bool.false_eq_true, false_iff, beq_iff_eq, Bool.or_eq_true]; omega); done)
              · have h7' := ne_of_beq_false h7
                refine AWP.skip ?_
                refine AWP.exit ?_
                refine SQ (RT 4 ?_)
                refine AWP.ret ?_
                refine FI (.tup [(B6 false), (B6 false), (B6 false), (B6 false)]) ?_
                refine Shrink.all ?_ rfl
                (exact tup4 (by simp only [numP, true_iff, eq_self_iff_true, Bool.false_eq_true, false_iff, beq_iff_eq, Bool.or_eq_true]; omega) (by simp only [textP, true_iff, eq_self_iff_true, Bool.false_eq_true, false_iff, beq_iff_eq, Bool.or_eq_true]; omega) (by simp only [placeP, true_iff, eq_self_iff_true, Bool.false_eq_true, false_iff, beq_iff_eq, Bool.or_eq_true]; omega) (by simp only [okP, true_iff, eq_self_iff_true, Bool.false_eq_true, false_iff, beq_iff_eq, Bool.or_eq_true]; omega); done)
end Go.Ops
