/- Walks and laws. -/
import Derived.Test.YtfkilkfaiiijbaaOps6
import Derived.Test.YtfkilkfaiiijbaaCnt0
import Derived.Test.YtfkilkfaiiijbaaLibC
set_option maxRecDepth 100000
set_option maxHeartbeats 0
set_option linter.unusedSimpArgs false
set_option linter.unusedVariables false
namespace Go.Cnt
open Go Go.Abs Go.Proofs Go.Ops
theorem within (n far : Int) (h : -9223372036854775807 ≤ far ∧ far ≤ 9223372036854775807) : EvD Try.prog 72 [.sc (.int .i64 n), .sc (.int .i64 far)] (.sc (.bool (decide (-far ≤ n ∧ n ≤ far)))) := by
  refine EvD.body Try.func72 rfl rfl rfl ?_
  refine SQ ?_
  refine DerQ.run (True ∧ True) ⟨[(I6 n), (I6 far), U6, U6, (B6 false)] ++ UU 9, []⟩ (by kernel_rfl) ⟨trivial, trivial⟩ ?_
  refine SQ ?_
  refine DerQ.pre 5 (TT 5) ⟨[(I6 n), (I6 far), U6, U6, (B6 false), (I6 n), (I6 far), (I6 (IntKind.wrap IntKind.i64 (0 - far))), (B6 (decide (n ≥ IntKind.wrap IntKind.i64 (0 - far)))), (B6 (decide (n ≥ IntKind.wrap IntKind.i64 (0 - far)))), U6, U6, U6, .undef], []⟩ (by kernel_rfl) (tt 5) ?_
  rw [IntWalk.i64_in (0 - far) (by omega)]
  cases h1 : (decide (n ≥ 0 - far))
  · have h1' := of_decide_eq_false h1
    refine DerQ.run (TT 2) ⟨[(I6 n), (I6 far), U6, U6, (B6 false), (I6 n), (I6 far), (I6 (0 - far)), (B6 false), (B6 false), .tup [], .tup [], .tup [], (B6 false)], []⟩ (by kernel_rfl) (tt 2) ?_
    refine AWP.ret ?_
    refine FI (B6 false) ?_
    refine Shrink.all ?_ rfl
    ((first | refine congrArg B6 ?_ | refine congrArg I6 ?_ | congr 2); rw [Bool.eq_iff_iff]; simp only [decide_eq_true_eq, Bool.false_eq_true, false_iff, true_iff, Bool.and_eq_true, Bool.or_eq_true, Bool.not_eq_true', Bool.not_eq_true, Bool.not_eq_false', decide_eq_false_iff_not, iff_true, iff_false, beq_iff_eq, beq_eq_false_iff_ne, ge_iff_le, gt_iff_lt, ne_eq, bne_iff_ne, not_true_eq_false, not_false_eq_true] at *; omega; done)
  · have h1' := of_decide_eq_true h1
    refine DerQ.run (TT 5) ⟨[(I6 n), (I6 far), U6, U6, (B6 (decide (n ≤ far))), (I6 n), (I6 far), (I6 (0 - far)), (B6 true), (B6 true), (I6 n), (I6 far), (B6 (decide (n ≤ far))), (B6 (decide (n ≤ far)))], []⟩ (by kernel_rfl) (tt 5) ?_
    refine AWP.ret ?_
    refine FI (B6 (decide (n ≤ far))) ?_
    refine Shrink.all ?_ rfl
    ((first | refine congrArg B6 ?_ | refine congrArg I6 ?_ | congr 2); rw [Bool.eq_iff_iff]; simp only [decide_eq_true_eq, Bool.false_eq_true, false_iff, true_iff, Bool.and_eq_true, Bool.or_eq_true, Bool.not_eq_true', Bool.not_eq_true, Bool.not_eq_false', decide_eq_false_iff_not, iff_true, iff_false, beq_iff_eq, beq_eq_false_iff_ne, ge_iff_le, gt_iff_lt, ne_eq, bne_iff_ne, not_true_eq_false, not_false_eq_true] at *; omega; done)
def lessA (a b : AmtD) : Prop := lessP a.p a.s a.i b.p b.s b.i
instance (a b : AmtD) : Decidable (lessA a b) := by unfold lessA; infer_instance
def badA (a : AmtD) : Prop := ¬ (-1073741824 ≤ a.n ∧ a.n ≤ 1073741824) ∨ a.i < 1
instance (a : AmtD) : Decidable (badA a) := by unfold badA; infer_instance
theorem bad (a : AmtD) : EvD Try.prog 73 [.agg (amc a)] (.sc (.bool (decide (badA a)))) := by
  refine EvD.body Try.func73 rfl rfl rfl ?_
  refine SQ ?_
  refine DerQ.run (TT 2) ⟨[.agg [(I6 (a.p)), (I6 (a.s)), (I6 (a.i)), (I6 (a.n))], .ptr 0 0, (B6 false)] ++ UU 10, [⟨[(I6 (a.p)), (I6 (a.s)), (I6 (a.i)), (I6 (a.n))], 4, .fresh⟩]⟩ (by kernel_rfl) (tt 2) ?_
  refine SQ ?_
  refine DerQ.pre 2 (True ∧ (3 < List.length [(I6 a.p), (I6 a.s), (I6 a.i), (I6 a.n)]) ∧ True) ⟨[.agg [(I6 (a.p)), (I6 (a.s)), (I6 (a.i)), (I6 (a.n))], .ptr 0 0, (B6 false), .ptr 0 3, (I6 (a.n))] ++ UU 8, [⟨[(I6 (a.p)), (I6 (a.s)), (I6 (a.i)), (I6 (a.n))], 4, .fresh⟩]⟩ (by kernel_rfl) ⟨trivial, (by simp), trivial⟩ ?_
  refine DerQ.callD (within a.n ((1073741824 : Int)) ⟨(by omega), (by omega)⟩) ⟨[.agg [(I6 (a.p)), (I6 (a.s)), (I6 (a.i)), (I6 (a.n))], .ptr 0 0, (B6 false), .ptr 0 3, (I6 (a.n)), (B6 (decide (-1073741824 ≤ a.n ∧ a.n ≤ 1073741824)))] ++ UU 7, [⟨[(I6 (a.p)), (I6 (a.s)), (I6 (a.i)), (I6 (a.n))], 4, .fresh⟩]⟩ ⟨by kernel_rfl, by kernel_rfl, by kernel_rfl⟩ ?_
  refine DerQ.pre 2 (TT 2) ⟨[.agg [(I6 (a.p)), (I6 (a.s)), (I6 (a.i)), (I6 (a.n))], .ptr 0 0, (B6 false), .ptr 0 3, (I6 (a.n)), (B6 (decide (-1073741824 ≤ a.n ∧ a.n ≤ 1073741824))), (B6 (!decide (-1073741824 ≤ a.n ∧ a.n ≤ 1073741824))), (B6 (!decide (-1073741824 ≤ a.n ∧ a.n ≤ 1073741824)))] ++ UU 5, [⟨[(I6 (a.p)), (I6 (a.s)), (I6 (a.i)), (I6 (a.n))], 4, .fresh⟩]⟩ (by kernel_rfl) (tt 2) ?_
  cases h1 : (!decide (-1073741824 ≤ a.n ∧ a.n ≤ 1073741824))
  · have h1' := h1
    simp only [Bool.and_eq_true, Bool.and_eq_false_iff, Bool.or_eq_true, Bool.or_eq_false_iff, Bool.not_eq_true', Bool.not_eq_false', beq_iff_eq, beq_eq_false_iff_ne, decide_eq_true_eq, decide_eq_false_iff_not, ne_eq] at h1'
    refine DerQ.run (True ∧ True ∧ (2 < List.length [(I6 a.p), (I6 a.s), (I6 a.i), (I6 a.n)]) ∧ True ∧ True ∧ True ∧ True) ⟨[.agg [(I6 (a.p)), (I6 (a.s)), (I6 (a.i)), (I6 (a.n))], .ptr 0 0, (B6 (decide (a.i < 1))), .ptr 0 3, (I6 (a.n)), (B6 (decide (-1073741824 ≤ a.n ∧ a.n ≤ 1073741824))), (B6 false), (B6 false), .ptr 0 0, .ptr 0 2, (I6 (a.i)), (B6 (decide (a.i < 1))), (B6 (decide (a.i < 1)))], [⟨[(I6 (a.p)), (I6 (a.s)), (I6 (a.i)), (I6 (a.n))], 4, .fresh⟩]⟩ (by kernel_rfl) ⟨trivial, trivial, (by simp), trivial, trivial, trivial, trivial⟩ ?_
    refine AWP.ret ?_
    refine FI (B6 (decide (a.i < 1))) ?_
    refine Shrink.all ?_ rfl
    ((first | refine congrArg B6 ?_ | refine congrArg I6 ?_ | congr 2); rw [Bool.eq_iff_iff]; simp [badA, *] <;> omega; done)
  · have h1' := h1
    simp only [Bool.and_eq_true, Bool.and_eq_false_iff, Bool.or_eq_true, Bool.or_eq_false_iff, Bool.not_eq_true', Bool.not_eq_false', beq_iff_eq, beq_eq_false_iff_ne, decide_eq_true_eq, decide_eq_false_iff_not, ne_eq] at h1'
    refine DerQ.run (TT 2) ⟨[.agg [(I6 (a.p)), (I6 (a.s)), (I6 (a.i)), (I6 (a.n))], .ptr 0 0, (B6 true), .ptr 0 3, (I6 (a.n)), (B6 (decide (-1073741824 ≤ a.n ∧ a.n ≤ 1073741824))), (B6 true), (B6 true), .tup [], .tup [], .tup [], .tup [], (B6 true)], [⟨[(I6 (a.p)), (I6 (a.s)), (I6 (a.i)), (I6 (a.n))], 4, .fresh⟩]⟩ (by kernel_rfl) (tt 2) ?_
    refine AWP.ret ?_
    refine FI (B6 true) ?_
    refine Shrink.all ?_ rfl
    ((first | refine congrArg B6 ?_ | refine congrArg I6 ?_ | congr 2); rw [Bool.eq_iff_iff]; simp [badA, *] <;> omega; done)
def upP (l : List AmtD) : Prop := ∀ i, i < l.length → 1 ≤ i → lessA (l.getD (i - 1) am0) (l.getD i am0)
instance (l : List AmtD) : Decidable (upP l) := by unfold upP; infer_instance
theorem dec_no {p : Prop} [Decidable p] (h : ¬ p) : AVal.sc (.bool false) = .sc (.bool (decide p)) := by rw [decide_eq_false h]
theorem dec_yes {p : Prop} [Decidable p] (h : p) : AVal.sc (.bool true) = .sc (.bool (decide p)) := by rw [decide_eq_true h]
theorem succ_all {P : Nat → Prop} {i : Nat} (hd : ∀ j, j < i → P j) (h : P i) : ∀ j, j < i + 1 → P j := by
  intro j hj
  by_cases e : j = i
  · subst e; exact h
  · exact hd j (by omega)
def idxA : List AmtD → Nat → Int
  | [], _ => -1
  | a :: l, k => if badA a then k else idxA l (k + 1)
theorem idxA_ge (l : List AmtD) (k : Nat) : (∃ i, i < l.length ∧ badA (l.getD i am0)) ↔ 0 ≤ idxA l k := by
  induction l generalizing k with
  | nil => simp [idxA]
  | cons a l ih =>
    simp only [idxA]
    split
    · rename_i h; exact ⟨fun _ => by omega, fun _ => ⟨0, by simp, h⟩⟩
    · rename_i h
      rw [← ih (k + 1)]
      constructor
      · rintro ⟨i, hi, hb⟩
        cases i with
        | zero => exact absurd hb h
        | succ i => exact ⟨i, by simpa using hi, by simpa using hb⟩
      · rintro ⟨i, hi, hb⟩; exact ⟨i + 1, by simpa using hi, by simpa using hb⟩
theorem idxA_at (l : List AmtD) : ∀ (i k : Nat), i < l.length → (∀ j, j < i → ¬ badA (l.getD j am0)) → badA (l.getD i am0) → idxA l k = ((i + k : Nat) : Int) := by
  induction l with
  | nil => intro i k hi; simp at hi
  | cons a l ih =>
    intro i k hi hd hb
    cases i with
    | zero => simp only [idxA]; rw [if_pos (by simpa using hb)]; simp
    | succ i =>
      have h0 : ¬ badA a := by simpa using hd 0 (by omega)
      simp only [idxA]
      rw [if_neg h0, ih i (k + 1) (by simpa using hi) (fun j hj => by simpa using hd (j + 1) (by omega)) (by simpa using hb)]
      congr 1; omega
theorem idxA_none (l : List AmtD) (k : Nat) (hd : ∀ j, j < l.length → ¬ badA (l.getD j am0)) : idxA l k = -1 := by
  induction l generalizing k with
  | nil => rfl
  | cons a l ih =>
    have h0 : ¬ badA a := by simpa using hd 0 (by simp)
    simp only [idxA]
    rw [if_neg h0]
    exact ih (k + 1) (fun j hj => by simpa using hd (j + 1) (by simpa using hj))
theorem index (l : List AmtD) (hx : l.length ≤ 1000) : EvD Try.prog 102 [.sl (amsc l) l.length .any, .fn 73 []] (.sc (.int .i64 (idxA l 0))) := by
  refine EvD.body Try.func102 rfl rfl rfl ?_
  refine SQ ?_
  refine DerQ.run (True ∧ True) ⟨[.sl (amsc l) (l.length) .any, .fn 73 [], U6, U6, (I6 0)] ++ UU 14, []⟩ (by kernel_rfl) ⟨trivial, trivial⟩ ?_
  refine AWP.seq (SQ ?_)
  refine DerQ.run (TT 3) ⟨[.sl (amsc l) (l.length) .any, .fn 73 [], U6, U6, (I6 0), U6, .sl (amsc l) (l.length) .any, (I6 (↑(l.length) : Int)), (I6 0)] ++ UU 10, []⟩ (by kernel_rfl) (tt 3) ?_
  refine AWP.block ?_
  refine AWP.loopM [true, true, false, false, true, false, true, true, true, false, false, false, false, false, false, false, false, false, false] (fun kk st => ∃ (i : Nat), kk = l.length - i ∧ i ≤ l.length ∧ (∀ j, j < i → ¬ badA (l.getD j am0)) ∧ st = ⟨[.sl (amsc l) (l.length) .any, .fn 73 [], U6, U6, (I6 0), U6, .sl (amsc l) (l.length) .any, (I6 (↑(l.length) : Int)), (I6 (i : Int)), U6, U6, U6, U6, U6, U6, U6, U6, U6, .undef], []⟩) _ ⟨0, rfl, by omega, by omega, rfl⟩ ?_
  rintro kk s ⟨i, rfl, hi, hd, rfl⟩
  refine SQ ?_
  refine DerQ.run (True ∧ True) ⟨[.sl (amsc l) (l.length) .any, .fn 73 [], U6, U6, (I6 0), U6, .sl (amsc l) (l.length) .any, (I6 (↑(l.length) : Int)), (I6 i), (B6 (decide ((↑i : Int) < (↑(l.length) : Int))))] ++ UU 9, []⟩ (by kernel_rfl) ⟨trivial, trivial⟩ ?_
  refine AWP.seq ?_
  refine CN (decide ((↑i : Int) < (↑(l.length) : Int))) (fun h1 => ?_) (fun h1 => ?_)
  · have h1' := of_decide_eq_true h1
    refine AWP.skip (AWP.seq (AWP.block (SQ ?_)))
    refine DerQ.run (TT 2) ⟨[.sl (amsc l) (l.length) .any, .fn 73 [], U6, U6, (I6 0), (I6 i), .sl (amsc l) (l.length) .any, (I6 (↑(l.length) : Int)), (I6 i), (B6 (decide ((↑i : Int) < (↑(l.length) : Int)))), (I6 i)] ++ UU 8, []⟩ (by kernel_rfl) (tt 2) ?_
    refine SQ ?_
    refine DerQ.pre 5 (True ∧ True ∧ True ∧ (((0 ≤ (↑i : Int)) ∧ ((↑i : Int) < (↑(l.length) : Int))) ∧ (Int.toNat i * 4 + 4 ≤ (amsc l).length)) ∧ (4 ≤ List.length [(amsc l).getD (Int.toNat i * 4 + 0) U6, (amsc l).getD (Int.toNat i * 4 + 1) U6, (amsc l).getD (Int.toNat i * 4 + 2) U6, (amsc l).getD (Int.toNat i * 4 + 3) AVal.undef]) ∧ True) ⟨[.sl (amsc l) (l.length) .any, .fn 73 [], U6, U6, (I6 0), (I6 i), .sl (amsc l) (l.length) .any, (I6 (↑(l.length) : Int)), (I6 i), (B6 (decide ((↑i : Int) < (↑(l.length) : Int)))), (I6 i), .fn 73 [], .sl (amsc l) (l.length) .any, (I6 i), .dptr [(amsc l).getD (Int.toNat i * 4 + 0) U6, (amsc l).getD (Int.toNat i * 4 + 1) U6, (amsc l).getD (Int.toNat i * 4 + 2) U6, (amsc l).getD (Int.toNat i * 4 + 3) AVal.undef], .agg [(amsc l).getD (Int.toNat i * 4 + 0) U6, (amsc l).getD (Int.toNat i * 4 + 1) U6, (amsc l).getD (Int.toNat i * 4 + 2) U6, (amsc l).getD (Int.toNat i * 4 + 3) AVal.undef], U6, U6, .undef], []⟩ (by kernel_rfl) ⟨trivial, trivial, trivial, ⟨⟨(by omega), (by omega)⟩, (by (simp [spliceA_length] <;> omega))⟩, (by simp), trivial⟩ ?_
    rw [Int.toNat_natCast (i)]
    rw [Nat.add_zero (i * 4)]
    rw [Go.Cnt.amsc_cells (l) (i) (by omega)]
    refine DerQ.callD (bad (l.getD i am0)) ⟨[.sl (amsc l) (l.length) .any, .fn 73 [], U6, U6, (I6 0), (I6 i), .sl (amsc l) (l.length) .any, (I6 (↑(l.length) : Int)), (I6 i), (B6 (decide ((↑i : Int) < (↑(l.length) : Int)))), (I6 i), .fn 73 [], .sl (amsc l) (l.length) .any, (I6 i), .dptr [(I6 ((l.getD i am0).p)), (I6 ((l.getD i am0).s)), (I6 ((l.getD i am0).i)), (I6 ((l.getD i am0).n))], .agg [(I6 ((l.getD i am0).p)), (I6 ((l.getD i am0).s)), (I6 ((l.getD i am0).i)), (I6 ((l.getD i am0).n))], (B6 (decide (badA (l.getD i am0)))), U6, .undef], []⟩ ⟨by kernel_rfl, by kernel_rfl, by kernel_rfl⟩ ?_
    refine DerQ.nil ?_
    refine CN (decide (badA (l.getD i am0))) (fun h2 => ?_) (fun h2 => ?_)
    · have h2' := of_decide_eq_true h2
      refine SQ ?_
      refine DerQ.run (TT 2) ⟨[.sl (amsc l) (l.length) .any, .fn 73 [], U6, U6, (I6 i), (I6 i), .sl (amsc l) (l.length) .any, (I6 (↑(l.length) : Int)), (I6 i), (B6 (decide ((↑i : Int) < (↑(l.length) : Int)))), (I6 i), .fn 73 [], .sl (amsc l) (l.length) .any, (I6 i), .dptr [(I6 ((l.getD i am0).p)), (I6 ((l.getD i am0).s)), (I6 ((l.getD i am0).i)), (I6 ((l.getD i am0).n))], .agg [(I6 ((l.getD i am0).p)), (I6 ((l.getD i am0).s)), (I6 ((l.getD i am0).i)), (I6 ((l.getD i am0).n))], (B6 (decide (badA (l.getD i am0)))), (I6 i), .undef], []⟩ (by kernel_rfl) (tt 2) ?_
      refine AWP.ret ?_
      refine FI (I6 i) ?_
      refine Shrink.all ?_ rfl
      (rw [idxA_at l i 0 (by omega) hd (by assumption)]; rfl; done)
    · have h2' := of_decide_eq_false h2
      refine AWP.skip (AWP.reg ?_)
      refine DerQ.run (TT 2) ⟨[.sl (amsc l) (l.length) .any, .fn 73 [], U6, U6, (I6 0), (I6 i), .sl (amsc l) (l.length) .any, (I6 (↑(l.length) : Int)), (I6 (IntKind.wrap IntKind.i64 ((↑i : Int) + 1))), (B6 (decide ((↑i : Int) < (↑(l.length) : Int)))), (I6 i), .fn 73 [], .sl (amsc l) (l.length) .any, (I6 i), .dptr [(I6 ((l.getD i am0).p)), (I6 ((l.getD i am0).s)), (I6 ((l.getD i am0).i)), (I6 ((l.getD i am0).n))], .agg [(I6 ((l.getD i am0).p)), (I6 ((l.getD i am0).s)), (I6 ((l.getD i am0).i)), (I6 ((l.getD i am0).n))], (B6 (decide (badA (l.getD i am0)))), U6, (I6 (IntKind.wrap IntKind.i64 ((↑i : Int) + 1)))], []⟩ (by kernel_rfl) (tt 2) ?_
      rw [IntWalk.i64_in ((↑i : Int) + 1) (by omega)]
      (exact ⟨_, by omega, i + 1, rfl, by omega, succ_all hd (by assumption), by kernel_rfl⟩; done)
  · have h1' := of_decide_eq_false h1
    refine AWP.exit ?_
    refine SQ ?_
    refine DerQ.run (True ∧ True) ⟨[.sl (amsc l) (l.length) .any, .fn 73 [], U6, U6, (I6 (-1)), U6, .sl (amsc l) (l.length) .any, (I6 (↑(l.length) : Int)), (I6 i), (B6 (decide ((↑i : Int) < (↑(l.length) : Int))))] ++ UU 9, []⟩ (by kernel_rfl) ⟨trivial, trivial⟩ ?_
    refine AWP.ret ?_
    refine FI (I6 (-1)) ?_
    refine Shrink.all ?_ rfl
    (rw [idxA_none l 0 (fun j hj => hd j (by omega))]; done)
end Go.Cnt
